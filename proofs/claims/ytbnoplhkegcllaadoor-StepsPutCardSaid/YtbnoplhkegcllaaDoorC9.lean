/-
  The contracts of the functions that the laws of ways and of order reach, at this program.
-/
import Derived.Test.YtbnoplhkegcllaaDoorRows
import Derived.Test.YtbnoplhkegcllaaDoorGkLay
import Derived.Test.YtbnoplhkegcllaaDoorPkC
import Derived.Test.YtbnoplhkegcllaaDoorPkG
import Derived.Lay
import Derived.LaidOnce
import Derived.MakeChecks
namespace Go.Proofs.YtbnoplhkegcllaaDoor
open Go Go.Gk Go.Gk.Val Go.Proofs Go.RowKit Go.Shelf
/-- The tables. -/
abbrev T : PHeap → Prop := Tab3 0 1 2
theorem hTm {d d' : PHeap} (hl : Le d d') (h : T d) : T d' := h.mono hl
theorem hTtensV {d : PHeap} (h : T d) : DCs d 2 0 tensV := h.2
theorem hTutf {d : PHeap} (h : T d) : UtfT (Tryd.laysValid_ren.g 3) (Tryd.laysValid_ren.g 4) d := h.1
theorem h_thimbleref03_Bulk : BulkOk Tryd.prog 37 := bulk_ok (f := 37) (hd := by kernel_rfl)
theorem h_thimblelaw08_great : GreatOk Tryd.prog 15 := great_ok (f := 15) (f1 := 37) (hd := by kernel_rfl) (h1 := h_thimbleref03_Bulk)
theorem h_thimblelaw08_field : FieldOk Tryd.prog 27 := field_ok (f := 27) (hd := by kernel_rfl)
theorem h_thimblelaw08_index : IndexOk Tryd.prog 38 := index_ok (f := 38) (hd := by kernel_rfl)
theorem h_value_every_api_Value : EveryOk Tryd.prog 87 := every_ok (f := 87) (hd := by kernel_rfl)
theorem h_value_shallow : ShallowOk Tryd.prog 66 := shallow_ok (f := 66) (f1 := 88) (f2 := 87) (hd := by kernel_rfl) (h1 := by kernel_rfl) (h2 := h_value_every_api_Value)
theorem h_value_bare : BareOk Tryd.prog 89 := bare_ok (f := 89) (hd := by kernel_rfl)
theorem h_num_zero : ZeroOk Tryd.prog 112 := zero_ok (f := 112) (hd := by kernel_rfl)
theorem h_num_size : SizeOk Tryd.prog 100 := size_ok (f := 100) (hd := by kernel_rfl)
theorem h_num_Right : NumOk T Tryd.prog 90 := num_ok (f := 90) (f1 := 112) (g2 := 2) (f3 := 100) (hT := fun d h => hTtensV h) (hd := by kernel_rfl) (h1 := h_num_zero) (h3 := h_num_size)
theorem h_unicode_utf8_ValidString : VsOk T Tryd.prog 81 := vs_ok (ρ := Tryd.laysValid_ren) Tryd.laysValid ⟨_, Tryd.func81, by kernel_rfl, by kernel_rfl⟩ (fun d h => hTutf h)
theorem h_quote_Right : QuoteOk T Tryd.prog 56 := quote_ok (f := 56) (f1 := 81) (hd := by kernel_rfl) (h1 := h_unicode_utf8_ValidString)
theorem h_value_rising : RisingOk T Tryd.prog 91 := rising_ok (f := 91) (f1 := 56) (hd := by kernel_rfl) (h1 := h_quote_Right)
theorem h_value_may : MayOk T Tryd.prog 67 := may_ok (f := 67) (f1 := 89) (f2 := 90) (f3 := 56) (f4 := 91) (f5 := 87) (hd := by kernel_rfl) (h1 := h_value_bare) (h2 := h_num_Right) (h3 := h_quote_Right) (h4 := h_value_rising) (h5 := h_value_every_api_Value)
theorem h_value_Right : RightOk T Tryd.prog 45 := right_ok (f := 45) (f1 := 66) (f2 := 67) (hd := by kernel_rfl) (h1 := h_value_shallow) (h2 := h_value_may)
theorem h_steps_wrong : WrongOk T Tryd.prog 39 := wrong_ok (f := 39) (f1 := 45) (f2 := 56) (hd := by kernel_rfl) (h1 := h_value_Right) (h2 := h_quote_Right)
theorem h_cmp_isNaN_string : NanOk Tryd.prog 110 := nan_cmp_isNaN_string (f := 110) (hd := by kernel_rfl)
theorem h_cmp_Less_string : LessOk Tryd.prog 82 := less_ok (f := 82) (f1 := 110) (hd := by kernel_rfl) (h1 := h_cmp_isNaN_string)
theorem h_slices_isNaN_string : NanOk Tryd.prog 83 := nan_slices_isNaN_string (f := 83) (hd := by kernel_rfl)
theorem h_slices_BinarySearch_string_string : SearchOk Tryd.prog 57 := search_ok (f := 57) (f1 := 82) (f2 := 83) (hd := by kernel_rfl) (h1 := h_cmp_Less_string) (h2 := h_slices_isNaN_string)
theorem h_steps_place : PlaceOk Tryd.prog 58 := place_ok (f := 58) (hd := by kernel_rfl)
theorem h_steps_ends : EndsOk Tryd.prog 59 := ends_ok (f := 59) (f1 := 58) (hd := by kernel_rfl) (h1 := h_steps_place)
theorem h_steps_into : IntoOk Tryd.prog 40 := into_ok (f := 40) (f1 := 57) (f2 := 58) (f3 := 59) (hd := by kernel_rfl) (h1 := h_slices_BinarySearch_string_string) (h2 := h_steps_place) (h3 := h_steps_ends)
theorem h_steps_cut_string : CutOk 1 RStr Tryd.prog 95 := cut_string (f := 95) (hd := by kernel_rfl)
theorem h_steps_cut_api_Value : CutOk 6 RVal Tryd.prog 93 := cut_api_Value (f := 93) (hd := by kernel_rfl)
theorem h_steps_keyed : KeyedOk Tryd.prog 92 := keyed_ok (f := 92) (f1 := 57) (f2 := 95) (f3 := 93) (hd := by kernel_rfl) (h1 := h_slices_BinarySearch_string_string) (h2 := h_steps_cut_string) (h3 := h_steps_cut_api_Value)
theorem h_steps_set : SetOk Tryd.prog 68 := set_ok (f := 68) (f1 := 92) (f2 := 58) (f3 := 93) (f4 := 59) (hd := by kernel_rfl) (h1 := h_steps_keyed) (h2 := h_steps_place) (h3 := h_steps_cut_api_Value) (h4 := h_steps_ends)
theorem h_steps_put : PutROk Tryd.prog 46 := putr_ok (f := 46) (f1 := 40) (f2 := 68) (hd := by kernel_rfl) (h1 := h_steps_into) (h2 := h_steps_set)
theorem h_slices_Clone_string_string : CloneOk RStr 16 Tryd.prog 60 := clone_str (f := 60) (hd := by kernel_rfl)
theorem h_value_Copy : VCopyOk Tryd.prog 41 := vcopy_ok (f := 41) (f1 := 60) (hd := by kernel_rfl) (h1 := h_slices_Clone_string_string)
theorem h_steps_Put : PutOk T Tryd.prog 22 := put_ok (f := 22) (f1 := 45) (f2 := 39) (f3 := 46) (f4 := 41) (hT := hTm) (hd := by kernel_rfl) (h1 := h_value_Right) (h2 := h_steps_wrong) (h3 := h_steps_put) (h4 := h_value_Copy)
theorem h_steps_Get : GetOk T Tryd.prog 18 := get_ok (f := 18) (f1 := 39) (f2 := 40) (f3 := 41) (hd := by kernel_rfl) (h1 := h_steps_wrong) (h2 := h_steps_into) (h3 := h_value_Copy)
theorem h_steps_without : WithoutOk Tryd.prog 70 := without_ok (f := 70) (f1 := 57) (f2 := 95) (f3 := 93) (f4 := 58) (f5 := 59) (hd := by kernel_rfl) (h1 := h_slices_BinarySearch_string_string) (h2 := h_steps_cut_string) (h3 := h_steps_cut_api_Value) (h4 := h_steps_place) (h5 := h_steps_ends)
theorem h_steps_drop : DropROk Tryd.prog 49 := dropr_ok (f := 49) (f1 := 70) (f2 := 40) (f3 := 68) (hd := by kernel_rfl) (h1 := h_steps_without) (h2 := h_steps_into) (h3 := h_steps_set)
theorem h_steps_Drop : DropOk T Tryd.prog 24 := drop_ok (f := 24) (f1 := 39) (f2 := 49) (f3 := 41) (hd := by kernel_rfl) (h1 := h_steps_wrong) (h2 := h_steps_drop) (h3 := h_value_Copy)
theorem h_thimblelaw08_works : WorksOk T Tryd.prog 16 := works_ok (f := 16) (f1 := 27) (f2 := 38) (f3 := 22) (f4 := 18) (f5 := 24) (hT := hTm) (hd := by kernel_rfl) (hF := h_thimblelaw08_field) (hI := h_thimblelaw08_index) (hP := h_steps_Put) (hG := h_steps_Get) (hD := h_steps_Drop)
theorem h_thimbleref03_Copy : RCopyOk Tryd.prog 17 := rcopy_ok (f := 17) (hd := by kernel_rfl)
theorem h_thimbleref03_Depth : RDepthOk Tryd.prog 48 := rdepth_ok (f := 48) (hd := by kernel_rfl)
theorem h_thimbleref02_Char : CharOk Tryd.prog 111 := char_ok (f := 111) (hd := by kernel_rfl)
theorem h_thimbleref02_First : FirstOk Tryd.prog 85 := first_ok (f := 85) (f1 := 111) (hd := by kernel_rfl) (h1 := h_thimbleref02_Char)
theorem h_thimbleref02_Right : QuoteOk T Tryd.prog 62 := rquote_ok (f := 62) (f1 := 85) (hd := by kernel_rfl) (h1 := h_thimbleref02_First)
theorem h_thimbleref01_long : LongOk Tryd.prog 105 := long_ok (f := 105) (hd := by kernel_rfl)
theorem h_thimbleref01_short : ShortOk Tryd.prog 115 := short_ok (f := 115) (hd := by kernel_rfl)
theorem h_thimbleref01_Right : NumOk T Tryd.prog 104 := rnum_ok (f := 104) (f1 := 105) (f2 := 115) (hd := by kernel_rfl) (h1 := h_thimbleref01_long) (h2 := h_thimbleref01_short)
theorem h_thimbleref03_one : ROneOk T Tryd.prog 84 := rone_ok (f := 84) (f1 := 62) (f2 := 104) (hd := by kernel_rfl) (h1 := h_thimbleref02_Right) (h2 := h_thimbleref01_Right)
theorem h_thimbleref03_all : RAllOk T Tryd.prog 61 := rall_ok (f := 61) (f1 := 84) (hd := by kernel_rfl) (h1 := h_thimbleref03_one)
theorem h_thimbleref03_Right : RRightOk T Tryd.prog 42 := rright_ok (f := 42) (f1 := 48) (f2 := 61) (hd := by kernel_rfl) (h1 := h_thimbleref03_Depth) (h2 := h_thimbleref03_all)
theorem h_thimbleref08_Wrong : RWrongOk T Tryd.prog 43 := rwrong_ok (f := 43) (f1 := 62) (hd := by kernel_rfl) (h1 := h_thimbleref02_Right)
theorem h_thimbleref08_key : KeyOk Tryd.prog 63 := key_ok (f := 63) (hd := by kernel_rfl)
theorem h_thimbleref08_bound : BoundOk Tryd.prog 86 := bound_ok (f := 86) (hd := by kernel_rfl)
theorem h_thimbleref08_ends : EndsOk Tryd.prog 64 := rends_ok (f := 64) (f1 := 86) (hd := by kernel_rfl) (h1 := h_thimbleref08_bound)
theorem h_thimbleref08_chars : CharsOk Tryd.prog 65 := chars_ok (f := 65) (f1 := 85) (hd := by kernel_rfl) (h1 := h_thimbleref02_First)
theorem h_thimbleref08_One : IntoOk Tryd.prog 44 := rone_into (f := 44) (f1 := 63) (f2 := 64) (f3 := 65) (hd := by kernel_rfl) (h1 := h_thimbleref08_key) (h2 := h_thimbleref08_ends) (h3 := h_thimbleref08_chars)
theorem h_thimbleref08_Get : RGetOk T Tryd.prog 19 := rget_ok (f := 19) (f1 := 42) (f2 := 43) (f3 := 44) (hd := by kernel_rfl) (h1 := h_thimbleref03_Right) (h2 := h_thimbleref08_Wrong) (h3 := h_thimbleref08_One)
theorem h_thimbleref03_Same : SameOk Tryd.prog 20 := same_ok (f := 20) (hd := by kernel_rfl)
theorem h_thimblelaw08_spoil : SpoilVOk Tryd.prog 21 := spoilv_ok (f := 21) (hd := by kernel_rfl)
theorem vty : VTy Tryd.prog 27 23 2 3 9 24 25 :=
  ⟨⟨_, Tryd.underlying27, rfl, rfl, rfl, rfl, rfl⟩, ⟨_, Tryd.underlying23, rfl, rfl⟩, by kernel_rfl, by kernel_rfl, by kernel_rfl, by kernel_rfl, by kernel_rfl, by kernel_rfl, by kernel_rfl, Tryd.underlying2, Tryd.underlying3, Tryd.underlying9, Tryd.underlying24, Tryd.underlying25, of_decide_eq_true (by kernel_rfl), of_decide_eq_true (by kernel_rfl)⟩
section
variable {H : Type} {enc : TypeId × Value → H} {W : World}
theorem rdVal : Rd enc Tryd.prog W 27 RVal := rd_val vty
theorem rdSt : Rd enc Tryd.prog W 45 RSt :=
  rd_st (ti := 3) (ts := 9) (tb := 4) ⟨_, Tryd.underlying45, rfl, rfl, rfl, rfl, rfl, rfl⟩ (by kernel_rfl) (by kernel_rfl) (by kernel_rfl) (by kernel_rfl) Tryd.underlying3 Tryd.underlying9 Tryd.underlying4
theorem u8x : U8Extra Tryd.prog Tryd.laysValid_ren := ⟨by kernel_rfl, by kernel_rfl, by kernel_rfl, by kernel_rfl, by kernel_rfl, by kernel_rfl, by kernel_rfl⟩
theorem tabs_of {laid : List (String × DataW Unit)} (h3 : ("unicode/utf8.first", Go.Pinned.utf8First) ∈ laid) (h4 : ("unicode/utf8.acceptRanges", Rows.laid_unicode_utf8_acceptRanges) ∈ laid) (h2 : ("thimble/num.tens", Rows.laid_thimble_num_tens) ∈ laid)
    (hL : laidMet Tryd.prog laid W) : T (hw W) := by
  refine ⟨utfT_of (ρ := Tryd.laysValid_ren) Tryd.laysValid u8x ?_ ?_, ?_⟩
  · rw [← first_eq]; exact Lib.laidMet.reads hL h3
  · exact Lib.laidMet.reads hL h4
  · rw [tensZ_eq]
    exact tab_of (k := .u64) (zs := tensZ) (by kernel_rfl) (by kernel_rfl) Tryd.underlying126 Tryd.underlying109 (by kernel_rfl) (by kernel_rfl) (Lib.laidMet.reads hL h2)
end
theorem own : ownKnob Tryd.prog.godebug = none := by kernel_rfl
theorem laidOut : laidOutB Tryd.prog = true := by kernel_rfl
end Go.Proofs.YtbnoplhkegcllaaDoor
