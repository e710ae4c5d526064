/-
  The contracts of the functions that the laws of values reach, at this program.
-/
import Derived.Test.YtdhggoahkbnmmaaDoorRows
import Derived.Test.YtdhggoahkbnmmaaDoorGkLay
import Derived.Test.YtdhggoahkbnmmaaDoorPkC
import Derived.Test.YtdhggoahkbnmmaaDoorPkE
import Derived.Test.YtdhggoahkbnmmaaDoorPkF
import Derived.Lay
import Derived.LaidOnce
import Derived.MakeChecks
namespace Go.Proofs.YtdhggoahkbnmmaaDoor
open Go Go.Gk Go.Gk.Val Go.Proofs Go.RowKit Go.Shelf
/-- The tables. -/
abbrev T : PHeap → Prop := Tab3 0 1 2
theorem hTm {d d' : PHeap} (hl : Le d d') (h : T d) : T d' := h.mono hl
theorem hTtensV {d : PHeap} (h : T d) : DCs d 2 0 tensV := h.2
theorem hTutf {d : PHeap} (h : T d) : UtfT (Tryd.laysValid_ren.g 3) (Tryd.laysValid_ren.g 4) d := h.1
theorem h_thimbleref03_Bulk : BulkOk Tryd.prog 9 := bulk_ok (f := 9) (hd := by kernel_rfl)
theorem h_thimblelaw03_digit : DigitOk Tryd.prog 24 := digit_ok (f := 24) (hd := by kernel_rfl)
theorem h_value_every_string : EveryStrOk Tryd.prog 25 := everystr_ok (f := 25) (hd := by kernel_rfl)
theorem h_unicode_utf8_ValidString : VsOk T Tryd.prog 35 := vs_ok (ρ := Tryd.laysValid_ren) Tryd.laysValid ⟨_, Tryd.func35, by kernel_rfl, by kernel_rfl⟩ (fun d h => hTutf h)
theorem h_quote_Right : QuoteOk T Tryd.prog 26 := quote_ok (f := 26) (f1 := 35) (hd := by kernel_rfl) (h1 := h_unicode_utf8_ValidString)
theorem h_value_every_api_Value : EveryOk Tryd.prog 39 := every_ok (f := 39) (hd := by kernel_rfl)
theorem h_value_shallow : ShallowOk Tryd.prog 32 := shallow_ok (f := 32) (f1 := 40) (f2 := 39) (hd := by kernel_rfl) (h1 := by kernel_rfl) (h2 := h_value_every_api_Value)
theorem h_value_bare : BareOk Tryd.prog 41 := bare_ok (f := 41) (hd := by kernel_rfl)
theorem h_num_zero : ZeroOk Tryd.prog 58 := zero_ok (f := 58) (hd := by kernel_rfl)
theorem h_num_size : SizeOk Tryd.prog 59 := size_ok (f := 59) (hd := by kernel_rfl)
theorem h_num_Right : NumOk T Tryd.prog 42 := num_ok (f := 42) (f1 := 58) (g2 := 2) (f3 := 59) (hT := fun d h => hTtensV h) (hd := by kernel_rfl) (h1 := h_num_zero) (h3 := h_num_size)
theorem h_value_rising : RisingOk T Tryd.prog 43 := rising_ok (f := 43) (f1 := 26) (hd := by kernel_rfl) (h1 := h_quote_Right)
theorem h_value_may : MayOk T Tryd.prog 33 := may_ok (f := 33) (f1 := 41) (f2 := 42) (f3 := 26) (f4 := 43) (f5 := 39) (hd := by kernel_rfl) (h1 := h_value_bare) (h2 := h_num_Right) (h3 := h_quote_Right) (h4 := h_value_rising) (h5 := h_value_every_api_Value)
theorem h_value_Right : RightOk T Tryd.prog 18 := right_ok (f := 18) (f1 := 32) (f2 := 33) (hd := by kernel_rfl) (h1 := h_value_shallow) (h2 := h_value_may)
theorem h_slices_Sort_string_string : SortStrOk Tryd.prog 27 := sortStr_ok (ρ := Tryd.laysSort_ren) Tryd.laysSort ⟨_, Tryd.func27, by kernel_rfl, by kernel_rfl⟩
theorem h_slices_Clone_string_string : CloneOk RStr 16 Tryd.prog 29 := clone_str (f := 29) (hd := by kernel_rfl)
theorem h_value_Copy : VCopyOk Tryd.prog 16 := vcopy_ok (f := 16) (f1 := 29) (hd := by kernel_rfl) (h1 := h_slices_Clone_string_string)
theorem h_value_Make : VMakeOk T Tryd.prog 12 := vmake_ok (f := 12) (f1 := 25) (f2 := 26) (f3 := 18) (f4 := 27) (f5 := 16) (hTm := fun h hl => hTm hl h) (hd := by kernel_rfl) (h1 := h_value_every_string) (h2 := h_quote_Right) (h3 := h_value_Right) (h4 := h_slices_Sort_string_string) (h5 := h_value_Copy)
theorem h_value_Size : VSizeOk Tryd.prog 22 := vsize_ok (f := 22) (hd := by kernel_rfl)
theorem h_slices_Equal_string_string : EqStrsOk Tryd.prog 30 := eqstrs_ok (f := 30) (hd := by kernel_rfl)
theorem h_slices_EqualFunc_api_Value_api_Value_api_Value_api_Value : EqFuncOk Tryd.prog 31 := eqfunc_ok (f := 31) (hd := by kernel_rfl)
theorem h_value_Same : SameOk Tryd.prog 17 := vsame_ok (f := 17) (f1 := 30) (f2 := 31) (hd := by kernel_rfl) (h1 := h_slices_Equal_string_string) (h2 := h_slices_EqualFunc_api_Value_api_Value_api_Value_api_Value)
theorem h_thimblelaw03_works : W3Ok T Tryd.prog 10 := works3_ok (f := 10) (f1 := 24) (f2 := 12) (f3 := 18) (f4 := 22) (f5 := 16) (f6 := 17) (hTm := fun h hl => hTm hl h) (hd := by kernel_rfl) (h1 := h_thimblelaw03_digit) (h2 := h_value_Make) (h3 := h_value_Right) (h4 := h_value_Size) (h5 := h_value_Copy) (h6 := h_value_Same)
theorem h_thimbleref03_Copy : RCopyOk Tryd.prog 11 := rcopy_ok (f := 11) (hd := by kernel_rfl)
theorem h_thimbleref03_Depth : RDepthOk Tryd.prog 21 := rdepth_ok (f := 21) (hd := by kernel_rfl)
theorem h_thimbleref02_Char : CharOk Tryd.prog 57 := char_ok (f := 57) (hd := by kernel_rfl)
theorem h_thimbleref02_First : FirstOk Tryd.prog 38 := first_ok (f := 38) (f1 := 57) (hd := by kernel_rfl) (h1 := h_thimbleref02_Char)
theorem h_thimbleref02_Right : QuoteOk T Tryd.prog 28 := rquote_ok (f := 28) (f1 := 38) (hd := by kernel_rfl) (h1 := h_thimbleref02_First)
theorem h_thimbleref01_long : LongOk Tryd.prog 68 := long_ok (f := 68) (hd := by kernel_rfl)
theorem h_thimbleref01_short : ShortOk Tryd.prog 67 := short_ok (f := 67) (hd := by kernel_rfl)
theorem h_thimbleref01_Right : NumOk T Tryd.prog 60 := rnum_ok (f := 60) (f1 := 68) (f2 := 67) (hd := by kernel_rfl) (h1 := h_thimbleref01_long) (h2 := h_thimbleref01_short)
theorem h_thimbleref03_one : ROneOk T Tryd.prog 44 := rone_ok (f := 44) (f1 := 28) (f2 := 60) (hd := by kernel_rfl) (h1 := h_thimbleref02_Right) (h2 := h_thimbleref01_Right)
theorem h_thimbleref03_all : RAllOk T Tryd.prog 34 := rall_ok (f := 34) (f1 := 44) (hd := by kernel_rfl) (h1 := h_thimbleref03_one)
theorem h_thimbleref03_Right : RRightOk T Tryd.prog 19 := rright_ok (f := 19) (f1 := 21) (f2 := 34) (hd := by kernel_rfl) (h1 := h_thimbleref03_Depth) (h2 := h_thimbleref03_all)
theorem h_value_Depth : VDepthOk Tryd.prog 20 := vdepth_ok (f := 20) (hd := by kernel_rfl)
theorem h_thimbleref03_Size : VSizeOk Tryd.prog 23 := rsize_ok (f := 23) (hd := by kernel_rfl)
theorem h_thimbleref03_Same : SameOk Tryd.prog 14 := same_ok (f := 14) (hd := by kernel_rfl)
theorem vty : VTy Tryd.prog 28 26 2 3 9 23 22 :=
  ⟨⟨_, Tryd.underlying28, rfl, rfl, rfl, rfl, rfl⟩, ⟨_, Tryd.underlying26, rfl, rfl⟩, by kernel_rfl, by kernel_rfl, by kernel_rfl, by kernel_rfl, by kernel_rfl, by kernel_rfl, by kernel_rfl, Tryd.underlying2, Tryd.underlying3, Tryd.underlying9, Tryd.underlying23, Tryd.underlying22, of_decide_eq_true (by kernel_rfl), of_decide_eq_true (by kernel_rfl)⟩
section
variable {H : Type} {enc : TypeId × Value → H} {W : World}
theorem rdVal : Rd enc Tryd.prog W 28 RVal := rd_val vty
theorem u8x : U8Extra Tryd.prog Tryd.laysValid_ren := ⟨by kernel_rfl, by kernel_rfl, by kernel_rfl, by kernel_rfl, by kernel_rfl, by kernel_rfl, by kernel_rfl⟩
theorem tabs_of {laid : List (String × DataW Unit)} (h3 : ("unicode/utf8.first", Go.Pinned.utf8First) ∈ laid) (h4 : ("unicode/utf8.acceptRanges", Rows.laid_unicode_utf8_acceptRanges) ∈ laid) (h2 : ("thimble/num.tens", Rows.laid_thimble_num_tens) ∈ laid)
    (hL : laidMet Tryd.prog laid W) : T (hw W) := by
  refine ⟨utfT_of (ρ := Tryd.laysValid_ren) Tryd.laysValid u8x ?_ ?_, ?_⟩
  · rw [← first_eq]; exact Lib.laidMet.reads hL h3
  · exact Lib.laidMet.reads hL h4
  · rw [tensZ_eq]
    exact tab_of (k := .u64) (zs := tensZ) (by kernel_rfl) (by kernel_rfl) Tryd.underlying81 Tryd.underlying76 (by kernel_rfl) (by kernel_rfl) (Lib.laidMet.reads hL h2)
end
theorem own : ownKnob Tryd.prog.godebug = none := by kernel_rfl
theorem laidOut : laidOutB Tryd.prog = true := by kernel_rfl
end Go.Proofs.YtdhggoahkbnmmaaDoor
