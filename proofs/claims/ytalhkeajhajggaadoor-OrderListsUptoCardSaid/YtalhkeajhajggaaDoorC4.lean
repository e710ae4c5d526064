/-
  The contracts of the functions that the laws of order reach, at this program.
-/
import Derived.Test.YtalhkeajhajggaaDoorRows
import Derived.Test.YtalhkeajhajggaaDoorGkLay
import Derived.Test.YtalhkeajhajggaaDoorPkC
import Derived.Test.YtalhkeajhajggaaDoorPkE
import Derived.Test.YtalhkeajhajggaaDoorPkG
import Derived.Lay
import Derived.LaidOnce
import Derived.MakeChecks
namespace Go.Proofs.YtalhkeajhajggaaDoor
open Go Go.Gk Go.Gk.Val Go.Gk.Srt Go.Proofs Go.RowKit Go.Shelf
/-- The tables. -/
abbrev T : PHeap → Prop := Tab4 2 3 0 4
theorem hTm {d d' : PHeap} (hl : Le d d') (h : T d) : T d' := h.mono hl
theorem hTtensV {d : PHeap} (h : T d) : DCs d 0 0 tensV := h.1.2
theorem hTtensV_G_internal_strconv_uint64pow10 {d : PHeap} (h : T d) : DCs d 4 0 tensV := h.2
theorem hTutf {d : PHeap} (h : T d) : UtfT (Tryd.laysValid_ren.g 3) (Tryd.laysValid_ren.g 4) d := h.1.1
theorem h_value_every_api_Value : EveryOk Tryd.prog 69 := every_ok (f := 69) (hd := by kernel_rfl)
theorem h_value_shallow : ShallowOk Tryd.prog 45 := shallow_ok (f := 45) (f1 := 70) (f2 := 69) (hd := by kernel_rfl) (h1 := by kernel_rfl) (h2 := h_value_every_api_Value)
theorem h_value_bare : BareOk Tryd.prog 71 := bare_ok (f := 71) (hd := by kernel_rfl)
theorem h_num_zero : ZeroOk Tryd.prog 90 := zero_ok (f := 90) (hd := by kernel_rfl)
theorem h_num_size : SizeOk Tryd.prog 81 := size_ok (f := 81) (hd := by kernel_rfl)
theorem h_num_Right : NumOk T Tryd.prog 72 := num_ok (f := 72) (f1 := 90) (g2 := 0) (f3 := 81) (hT := fun d h => hTtensV h) (hd := by kernel_rfl) (h1 := h_num_zero) (h3 := h_num_size)
theorem h_unicode_utf8_ValidString : VsOk T Tryd.prog 91 := vs_ok (ρ := Tryd.laysValid_ren) Tryd.laysValid ⟨_, Tryd.func91, by kernel_rfl, by kernel_rfl⟩ (fun d h => hTutf h)
theorem h_quote_Right : QuoteOk T Tryd.prog 73 := quote_ok (f := 73) (f1 := 91) (hd := by kernel_rfl) (h1 := h_unicode_utf8_ValidString)
theorem h_value_rising : RisingOk T Tryd.prog 74 := rising_ok (f := 74) (f1 := 73) (hd := by kernel_rfl) (h1 := h_quote_Right)
theorem h_value_may : MayOk T Tryd.prog 46 := may_ok (f := 46) (f1 := 71) (f2 := 72) (f3 := 73) (f4 := 74) (f5 := 69) (hd := by kernel_rfl) (h1 := h_value_bare) (h2 := h_num_Right) (h3 := h_quote_Right) (h4 := h_value_rising) (h5 := h_value_every_api_Value)
theorem h_value_Right : RightOk T Tryd.prog 31 := right_ok (f := 31) (f1 := 45) (f2 := 46) (hd := by kernel_rfl) (h1 := h_value_shallow) (h2 := h_value_may)
theorem h_cmp_isNaN_int : NanIOk Tryd.prog 78 := nani_ok (f := 78) (hd := by kernel_rfl)
theorem h_cmp_Compare_int : CmpIOk Tryd.prog 59 := cmpint_ok (f := 59) (f1 := 78) (hd := by kernel_rfl) (h1 := h_cmp_isNaN_int)
theorem h_num_sign : SignOk Tryd.prog 79 := sign_ok (f := 79) (hd := by kernel_rfl)
theorem h_num_compare : CmpIOk Tryd.prog 80 := cmpi_num_compare (f := 80) (hd := by kernel_rfl)
theorem h_internal_strconv_small : SmallOk Tryd.prog 101 := small_ok (ρ := Tryd.laysSmall_ren) Tryd.laysSmall ⟨_, Tryd.func101, by kernel_rfl, by kernel_rfl⟩
theorem h_math_bits_Len64 : Len64Ok Tryd.prog 110 := len64_ok (ρ := Tryd.laysLen_ren) Tryd.laysLen ⟨_, Tryd.func110, by kernel_rfl, by kernel_rfl⟩
theorem h_internal_strconv_log10Pow2 : Log10Ok Tryd.prog 109 := log10_ok (ρ := Tryd.laysLog_ren) Tryd.laysLog ⟨_, Tryd.func109, by kernel_rfl, by kernel_rfl⟩
theorem h_internal_strconv_bool2_int : BoolIOk Tryd.prog 111 := booli_ok (f := 111) (hd := by kernel_rfl)
theorem h_internal_strconv_numDigits : NumDOk T Tryd.prog 102 := numd_ok (f := 102) (f1 := 110) (f2 := 109) (g3 := 4) (f4 := 111) (hT := fun d h => hTtensV_G_internal_strconv_uint64pow10 h) (hd := by kernel_rfl) (h1 := h_math_bits_Len64) (h2 := h_internal_strconv_log10Pow2) (h4 := h_internal_strconv_bool2_int)
theorem h_internal_strconv_formatBase10 : FmtOk Tryd.prog 103 := fmt_ok (ρ := Tryd.laysFmt_ren) Tryd.laysFmt ⟨_, Tryd.func103, by kernel_rfl, by kernel_rfl⟩
theorem h_internal_strconv_FormatUint : FmtUOk T Tryd.prog 92 := fmtu_ok (f := 92) (f1 := 101) (f2 := 102) (f3 := 103) (f4 := 104) (hd := by kernel_rfl) (h1 := h_internal_strconv_small) (h2 := h_internal_strconv_numDigits) (h3 := h_internal_strconv_formatBase10)
theorem h_strconv_FormatUint : FmtUOk T Tryd.prog 75 := fmtuu_ok (f := 75) (f1 := 92) (hd := by kernel_rfl) (h1 := h_internal_strconv_FormatUint)
theorem h_internal_bytealg_CompareString : CmpSOk Tryd.prog 82 := cmps_ok (f := 82) (hd := by kernel_rfl)
theorem h_strings_Compare : CmpSOk Tryd.prog 61 := scmp_ok (f := 61) (f1 := 82) (hd := by kernel_rfl) (h1 := h_internal_bytealg_CompareString)
theorem h_num_Cmp : NumCmpOk T Tryd.prog 60 := ncmp_ok (f := 60) (f1 := 72) (f2 := 79) (f3 := 80) (f4 := 81) (f5 := 75) (f6 := 61) (hd := by kernel_rfl) (h1 := h_num_Right) (h2 := h_num_sign) (h3 := h_num_compare) (h4 := h_num_size) (h5 := h_strconv_FormatUint) (h6 := h_strings_Compare)
theorem h_slices_CompareFunc_string_string_string_string : CmpFuncSOk Tryd.prog 83 := cmpfuncs_ok (f := 83) (hd := by kernel_rfl)
theorem h_order_rows_string : CmpFuncSOk Tryd.prog 62 := rowss_ok (f := 62) (f1 := 83) (hd := by kernel_rfl) (h1 := h_slices_CompareFunc_string_string_string_string)
theorem h_slices_CompareFunc_api_Value_api_Value_api_Value_api_Value : CmpFuncVOk Tryd.prog 84 := cmpfuncv_ok (f := 84) (hd := by kernel_rfl)
theorem h_order_rows_api_Value : CmpFuncVOk Tryd.prog 63 := rowsv_ok (f := 63) (f1 := 84) (hd := by kernel_rfl) (h1 := h_slices_CompareFunc_api_Value_api_Value_api_Value_api_Value)
theorem h_order_compare : CmpVOk T Tryd.prog 39 := ocompare_ok (f := 39) (f1 := 59) (f2 := 60) (f3 := 61) (f4 := 62) (f5 := 63) (hd := by kernel_rfl) (h1 := h_cmp_Compare_int) (h2 := h_num_Cmp) (h3 := h_strings_Compare) (h4 := h_order_rows_string) (h5 := h_order_rows_api_Value)
theorem h_order_Cmp : CmpTopOk T Tryd.prog 22 := ocmp_ok (f := 22) (f1 := 31) (f2 := 39) (hd := by kernel_rfl) (h1 := h_value_Right) (h2 := h_order_compare)
theorem h_slices_Clone_string_string : CloneOk RStr 16 Tryd.prog 67 := clone_str (f := 67) (hd := by kernel_rfl)
theorem h_value_Copy : VCopyOk Tryd.prog 42 := vcopy_ok (f := 42) (f1 := 67) (hd := by kernel_rfl) (h1 := h_slices_Clone_string_string)
theorem h_slices_insertionSortCmpFunc_api_Value : InsOk 6 Tryd.prog 88 := ins_api_Value (f := 88) (hd := by kernel_rfl)
theorem h_slices_swapRangeCmpFunc_api_Value : SwapOk 6 Tryd.prog 108 := swap_api_Value (f := 108) (hd := by kernel_rfl)
theorem h_slices_rotateCmpFunc_api_Value : RotOk 6 Tryd.prog 99 := rot_api_Value (f := 99) (f1 := 108) (hd := by kernel_rfl) (h1 := h_slices_swapRangeCmpFunc_api_Value)
theorem h_slices_symMergeCmpFunc_api_Value : SymOk 6 Tryd.prog 89 := sym_api_Value (f := 89) (f1 := 99) (hd := by kernel_rfl) (h1 := h_slices_rotateCmpFunc_api_Value)
theorem h_slices_stableCmpFunc_api_Value : StableOk 6 Tryd.prog 68 := stable_api_Value (f := 68) (f1 := 88) (f2 := 89) (hd := by kernel_rfl) (h1 := h_slices_insertionSortCmpFunc_api_Value) (h2 := h_slices_symMergeCmpFunc_api_Value)
theorem h_slices_SortStableFunc_api_Value_api_Value : SortedOk 6 Tryd.prog 43 := sorted_api_Value (f := 43) (f1 := 68) (hd := by kernel_rfl) (h1 := h_slices_stableCmpFunc_api_Value)
theorem h_order_Sort_1 : CmpVOk T Tryd.prog 44 := osort1_ok (f := 44) (f1 := 39) (hTm := hTm) (hd := by kernel_rfl) (h1 := h_order_compare)
theorem h_order_Sort : OSortOk T Tryd.prog 26 := osort_ok (f := 26) (f1 := 31) (f2 := 42) (f3 := 43) (f4 := 44) (hTm := hTm) (hd := by kernel_rfl) (h1 := h_value_Right) (h2 := h_value_Copy) (h3 := h_slices_SortStableFunc_api_Value_api_Value) (h4 := h_order_Sort_1)
theorem h_thimblelaw04_works : W4Ok T Tryd.prog 24 := works4_ok (f := 24) (f1 := 22) (f2 := 26) (hTm := hTm) (hd := by kernel_rfl) (h1 := h_order_Cmp) (h2 := h_order_Sort)
theorem h_thimbleref03_Bulk : BulkOk Tryd.prog 13 := bulk_ok (f := 13) (hd := by kernel_rfl)
theorem h_thimblelaw04_great : Great4Ok Tryd.prog 23 := great4_ok (f := 23) (f1 := 13) (hd := by kernel_rfl) (h1 := h_thimbleref03_Bulk)
theorem h_thimbleref03_Depth : RDepthOk Tryd.prog 49 := rdepth_ok (f := 49) (hd := by kernel_rfl)
theorem h_thimbleref02_Char : CharOk Tryd.prog 114 := char_ok (f := 114) (hd := by kernel_rfl)
theorem h_thimbleref02_First : FirstOk Tryd.prog 105 := first_ok (f := 105) (f1 := 114) (hd := by kernel_rfl) (h1 := h_thimbleref02_Char)
theorem h_thimbleref02_Right : QuoteOk T Tryd.prog 93 := rquote_ok (f := 93) (f1 := 105) (hd := by kernel_rfl) (h1 := h_thimbleref02_First)
theorem h_thimbleref01_long : LongOk Tryd.prog 86 := long_ok (f := 86) (hd := by kernel_rfl)
theorem h_thimbleref01_short : ShortOk Tryd.prog 95 := short_ok (f := 95) (hd := by kernel_rfl)
theorem h_thimbleref01_Right : NumOk T Tryd.prog 85 := rnum_ok (f := 85) (f1 := 86) (f2 := 95) (hd := by kernel_rfl) (h1 := h_thimbleref01_long) (h2 := h_thimbleref01_short)
theorem h_thimbleref03_one : ROneOk T Tryd.prog 76 := rone_ok (f := 76) (f1 := 93) (f2 := 85) (hd := by kernel_rfl) (h1 := h_thimbleref02_Right) (h2 := h_thimbleref01_Right)
theorem h_thimbleref03_all : RAllOk T Tryd.prog 50 := rall_ok (f := 50) (f1 := 76) (hd := by kernel_rfl) (h1 := h_thimbleref03_one)
theorem h_thimbleref03_Right : RRightOk T Tryd.prog 33 := rright_ok (f := 33) (f1 := 49) (f2 := 50) (hd := by kernel_rfl) (h1 := h_thimbleref03_Depth) (h2 := h_thimbleref03_all)
theorem h_thimbleref04_wrong : WrongLOk T Tryd.prog 40 := wrongl_ok (f := 40) (f1 := 33) (hd := by kernel_rfl) (h1 := h_thimbleref03_Right)
theorem h_thimbleref04_kinds : CmpIOk Tryd.prog 64 := cmpi_thimbleref04_kinds (f := 64) (hd := by kernel_rfl)
theorem h_thimbleref01_least : LeastIOk Tryd.prog 106 := leasti_ok (f := 106) (hd := by kernel_rfl)
theorem h_thimbleref01_wide : WideOk Tryd.prog 107 := wide_ok (f := 107) (hd := by kernel_rfl)
theorem h_thimbleref01_pair : PairOk Tryd.prog 96 := pair_ok (f := 96) (f1 := 106) (f2 := 107) (hd := by kernel_rfl) (h1 := h_thimbleref01_least) (h2 := h_thimbleref01_wide)
theorem h_thimbleref01_total : TotalOk Tryd.prog 97 := total_ok (f := 97) (hd := by kernel_rfl)
theorem h_thimbleref01_above : AboveOk Tryd.prog 98 := above_ok (f := 98) (hd := by kernel_rfl)
theorem h_thimbleref01_plus : PlusOk Tryd.prog 87 := plus_ok (f := 87) (f1 := 96) (f2 := 97) (f3 := 98) (hd := by kernel_rfl) (h1 := h_thimbleref01_pair) (h2 := h_thimbleref01_total) (h3 := h_thimbleref01_above)
theorem h_thimbleref01_Cmp : NumCmpOk T Tryd.prog 65 := rcmp_ok (f := 65) (f1 := 85) (f2 := 86) (f3 := 87) (hd := by kernel_rfl) (h1 := h_thimbleref01_Right) (h2 := h_thimbleref01_long) (h3 := h_thimbleref01_plus)
theorem h_thimbleref04_texts : CmpSOk Tryd.prog 66 := texts_ok (f := 66) (hd := by kernel_rfl)
theorem h_thimbleref04_Compare : CmpVOk T Tryd.prog 41 := rcompare_ok (f := 41) (f1 := 64) (f2 := 65) (f3 := 66) (hd := by kernel_rfl) (h1 := h_thimbleref04_kinds) (h2 := h_thimbleref01_Cmp) (h3 := h_thimbleref04_texts)
theorem h_thimbleref04_Cmp : CmpTopOk T Tryd.prog 25 := rocmp_ok (f := 25) (f1 := 40) (f2 := 41) (hTm := hTm) (hd := by kernel_rfl) (h1 := h_thimbleref04_wrong) (h2 := h_thimbleref04_Compare)
theorem h_thimbleref03_Same : SameOk Tryd.prog 18 := same_ok (f := 18) (hd := by kernel_rfl)
theorem vty : VTy Tryd.prog 27 23 2 3 9 24 25 :=
  ⟨⟨_, Tryd.underlying27, rfl, rfl, rfl, rfl, rfl⟩, ⟨_, Tryd.underlying23, rfl, rfl⟩, by kernel_rfl, by kernel_rfl, by kernel_rfl, by kernel_rfl, by kernel_rfl, by kernel_rfl, by kernel_rfl, Tryd.underlying2, Tryd.underlying3, Tryd.underlying9, Tryd.underlying24, Tryd.underlying25, of_decide_eq_true (by kernel_rfl), of_decide_eq_true (by kernel_rfl)⟩
section
variable {H : Type} {enc : TypeId × Value → H} {W : World}
theorem rdVal : Rd enc Tryd.prog W 27 RVal := rd_val vty
theorem u8x : U8Extra Tryd.prog Tryd.laysValid_ren := ⟨by kernel_rfl, by kernel_rfl, by kernel_rfl, by kernel_rfl, by kernel_rfl, by kernel_rfl, by kernel_rfl⟩
theorem tabs_of {laid : List (String × DataW Unit)} (h3 : ("unicode/utf8.first", Go.Pinned.utf8First) ∈ laid) (h4 : ("unicode/utf8.acceptRanges", Rows.laid_unicode_utf8_acceptRanges) ∈ laid) (h2 : ("thimble/num.tens", Rows.laid_thimble_num_tens) ∈ laid) (h5 : ("internal/strconv.uint64pow10", Rows.laid_internal_strconv_uint64pow10) ∈ laid)
    (hL : laidMet Tryd.prog laid W) : T (hw W) := by
  refine ⟨⟨utfT_of (ρ := Tryd.laysValid_ren) Tryd.laysValid u8x ?_ ?_, ?_⟩, ?_⟩
  · rw [← first_eq]; exact Lib.laidMet.reads hL h3
  · exact Lib.laidMet.reads hL h4
  · rw [tensZ_eq]
    exact tab_of (k := .u64) (zs := tensZ) (by kernel_rfl) (by kernel_rfl) Tryd.underlying110 Tryd.underlying98 (by kernel_rfl) (by kernel_rfl) (Lib.laidMet.reads hL h2)
  · rw [tensZ_eq]
    exact tab_of (k := .u64) (zs := tensZ) (by kernel_rfl) (by kernel_rfl) Tryd.underlying110 Tryd.underlying98 (by kernel_rfl) (by kernel_rfl) (Lib.laidMet.reads hL h5)
end
theorem own : ownKnob Tryd.prog.godebug = none := by kernel_rfl
theorem laidOut : laidOutB Tryd.prog = true := by kernel_rfl
end Go.Proofs.YtalhkeajhajggaaDoor
