/-
  The contracts of the functions that the laws of keys reach, at this program.
-/
import Derived.Test.YtjhoaohpfbgfpaaDoorRows
import Derived.Test.YtjhoaohpfbgfpaaDoorGkLay
import Derived.Test.YtjhoaohpfbgfpaaDoorPkC
import Derived.Test.YtjhoaohpfbgfpaaDoorPkE
import Derived.Test.YtjhoaohpfbgfpaaDoorPkG
import Derived.Lay
import Derived.LaidOnce
import Derived.MakeChecks
namespace Go.Proofs.YtjhoaohpfbgfpaaDoor
open Go Go.Gk Go.Gk.Val Go.Proofs Go.RowKit Go.Shelf
/-- The tables. -/
abbrev T : PHeap → Prop := Tab4 2 3 0 4
theorem hTm {d d' : PHeap} (hl : Le d d') (h : T d) : T d' := h.mono hl
theorem hTtensV {d : PHeap} (h : T d) : DCs d 0 0 tensV := h.1.2
theorem hTtensV_G_internal_strconv_uint64pow10 {d : PHeap} (h : T d) : DCs d 4 0 tensV := h.2
theorem hTutf {d : PHeap} (h : T d) : UtfT (Tryd.laysValid_ren.g 3) (Tryd.laysValid_ren.g 4) d := h.1.1
theorem h_value_every_api_Value : EveryOk Tryd.prog 69 := every_ok (f := 69) (hd := by kernel_rfl)
theorem h_value_shallow : ShallowOk Tryd.prog 45 := shallow_ok (f := 45) (f1 := 70) (f2 := 69) (hd := by kernel_rfl) (h1 := by kernel_rfl) (h2 := h_value_every_api_Value)
theorem h_value_bare : BareOk Tryd.prog 71 := bare_ok (f := 71) (hd := by kernel_rfl)
theorem h_num_zero : ZeroOk Tryd.prog 90 := zero_ok (f := 90) (hd := by kernel_rfl)
theorem h_num_size : SizeOk Tryd.prog 79 := size_ok (f := 79) (hd := by kernel_rfl)
theorem h_num_Right : NumOk T Tryd.prog 72 := num_ok (f := 72) (f1 := 90) (g2 := 0) (f3 := 79) (hT := fun d h => hTtensV h) (hd := by kernel_rfl) (h1 := h_num_zero) (h3 := h_num_size)
theorem h_unicode_utf8_ValidString : VsOk T Tryd.prog 91 := vs_ok (ρ := Tryd.laysValid_ren) Tryd.laysValid ⟨_, Tryd.func91, by kernel_rfl, by kernel_rfl⟩ (fun d h => hTutf h)
theorem h_quote_Right : QuoteOk T Tryd.prog 73 := quote_ok (f := 73) (f1 := 91) (hd := by kernel_rfl) (h1 := h_unicode_utf8_ValidString)
theorem h_value_rising : RisingOk T Tryd.prog 74 := rising_ok (f := 74) (f1 := 73) (hd := by kernel_rfl) (h1 := h_quote_Right)
theorem h_value_may : MayOk T Tryd.prog 46 := may_ok (f := 46) (f1 := 71) (f2 := 72) (f3 := 73) (f4 := 74) (f5 := 69) (hd := by kernel_rfl) (h1 := h_value_bare) (h2 := h_num_Right) (h3 := h_quote_Right) (h4 := h_value_rising) (h5 := h_value_every_api_Value)
theorem h_value_Right : RightOk T Tryd.prog 31 := right_ok (f := 31) (f1 := 45) (f2 := 46) (hd := by kernel_rfl) (h1 := h_value_shallow) (h2 := h_value_may)
theorem h_internal_strconv_small : SmallOk Tryd.prog 101 := small_ok (ρ := Tryd.laysSmall_ren) Tryd.laysSmall ⟨_, Tryd.func101, by kernel_rfl, by kernel_rfl⟩
theorem h_math_bits_Len64 : Len64Ok Tryd.prog 110 := len64_ok (ρ := Tryd.laysLen_ren) Tryd.laysLen ⟨_, Tryd.func110, by kernel_rfl, by kernel_rfl⟩
theorem h_internal_strconv_log10Pow2 : Log10Ok Tryd.prog 109 := log10_ok (ρ := Tryd.laysLog_ren) Tryd.laysLog ⟨_, Tryd.func109, by kernel_rfl, by kernel_rfl⟩
theorem h_internal_strconv_bool2_int : BoolIOk Tryd.prog 111 := booli_ok (f := 111) (hd := by kernel_rfl)
theorem h_internal_strconv_numDigits : NumDOk T Tryd.prog 102 := numd_ok (f := 102) (f1 := 110) (f2 := 109) (g3 := 4) (f4 := 111) (hT := fun d h => hTtensV_G_internal_strconv_uint64pow10 h) (hd := by kernel_rfl) (h1 := h_math_bits_Len64) (h2 := h_internal_strconv_log10Pow2) (h4 := h_internal_strconv_bool2_int)
theorem h_internal_strconv_formatBase10 : FmtOk Tryd.prog 103 := fmt_ok (ρ := Tryd.laysFmt_ren) Tryd.laysFmt ⟨_, Tryd.func103, by kernel_rfl, by kernel_rfl⟩
theorem h_internal_strconv_FormatUint : FmtUOk T Tryd.prog 92 := fmtu_ok (f := 92) (f1 := 101) (f2 := 102) (f3 := 103) (f4 := 104) (hd := by kernel_rfl) (h1 := h_internal_strconv_small) (h2 := h_internal_strconv_numDigits) (h3 := h_internal_strconv_formatBase10)
theorem h_strconv_FormatUint : FmtUOk T Tryd.prog 78 := fmtuu_ok (f := 78) (f1 := 92) (hd := by kernel_rfl) (h1 := h_internal_strconv_FormatUint)
theorem h_key_digits : KDigitsOk T Tryd.prog 57 := kdigits_ok (f := 57) (f1 := 78) (hd := by kernel_rfl) (h1 := h_strconv_FormatUint)
theorem h_key_text : KTextOk Tryd.prog 58 := ktext_ok (f := 58) (hd := by kernel_rfl)
theorem h_key_put : KPutOk T Tryd.prog 38 := kput_ok (f := 38) (f1 := 57) (f2 := 58) (hTm := fun h hl => hTm hl h) (hd := by kernel_rfl) (h1 := h_key_digits) (h2 := h_key_text)
theorem h_key_Bytes : KBytesOk T Tryd.prog 26 := kbytes_ok (f := 26) (f1 := 31) (f2 := 38) (hd := by kernel_rfl) (h1 := h_value_Right) (h2 := h_key_put)
theorem h_key_reader_next : KNextOk Tryd.prog 63 := knext_ok (f := 63) (t1 := 30) (hd := by kernel_rfl)
theorem h_key_reader_digits : KRDigitsOk T Tryd.prog 64 := krdigits_ok (f := 64) (f1 := 63) (t1 := 30) (f3 := 72) (hd := by kernel_rfl) (h1 := h_key_reader_next) (h3 := h_num_Right)
theorem h_key_reader_text : KRTextOk Tryd.prog 65 := krtext_ok (f := 65) (f1 := 63) (t1 := 30) (hd := by kernel_rfl) (h1 := h_key_reader_next)
theorem h_key_reader_ends : KEndsOk Tryd.prog 66 := kends_ok (f := 66) (f1 := 63) (hd := by kernel_rfl) (h1 := h_key_reader_next)
theorem h_key_reader_value : KRValueOk T Tryd.prog 42 := krvalue_ok (f := 42) (t1 := 30) (f1 := 63) (f2 := 64) (f3 := 65) (f4 := 66) (hTm := fun h hl => hTm hl h) (hd := by kernel_rfl) (h1 := h_key_reader_next) (h2 := h_key_reader_digits) (h3 := h_key_reader_text) (h4 := h_key_reader_ends)
theorem h_bytes_Equal : BEqOk Tryd.prog 43 := beq_ok (f := 43) (hd := by kernel_rfl)
theorem h_key_Read : KReadOk T Tryd.prog 28 := kread_ok (f := 28) (f1 := 41) (f2 := 42) (f3 := 31) (f4 := 38) (f5 := 43) (t1 := 30) (hTm := fun h hl => hTm hl h) (hd := by kernel_rfl) (hv := by kernel_rfl) (h2 := h_key_reader_value) (h3 := h_value_Right) (h4 := h_key_put) (h5 := h_bytes_Equal)
theorem h_thimblelaw05_works : KWorksOk T Tryd.prog 25 := kworks_ok (f := 25) (f1 := 26) (f2 := 28) (hTm := fun h hl => hTm hl h) (hd := by kernel_rfl) (h1 := h_key_Bytes) (h2 := h_key_Read)
theorem h_thimbleref03_Same : SameOk Tryd.prog 17 := same_ok (f := 17) (hd := by kernel_rfl)
theorem vty : VTy Tryd.prog 27 23 2 3 9 24 25 :=
  ⟨⟨_, Tryd.underlying27, rfl, rfl, rfl, rfl, rfl⟩, ⟨_, Tryd.underlying23, rfl, rfl⟩, by kernel_rfl, by kernel_rfl, by kernel_rfl, by kernel_rfl, by kernel_rfl, by kernel_rfl, by kernel_rfl, Tryd.underlying2, Tryd.underlying3, Tryd.underlying9, Tryd.underlying24, Tryd.underlying25, of_decide_eq_true (by kernel_rfl), of_decide_eq_true (by kernel_rfl)⟩
section
variable {H : Type} {enc : TypeId × Value → H} {W : World}
theorem rdVal : Rd enc Tryd.prog W 27 RVal := rd_val vty
theorem u8x : U8Extra Tryd.prog Tryd.laysValid_ren := ⟨by kernel_rfl, by kernel_rfl, by kernel_rfl, by kernel_rfl, by kernel_rfl, by kernel_rfl, by kernel_rfl⟩
theorem tabs_of {laid : List (String × DataW Unit)} (h3 : ("unicode/utf8.first", Go.Pinned.utf8First) ∈ laid) (h4 : ("unicode/utf8.acceptRanges", Rows.laid_unicode_utf8_acceptRanges) ∈ laid) (h2 : ("thimble/num.tens", Rows.laid_thimble_num_tens) ∈ laid) (h5 : ("internal/strconv.uint64pow10", Rows.laid_internal_strconv_uint64pow10) ∈ laid)
    (hL : laidMet Tryd.prog laid W) : T (hw W) := by
  refine ⟨⟨utfT_of (ρ := Tryd.laysValid_ren) Tryd.laysValid u8x ?_ ?_, ?_⟩, ?_⟩
  · rw [← first_eq]; exact Lib.laidMet.reads hL h3
  · exact Lib.laidMet.reads hL h4
  · rw [tensZ_eq]
    exact tab_of (k := .u64) (zs := tensZ) (by kernel_rfl) (by kernel_rfl) Tryd.underlying110 Tryd.underlying101 (by kernel_rfl) (by kernel_rfl) (Lib.laidMet.reads hL h2)
  · rw [tensZ_eq]
    exact tab_of (k := .u64) (zs := tensZ) (by kernel_rfl) (by kernel_rfl) Tryd.underlying110 Tryd.underlying101 (by kernel_rfl) (by kernel_rfl) (Lib.laidMet.reads hL h5)
end
theorem own : ownKnob Tryd.prog.godebug = none := by kernel_rfl
theorem laidOut : laidOutB Tryd.prog = true := by kernel_rfl
end Go.Proofs.YtjhoaohpfbgfpaaDoor
