/-
  'thimblelaw05.KeyReads' returns true for every row of bytes, and leaves it as it is; the tables that it reads are tied to the program's text. No condition.
-/
import Derived.Test.YtjhoaohpfbgfpaaDoorRows
import Derived.Test.YtjhoaohpfbgfpaaDoorCards
import Derived.Test.YtjhoaohpfbgfpaaDoorTie
import Derived.Test.YtjhoaohpfbgfpaaDoorC5
import Derived.Test.YtjhoaohpfbgfpaaDoorPkH
import Derived.SevenTiedAt
namespace Go.Proofs.YtjhoaohpfbgfpaaDoor.keyReads
open Go Go.Gk Go.Gk.Val Go.ChangeShapes Go.WideShapes Go.ChangeAt Go.RowKit
theorem h_thimbleref05_readDigit : RReadDigitOk Tryd.prog 67 := rreaddigit_ok (f := 67) (hd := by kernel_rfl)
theorem h_thimbleref05_readText : RReadTextOk Tryd.prog 68 := rreadtext_ok (f := 68) (hd := by kernel_rfl)
theorem h_thimbleref05_read : RReadOk Tryd.prog 44 := rread_ok (f := 44) (f1 := 67) (f2 := 68) (hd := by kernel_rfl) (h1 := h_thimbleref05_readDigit) (h2 := h_thimbleref05_readText)
theorem h_thimbleref03_Depth : RDepthOk Tryd.prog 59 := rdepth_ok (f := 59) (hd := by kernel_rfl)
theorem h_thimbleref02_Char : CharOk Tryd.prog 114 := char_ok (f := 114) (hd := by kernel_rfl)
theorem h_thimbleref02_First : FirstOk Tryd.prog 108 := first_ok (f := 108) (f1 := 114) (hd := by kernel_rfl) (h1 := h_thimbleref02_Char)
theorem h_thimbleref02_Right : QuoteOk T Tryd.prog 99 := rquote_ok (f := 99) (f1 := 108) (hd := by kernel_rfl) (h1 := h_thimbleref02_First)
theorem h_thimbleref01_long : LongOk Tryd.prog 84 := long_ok (f := 84) (hd := by kernel_rfl)
theorem h_thimbleref01_short : ShortOk Tryd.prog 94 := short_ok (f := 94) (hd := by kernel_rfl)
theorem h_thimbleref01_Right : NumOk T Tryd.prog 83 := rnum_ok (f := 83) (f1 := 84) (f2 := 94) (hd := by kernel_rfl) (h1 := h_thimbleref01_long) (h2 := h_thimbleref01_short)
theorem h_thimbleref03_one : ROneOk T Tryd.prog 88 := rone_ok (f := 88) (f1 := 99) (f2 := 83) (hd := by kernel_rfl) (h1 := h_thimbleref02_Right) (h2 := h_thimbleref01_Right)
theorem h_thimbleref03_all : RAllOk T Tryd.prog 60 := rall_ok (f := 60) (f1 := 88) (hd := by kernel_rfl) (h1 := h_thimbleref03_one)
theorem h_thimbleref03_Right : RRightOk T Tryd.prog 39 := rright_ok (f := 39) (f1 := 59) (f2 := 60) (hd := by kernel_rfl) (h1 := h_thimbleref03_Depth) (h2 := h_thimbleref03_all)
theorem h_thimbleref05_number : RKNumberOk Tryd.prog 89 := rknumber_ok (f := 89) (hd := by kernel_rfl)
theorem h_thimbleref05_digit : RKDigitOk Tryd.prog 61 := rkdigit_ok (f := 61) (f1 := 89) (hd := by kernel_rfl) (h1 := h_thimbleref05_number)
theorem h_thimbleref05_text : RKTextOk Tryd.prog 62 := rktext_ok (f := 62) (hd := by kernel_rfl)
theorem h_thimbleref05_Key : RKeyOk Tryd.prog 40 := rkey_ok (f := 40) (f1 := 61) (f2 := 62) (hd := by kernel_rfl) (h1 := h_thimbleref05_digit) (h2 := h_thimbleref05_text)
theorem h_thimbleref05_Read : RKReadOk T Tryd.prog 29 := rkread_ok (f := 29) (f1 := 44) (f2 := 39) (f3 := 40) (hTm := fun h hl => hTm hl h) (hd := by kernel_rfl) (h1 := h_thimbleref05_read) (h2 := h_thimbleref03_Right) (h3 := h_thimbleref05_Key)
theorem own : ownKnob Tryd.prog.godebug = none := by kernel_rfl
theorem laidOut : laidOutB Tryd.prog = true := by kernel_rfl

set_option maxRecDepth 100000 in
theorem contract (H : Type) (enc : TypeId × Value → H) (W : World) (base : Nat) (args : Array Value) (ds gs : List (DataW H)) (before : List MemPlace)
    (hval : ∀ (j : Nat) t v, Tryd.f9.params[j]? = some t → args[j]? = some v → Value.okWide Tryd.prog W .any base t v)
    (hW : DataW.Whole enc Tryd.prog Tryd.f9.params.toList Rows.keyReadsSpec.vars false W args.toList ds gs before)
    (hwt : (DataW.weightsEach Tryd.prog (Tryd.f9.params.toList ++ Rows.keyReadsSpec.plain.varTypes Tryd.prog) (ds ++ gs)).all (· ≤ reachBytes) = true) (hL : laidMet Tryd.prog Rows.keyReadsRow.laid W) :
    Calls Tryd.prog 9 args W fun e W' => ∃ v, e = .returned v ∧ Rows.keyReadsSpec.post enc Tryd.prog Tryd.f9 false true false false W args v W' := by
  have hW' := hW
  obtain ⟨p, q, hA0, hV, rfl, hfz, hnd⟩ := hW
  have hA : DataW.TrodAll enc Tryd.prog W 0 (fun _ => true) true Tryd.f9.params.toList args.toList ds p := hA0
  rw [Tryd.params9] at hA hval hwt
  obtain ⟨v0, vs0, d0, ds0, p0, q0, hargs, rfl, rfl, h0, r0⟩ := trodAll_cons hA
  obtain ⟨rfl, rfl, rfl⟩ := trodAll_nil r0
  obtain rfl : args = #[v0] := by cases args; simp_all
  obtain ⟨rfl, rfl⟩ := trodVars_none hV
  obtain ⟨x0, hb⟩ := arg_slice (sz := 1) Tryd.underlying48 (by kernel_rfl) (by omega) (of_decide_eq_true (by kernel_rfl)) (rd_byte Tryd.underlying5) (hval 0 48 v0 rfl rfl) h0 (arg_weights (j := 0) hwt rfl rfl)
  have ht : T (hw W) := tabs_of (.tail _ (.tail _ (.tail _ (.tail _ (.tail _ (.head _)))))) (.tail _ (.tail _ (.tail _ (.head _)))) (.tail _ (.tail _ (.tail _ (.tail _ (.head _))))) (.tail _ (.tail _ (.head _))) hL
  exact calls_true laidOut (by kernel_rfl) hW' rfl rfl (by kernel_rfl) Tryd.underlying4 ((keyReads_ok (f := 9) (f1 := 25) (f2 := 28) (f3 := 29) (f4 := 17) (hTm := fun h hl => hTm hl h) (hd := by kernel_rfl) (h1 := h_thimblelaw05_works) (h2 := h_key_Read) (h3 := h_thimbleref05_Read) (h4 := h_thimbleref03_Same) (d := hw W) (ht := ht) (hb := hb)).yes)

set_option maxRecDepth 100000 in
theorem lifted (os : Os) (started : os.Started) (H : Type) (enc : TypeId × Value → H) :
    ReturnsInHanded {} Tryd.checked os 9 .any (fun w args => (Rows.keyReadsSpec.pre enc Tryd.prog Tryd.f9 [] false w args ∧ laidMetH Tryd.prog Rows.keyReadsRow.laid w) ∧ sizedMet enc Tryd.prog Tryd.f9 (OpenSpec.ofChange Rows.keyReadsSpec) false w args) (Rows.keyReadsSpec.post enc Tryd.prog Tryd.f9 false true false false) := by
  refine returnsInHanded_of_change_and (C := Tryd.checked) (X := fun w _ => laidMetH Tryd.prog Rows.keyReadsRow.laid w) (fun _ _ _ hh h => h.of_heap hh) own started (by kernel_rfl) Tryd.func9
    (ChangeSpec.witness_shaped (enc := enc) (C := Tryd.checked) (os := os) (X := fun w _ => laidMetH Tryd.prog Rows.keyReadsRow.laid w) false (World.laidAll Tryd.prog os Rows.keyReadsRow.laid) #[.slice none 0 0] 8 (World.laidAll_os _ _ _)
      (World.shaped_of_ZipB (by kernel_rfl) (by kernel_rfl)) (by kernel_rfl) (by kernel_rfl) (by kernel_rfl)
      (by rw [MakeChecks.laidMetH_plain _ _ _ (by kernel_rfl)]; exact laidMet_laidAll _ (by kernel_rfl) (by kernel_rfl))) ?_
  intro W base args ds gs before hval hW _ hwt hL _
  rw [MakeChecks.laidMetH_plain _ _ _ (by kernel_rfl)] at hL
  exact contract H enc W base args ds gs before hval hW hwt hL

theorem held : Rows.KeyReadsSaid :=
  OpenClaim.holds_of_wide 9 Tryd.f9 rfl rfl rfl rfl rfl rfl rfl ⟨rfl, rfl, rfl, rfl, rfl⟩ rfl rfl rfl rfl rfl (by kernel_rfl) Tryd.func9 (by kernel_rfl)
    (of_decide_eq_true (by kernel_rfl)) (by unfold Func.isWrapper; first | (rw [if_pos (by decide +kernel)]; kernel_rfl) | (rw [if_neg (by decide +kernel)]; exact ⟨rfl, rfl⟩))
    (fun os started H enc _ => lifted os started H enc)

theorem proved : Rows.KeyReadsCardSaid :=
  Claim7.holds_tied_plain_at .later [] [.data, .data, .data, .data, .data, .pinned] true (true, "33cbc621b9bc39ae48fe9ba45c9769d29fa43c0c058c91d33155a8a46bced9f6") false
    held (fun _ h => by cases h) (by kernel_rfl) (fun _ h => by cases h) keyReads_row_tie rfl ⟨rfl, rfl⟩ (by kernel_rfl) rfl
    (fun f fn hf hfn => by
      obtain rfl : f = 9 := Option.some.inj ((show Tryd.prog.funcNamed "thimble/thimblelaw05.KeyReads" = some 9 by kernel_rfl).symm.trans hf) |>.symm
      obtain rfl : fn = Tryd.f9 := (Option.some.inj (Tryd.func9.symm.trans hfn)).symm
      exact ⟨by kernel_rfl, fun j t ht => by
        rw [Tryd.params9] at ht
        have hm : t ∈ [48] := by simpa using Array.mem_of_getElem? ht
        have hall : ([48].all fun u => !Tryd.prog.wantsStandIn u) = true := by kernel_rfl
        exact (show Tryd.prog.wantsStandIn t = false by simpa using List.all_eq_true.1 hall t hm)⟩)
    (by kernel_rfl)
end Go.Proofs.YtjhoaohpfbgfpaaDoor.keyReads
