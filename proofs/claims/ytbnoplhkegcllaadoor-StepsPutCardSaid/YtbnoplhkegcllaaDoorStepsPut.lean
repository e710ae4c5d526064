/-
  'thimblelaw08.StepsPut' returns true for every value, every way and every value to put, and leaves them as they are; the tables that it reads are tied to the program's text. No condition.
-/
import Derived.Test.YtbnoplhkegcllaaDoorRows
import Derived.Test.YtbnoplhkegcllaaDoorCards
import Derived.Test.YtbnoplhkegcllaaDoorTie
import Derived.Test.YtbnoplhkegcllaaDoorC9
import Derived.Test.YtbnoplhkegcllaaDoorPkH
import Derived.SevenTiedAt
namespace Go.Proofs.YtbnoplhkegcllaaDoor.stepsPut
open Go Go.Gk Go.Gk.Val Go.ChangeShapes Go.WideShapes Go.ChangeAt Go.RowKit
theorem h_thimbleref03_Make : MakeOk T Tryd.prog 94 := make_ok (f := 94) (f1 := 62) (f2 := 42) (f3 := 48) (hTm := fun h hl => hTm hl h) (hd := by kernel_rfl) (h1 := h_thimbleref02_Right) (h2 := h_thimbleref03_Right) (h3 := h_thimbleref03_Depth)
theorem h_thimbleref08_Set : RSetOk T Tryd.prog 69 := rset_ok (f := 69) (f1 := 94) (f2 := 63) (f3 := 64) (hTm := fun h hl => hTm hl h) (hd := by kernel_rfl) (h1 := h_thimbleref03_Make) (h2 := h_thimbleref08_key) (h3 := h_thimbleref08_ends)
theorem h_thimbleref08_put : RPutROk T Tryd.prog 47 := rputr_ok (f := 47) (f1 := 44) (f2 := 69) (hTm := fun h hl => hTm hl h) (hd := by kernel_rfl) (h1 := h_thimbleref08_One) (h2 := h_thimbleref08_Set)
theorem h_thimbleref08_Put : RPutOk T Tryd.prog 23 := rput_ok (f := 23) (f1 := 42) (f2 := 43) (f3 := 47) (f4 := 48) (hTm := fun h hl => hTm hl h) (hd := by kernel_rfl) (h1 := h_thimbleref03_Right) (h2 := h_thimbleref08_Wrong) (h3 := h_thimbleref08_put) (h4 := h_thimbleref03_Depth)

theorem own : ownKnob Tryd.prog.godebug = none := by kernel_rfl
theorem laidOut : laidOutB Tryd.prog = true := by kernel_rfl

set_option maxRecDepth 100000 in
theorem contract (H : Type) (enc : TypeId × Value → H) (W : World) (base : Nat) (args : Array Value) (ds gs : List (DataW H)) (before : List MemPlace)
    (hval : ∀ (j : Nat) t v, Tryd.f4.params[j]? = some t → args[j]? = some v → Value.okWide Tryd.prog W .any base t v)
    (hW : DataW.Whole enc Tryd.prog Tryd.f4.params.toList Rows.stepsPutSpec.vars false W args.toList ds gs before)
    (hwt : (DataW.weightsEach Tryd.prog (Tryd.f4.params.toList ++ Rows.stepsPutSpec.plain.varTypes Tryd.prog) (ds ++ gs)).all (· ≤ reachBytes) = true) (hL : laidMet Tryd.prog Rows.stepsPutRow.laid W) :
    Calls Tryd.prog 4 args W fun e W' => ∃ v, e = .returned v ∧ Rows.stepsPutSpec.post enc Tryd.prog Tryd.f4 false true false false W args v W' := by
  have hW' := hW
  obtain ⟨p, q, hA0, hV, rfl, hfz, hnd⟩ := hW
  have hA : DataW.TrodAll enc Tryd.prog W 0 (fun _ => true) true Tryd.f4.params.toList args.toList ds p := hA0
  rw [Tryd.params4] at hA hval hwt
  obtain ⟨v0, vs0, d0, ds0, p0, q0, hargs, rfl, rfl, h0, r0⟩ := trodAll_cons hA
  obtain ⟨v1, vs1, d1, ds1, p1, q1, rfl, rfl, rfl, h1, r1⟩ := trodAll_cons r0
  obtain ⟨v2, vs2, d2, ds2, p2, q2, rfl, rfl, rfl, h2, r2⟩ := trodAll_cons r1
  obtain ⟨rfl, rfl, rfl⟩ := trodAll_nil r2
  obtain rfl : args = #[v0, v1, v2] := by cases args; simp_all
  obtain ⟨rfl, rfl⟩ := trodVars_none hV
  obtain ⟨cs0, v, rfl, hv'⟩ := arg_struct Tryd.underlying27 rdVal (hval 0 27 v0 rfl rfl) h0 (arg_weights (j := 0) hwt rfl rfl)
  obtain ⟨l, hl'⟩ := arg_slice (sz := 6) Tryd.underlying28 (by kernel_rfl) (by omega) (of_decide_eq_true (by kernel_rfl)) rdSt (hval 1 28 v1 rfl rfl) h1 (arg_weights (j := 1) hwt rfl rfl)
  obtain ⟨cs2, x, rfl, hx'⟩ := arg_struct Tryd.underlying27 rdVal (hval 2 27 v2 rfl rfl) h2 (arg_weights (j := 2) hwt rfl rfl)
  have ht : T (hw W) := tabs_of (.tail _ (.tail _ (.head _))) (.head _) (.tail _ (.head _)) hL
  exact calls_true laidOut (by kernel_rfl) hW' rfl rfl (by kernel_rfl) Tryd.underlying4 ((stepsPut_ok (f := 4) (f1 := 15) (f2 := 16) (f3 := 17) (f4 := 22) (f5 := 23) (f6 := 20) (f7 := 21) (hT := hTm) (hd := by kernel_rfl) (h1 := h_thimblelaw08_great) (h2 := h_thimblelaw08_works) (h3 := h_thimbleref03_Copy) (h4 := h_steps_Put) (h5 := h_thimbleref08_Put) (h6 := h_thimbleref03_Same) (h7 := h_thimblelaw08_spoil) (d := hw W) (ht := ht) (hv := hv') (hw := hl') (hx := hx')).yes)

set_option maxRecDepth 100000 in
theorem lifted (os : Os) (started : os.Started) (H : Type) (enc : TypeId × Value → H) :
    ReturnsInHanded {} Tryd.checked os 4 .any (fun w args => (Rows.stepsPutSpec.pre enc Tryd.prog Tryd.f4 [] false w args ∧ laidMetH Tryd.prog Rows.stepsPutRow.laid w) ∧ sizedMet enc Tryd.prog Tryd.f4 (OpenSpec.ofChange Rows.stepsPutSpec) false w args) (Rows.stepsPutSpec.post enc Tryd.prog Tryd.f4 false true false false) := by
  refine returnsInHanded_of_change_and (C := Tryd.checked) (X := fun w _ => laidMetH Tryd.prog Rows.stepsPutRow.laid w) (fun _ _ _ hh h => h.of_heap hh) own started (by kernel_rfl) Tryd.func4
    (ChangeSpec.witness_shaped (enc := enc) (C := Tryd.checked) (os := os) (X := fun w _ => laidMetH Tryd.prog Rows.stepsPutRow.laid w) false (World.laidAll Tryd.prog os Rows.stepsPutRow.laid) #[.agg #[.int .i64 0, .int .i64 0, .int .i64 0, .string ⟨#[]⟩, .slice none 0 0, .slice none 0 0], .slice none 0 0, .agg #[.int .i64 0, .int .i64 0, .int .i64 0, .string ⟨#[]⟩, .slice none 0 0, .slice none 0 0]] 8 (World.laidAll_os _ _ _)
      (World.shaped_of_ZipB (by kernel_rfl) (by kernel_rfl)) (by kernel_rfl) (by kernel_rfl) (by kernel_rfl)
      (by rw [MakeChecks.laidMetH_plain _ _ _ (by kernel_rfl)]; exact laidMet_laidAll _ (by kernel_rfl) (by kernel_rfl))) ?_
  intro W base args ds gs before hval hW _ hwt hL _
  rw [MakeChecks.laidMetH_plain _ _ _ (by kernel_rfl)] at hL
  exact contract H enc W base args ds gs before hval hW hwt hL

theorem held : Rows.StepsPutSaid :=
  OpenClaim.holds_of_wide 4 Tryd.f4 rfl rfl rfl rfl rfl rfl rfl ⟨rfl, rfl, rfl, rfl, rfl⟩ rfl rfl rfl rfl rfl (by kernel_rfl) Tryd.func4 (by kernel_rfl)
    (of_decide_eq_true (by kernel_rfl)) (by unfold Func.isWrapper; first | (rw [if_pos (by decide +kernel)]; kernel_rfl) | (rw [if_neg (by decide +kernel)]; exact ⟨rfl, rfl⟩))
    (fun os started H enc _ => lifted os started H enc)

theorem proved : Rows.StepsPutCardSaid :=
  Claim7.holds_tied_plain_at .later [] [.data, .data, .pinned] true (true, "14b799c095305fbdab2d13ffd099b716dd6a348e0699ca20076b0bd404d9b317") false
    held (fun _ h => by cases h) (by kernel_rfl) (fun _ h => by cases h) stepsPut_row_tie rfl ⟨rfl, rfl⟩ (by kernel_rfl) rfl
    (fun f fn hf hfn => by
      obtain rfl : f = 4 := Option.some.inj ((show Tryd.prog.funcNamed "thimble/thimblelaw08.StepsPut" = some 4 by kernel_rfl).symm.trans hf) |>.symm
      obtain rfl : fn = Tryd.f4 := (Option.some.inj (Tryd.func4.symm.trans hfn)).symm
      exact ⟨by kernel_rfl, fun j t ht => by
        rw [Tryd.params4] at ht
        have hm : t ∈ [27, 28, 27] := by simpa using Array.mem_of_getElem? ht
        have hall : ([27, 28, 27].all fun u => !Tryd.prog.wantsStandIn u) = true := by kernel_rfl
        exact (show Tryd.prog.wantsStandIn t = false by simpa using List.all_eq_true.1 hall t hm)⟩)
    (by kernel_rfl)
end Go.Proofs.YtbnoplhkegcllaaDoor.stepsPut
