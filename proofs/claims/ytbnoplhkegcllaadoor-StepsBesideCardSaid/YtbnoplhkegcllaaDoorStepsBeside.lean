/-
  'thimblelaw08.StepsBeside' returns true for every value, key, way, value to put and other key, and leaves them as they are; the tables that it reads are tied to the program's text. No condition.
-/
import Derived.Test.YtbnoplhkegcllaaDoorRows
import Derived.Test.YtbnoplhkegcllaaDoorCards
import Derived.Test.YtbnoplhkegcllaaDoorTie
import Derived.Test.YtbnoplhkegcllaaDoorC8
import Derived.SevenTiedAt
namespace Go.Proofs.YtbnoplhkegcllaaDoor.stepsBeside
open Go Go.Gk Go.Gk.Val Go.ChangeShapes Go.WideShapes Go.ChangeAt Go.RowKit

theorem own : ownKnob Tryd.prog.godebug = none := by kernel_rfl
theorem laidOut : laidOutB Tryd.prog = true := by kernel_rfl

set_option maxRecDepth 100000 in
theorem contract (H : Type) (enc : TypeId × Value → H) (W : World) (base : Nat) (args : Array Value) (ds gs : List (DataW H)) (before : List MemPlace)
    (hval : ∀ (j : Nat) t v, Tryd.f8.params[j]? = some t → args[j]? = some v → Value.okWide Tryd.prog W .any base t v)
    (hW : DataW.Whole enc Tryd.prog Tryd.f8.params.toList Rows.stepsBesideSpec.vars false W args.toList ds gs before)
    (hwt : (DataW.weightsEach Tryd.prog (Tryd.f8.params.toList ++ Rows.stepsBesideSpec.plain.varTypes Tryd.prog) (ds ++ gs)).all (· ≤ reachBytes) = true) (hL : laidMet Tryd.prog Rows.stepsBesideRow.laid W) :
    Calls Tryd.prog 8 args W fun e W' => ∃ v, e = .returned v ∧ Rows.stepsBesideSpec.post enc Tryd.prog Tryd.f8 false true false false W args v W' := by
  have hW' := hW
  obtain ⟨p, q, hA0, hV, rfl, hfz, hnd⟩ := hW
  have hA : DataW.TrodAll enc Tryd.prog W 0 (fun _ => true) true Tryd.f8.params.toList args.toList ds p := hA0
  rw [Tryd.params8] at hA hval hwt
  obtain ⟨v0, vs0, d0, ds0, p0, q0, hargs, rfl, rfl, h0, r0⟩ := trodAll_cons hA
  obtain ⟨v1, vs1, d1, ds1, p1, q1, rfl, rfl, rfl, h1, r1⟩ := trodAll_cons r0
  obtain ⟨v2, vs2, d2, ds2, p2, q2, rfl, rfl, rfl, h2, r2⟩ := trodAll_cons r1
  obtain ⟨v3, vs3, d3, ds3, p3, q3, rfl, rfl, rfl, h3, r3⟩ := trodAll_cons r2
  obtain ⟨v4, vs4, d4, ds4, p4, q4, rfl, rfl, rfl, h4, r4⟩ := trodAll_cons r3
  obtain ⟨rfl, rfl, rfl⟩ := trodAll_nil r4
  obtain rfl : args = #[v0, v1, v2, v3, v4] := by cases args; simp_all
  obtain ⟨rfl, rfl⟩ := trodVars_none hV
  obtain ⟨cs0, v, rfl, hv'⟩ := arg_struct Tryd.underlying27 rdVal (hval 0 27 v0 rfl rfl) h0 (arg_weights (j := 0) hwt rfl rfl)
  obtain ⟨k, rfl, hk'⟩ := arg_str Tryd.underlying9 (hval 1 9 v1 rfl rfl) h1 (arg_weights (j := 1) hwt rfl rfl)
  obtain ⟨l, hl'⟩ := arg_slice (sz := 6) Tryd.underlying28 (by kernel_rfl) (by omega) (of_decide_eq_true (by kernel_rfl)) rdSt (hval 2 28 v2 rfl rfl) h2 (arg_weights (j := 2) hwt rfl rfl)
  obtain ⟨cs3, x, rfl, hx'⟩ := arg_struct Tryd.underlying27 rdVal (hval 3 27 v3 rfl rfl) h3 (arg_weights (j := 3) hwt rfl rfl)
  obtain ⟨o, rfl, ho'⟩ := arg_str Tryd.underlying9 (hval 4 9 v4 rfl rfl) h4 (arg_weights (j := 4) hwt rfl rfl)
  have ht : T (hw W) := tabs_of (.tail _ (.tail _ (.head _))) (.head _) (.tail _ (.head _)) hL
  exact calls_true laidOut (by kernel_rfl) hW' rfl rfl (by kernel_rfl) Tryd.underlying4 ((stepsBeside_ok (f := 8) (f1 := 16) (f2 := 15) (f3 := 27) (f4 := 18) (f5 := 22) (f6 := 20) (f7 := 24) (hT := hTm) (hd := by kernel_rfl) (h1 := h_thimblelaw08_works) (h2 := h_thimblelaw08_great) (hF := h_thimblelaw08_field) (hG := h_steps_Get) (hP := h_steps_Put) (h6 := h_thimbleref03_Same) (hD := h_steps_Drop) (d := hw W) (ht := ht) (hv := hv') (hk := hk') (hw := hl') (hx := hx') (ho := ho')).yes)

set_option maxRecDepth 100000 in
theorem lifted (os : Os) (started : os.Started) (H : Type) (enc : TypeId × Value → H) :
    ReturnsInHanded {} Tryd.checked os 8 .any (fun w args => (Rows.stepsBesideSpec.pre enc Tryd.prog Tryd.f8 [] false w args ∧ laidMetH Tryd.prog Rows.stepsBesideRow.laid w) ∧ sizedMet enc Tryd.prog Tryd.f8 (OpenSpec.ofChange Rows.stepsBesideSpec) false w args) (Rows.stepsBesideSpec.post enc Tryd.prog Tryd.f8 false true false false) := by
  refine returnsInHanded_of_change_and (C := Tryd.checked) (X := fun w _ => laidMetH Tryd.prog Rows.stepsBesideRow.laid w) (fun _ _ _ hh h => h.of_heap hh) own started (by kernel_rfl) Tryd.func8
    (ChangeSpec.witness_shaped (enc := enc) (C := Tryd.checked) (os := os) (X := fun w _ => laidMetH Tryd.prog Rows.stepsBesideRow.laid w) false (World.laidAll Tryd.prog os Rows.stepsBesideRow.laid) #[.agg #[.int .i64 0, .int .i64 0, .int .i64 0, .string ⟨#[]⟩, .slice none 0 0, .slice none 0 0], .string ⟨#[]⟩, .slice none 0 0, .agg #[.int .i64 0, .int .i64 0, .int .i64 0, .string ⟨#[]⟩, .slice none 0 0, .slice none 0 0], .string ⟨#[]⟩] 8 (World.laidAll_os _ _ _)
      (World.shaped_of_ZipB (by kernel_rfl) (by kernel_rfl)) (by kernel_rfl) (by kernel_rfl) (by kernel_rfl)
      (by rw [MakeChecks.laidMetH_plain _ _ _ (by kernel_rfl)]; exact laidMet_laidAll _ (by kernel_rfl) (by kernel_rfl))) ?_
  intro W base args ds gs before hval hW _ hwt hL _
  rw [MakeChecks.laidMetH_plain _ _ _ (by kernel_rfl)] at hL
  exact contract H enc W base args ds gs before hval hW hwt hL

theorem held : Rows.StepsBesideSaid :=
  OpenClaim.holds_of_wide 8 Tryd.f8 rfl rfl rfl rfl rfl rfl rfl ⟨rfl, rfl, rfl, rfl, rfl⟩ rfl rfl rfl rfl rfl (by kernel_rfl) Tryd.func8 (by kernel_rfl)
    (of_decide_eq_true (by kernel_rfl)) (by unfold Func.isWrapper; first | (rw [if_pos (by decide +kernel)]; kernel_rfl) | (rw [if_neg (by decide +kernel)]; exact ⟨rfl, rfl⟩))
    (fun os started H enc _ => lifted os started H enc)

theorem proved : Rows.StepsBesideCardSaid :=
  Claim7.holds_tied_plain_at .later [] [.data, .data, .pinned] true (true, "14b799c095305fbdab2d13ffd099b716dd6a348e0699ca20076b0bd404d9b317") false
    held (fun _ h => by cases h) (by kernel_rfl) (fun _ h => by cases h) stepsBeside_row_tie rfl ⟨rfl, rfl⟩ (by kernel_rfl) rfl
    (fun f fn hf hfn => by
      obtain rfl : f = 8 := Option.some.inj ((show Tryd.prog.funcNamed "thimble/thimblelaw08.StepsBeside" = some 8 by kernel_rfl).symm.trans hf) |>.symm
      obtain rfl : fn = Tryd.f8 := (Option.some.inj (Tryd.func8.symm.trans hfn)).symm
      exact ⟨by kernel_rfl, fun j t ht => by
        rw [Tryd.params8] at ht
        have hm : t ∈ [27, 9, 28, 27, 9] := by simpa using Array.mem_of_getElem? ht
        have hall : ([27, 9, 28, 27, 9].all fun u => !Tryd.prog.wantsStandIn u) = true := by kernel_rfl
        exact (show Tryd.prog.wantsStandIn t = false by simpa using List.all_eq_true.1 hall t hm)⟩)
    (by kernel_rfl)
end Go.Proofs.YtbnoplhkegcllaaDoor.stepsBeside
