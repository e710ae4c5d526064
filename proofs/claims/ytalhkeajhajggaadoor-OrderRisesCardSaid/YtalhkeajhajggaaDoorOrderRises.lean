/-
  'thimblelaw04.OrderRises' returns true for all lists of values, and leaves them as they are; the tables that it reads are tied to the program's text. No condition.
-/
import Derived.Test.YtalhkeajhajggaaDoorRows
import Derived.Test.YtalhkeajhajggaaDoorCards
import Derived.Test.YtalhkeajhajggaaDoorTie
import Derived.Test.YtalhkeajhajggaaDoorC4
import Derived.Test.YtalhkeajhajggaaDoorPkH
import Derived.SevenTiedAt
namespace Go.Proofs.YtalhkeajhajggaaDoor.orderRises
open Go Go.Gk Go.Gk.Val Go.ChangeShapes Go.WideShapes Go.ChangeAt Go.RowKit
theorem h_thimbleref03_Copy : RCopyOk Tryd.prog 15 := rcopy_ok (f := 15) (hd := by kernel_rfl)
theorem h_thimbleref03_Lists : ListsOk Tryd.prog 30 := lists_ok (f := 30) (f1 := 18) (hd := by kernel_rfl) (h1 := h_thimbleref03_Same)
theorem h_order_Least : LeastOk T Tryd.prog 28 := oleast_ok (f := 28) (f1 := 31) (f2 := 39) (hTm := hTm) (hd := by kernel_rfl) (h1 := h_value_Right) (h2 := h_order_compare)
theorem h_thimbleref04_Sort : RSortOk T Tryd.prog 27 := rsort_ok (f := 27) (f1 := 40) (f2 := 41) (hTm := hTm) (hd := by kernel_rfl) (h1 := h_thimbleref04_wrong) (h2 := h_thimbleref04_Compare)
theorem h_thimbleref04_Least : LeastOk T Tryd.prog 29 := rleast_ok (f := 29) (f1 := 40) (f2 := 41) (hTm := hTm) (hd := by kernel_rfl) (h1 := h_thimbleref04_wrong) (h2 := h_thimbleref04_Compare)
theorem own : ownKnob Tryd.prog.godebug = none := by kernel_rfl
theorem laidOut : laidOutB Tryd.prog = true := by kernel_rfl

set_option maxRecDepth 100000 in
theorem contract (H : Type) (enc : TypeId × Value → H) (W : World) (base : Nat) (args : Array Value) (ds gs : List (DataW H)) (before : List MemPlace)
    (hval : ∀ (j : Nat) t v, Tryd.f12.params[j]? = some t → args[j]? = some v → Value.okWide Tryd.prog W .any base t v)
    (hW : DataW.Whole enc Tryd.prog Tryd.f12.params.toList Rows.orderRisesSpec.vars false W args.toList ds gs before)
    (hwt : (DataW.weightsEach Tryd.prog (Tryd.f12.params.toList ++ Rows.orderRisesSpec.plain.varTypes Tryd.prog) (ds ++ gs)).all (· ≤ reachBytes) = true) (hL : laidMet Tryd.prog Rows.orderRisesRow.laid W) :
    Calls Tryd.prog 12 args W fun e W' => ∃ v, e = .returned v ∧ Rows.orderRisesSpec.post enc Tryd.prog Tryd.f12 false true false false W args v W' := by
  have hW' := hW
  obtain ⟨p, q, hA0, hV, rfl, hfz, hnd⟩ := hW
  have hA : DataW.TrodAll enc Tryd.prog W 0 (fun _ => true) true Tryd.f12.params.toList args.toList ds p := hA0
  rw [Tryd.params12] at hA hval hwt
  obtain ⟨v0, vs0, d0, ds0, p0, q0, hargs, rfl, rfl, h0, r0⟩ := trodAll_cons hA
  obtain ⟨rfl, rfl, rfl⟩ := trodAll_nil r0
  obtain rfl : args = #[v0] := by cases args; simp_all
  obtain ⟨rfl, rfl⟩ := trodVars_none hV
  obtain ⟨l, hv⟩ := arg_slice (sz := 6) Tryd.underlying24 (by kernel_rfl) (by omega) (of_decide_eq_true (by kernel_rfl)) rdVal (hval 0 24 v0 rfl rfl) h0 (arg_weights (j := 0) hwt rfl rfl)
  have ht : T (hw W) := tabs_of (.tail _ (.tail _ (.tail _ (.tail _ (.tail _ (.head _)))))) (.tail _ (.tail _ (.tail _ (.head _)))) (.tail _ (.tail _ (.tail _ (.tail _ (.head _))))) (.tail _ (.tail _ (.head _))) hL
  exact calls_true laidOut (by kernel_rfl) hW' rfl rfl (by kernel_rfl) Tryd.underlying4 ((orderRises_ok (f := 12) (f1 := 24) (f2 := 13) (f3 := 26) (f4 := 22) (f5 := 18) (f6 := 30) (f7 := 28) (hT := hTm) (hd := by kernel_rfl) (h1 := h_thimblelaw04_works) (h2 := h_thimbleref03_Bulk) (h3 := h_order_Sort) (h4 := h_order_Cmp) (h5 := h_thimbleref03_Same) (h6 := h_thimbleref03_Lists) (h7 := h_order_Least) (d := hw W) (ht := ht) (hv := hv)).yes)

set_option maxRecDepth 100000 in
theorem lifted (os : Os) (started : os.Started) (H : Type) (enc : TypeId × Value → H) :
    ReturnsInHanded {} Tryd.checked os 12 .any (fun w args => (Rows.orderRisesSpec.pre enc Tryd.prog Tryd.f12 [] false w args ∧ laidMetH Tryd.prog Rows.orderRisesRow.laid w) ∧ sizedMet enc Tryd.prog Tryd.f12 (OpenSpec.ofChange Rows.orderRisesSpec) false w args) (Rows.orderRisesSpec.post enc Tryd.prog Tryd.f12 false true false false) := by
  refine returnsInHanded_of_change_and (C := Tryd.checked) (X := fun w _ => laidMetH Tryd.prog Rows.orderRisesRow.laid w) (fun _ _ _ hh h => h.of_heap hh) own started (by kernel_rfl) Tryd.func12
    (ChangeSpec.witness_shaped (enc := enc) (C := Tryd.checked) (os := os) (X := fun w _ => laidMetH Tryd.prog Rows.orderRisesRow.laid w) false (World.laidAll Tryd.prog os Rows.orderRisesRow.laid) #[.slice none 0 0] 8 (World.laidAll_os _ _ _)
      (World.shaped_of_ZipB (by kernel_rfl) (by kernel_rfl)) (by kernel_rfl) (by kernel_rfl) (by kernel_rfl)
      (by rw [MakeChecks.laidMetH_plain _ _ _ (by kernel_rfl)]; exact laidMet_laidAll _ (by kernel_rfl) (by kernel_rfl))) ?_
  intro W base args ds gs before hval hW _ hwt hL _
  rw [MakeChecks.laidMetH_plain _ _ _ (by kernel_rfl)] at hL
  exact contract H enc W base args ds gs before hval hW hwt hL

theorem held : Rows.OrderRisesSaid :=
  OpenClaim.holds_of_wide 12 Tryd.f12 rfl rfl rfl rfl rfl rfl rfl ⟨rfl, rfl, rfl, rfl, rfl⟩ rfl rfl rfl rfl rfl (by kernel_rfl) Tryd.func12 (by kernel_rfl)
    (of_decide_eq_true (by kernel_rfl)) (by unfold Func.isWrapper; first | (rw [if_pos (by decide +kernel)]; kernel_rfl) | (rw [if_neg (by decide +kernel)]; exact ⟨rfl, rfl⟩))
    (fun os started H enc _ => lifted os started H enc)

theorem proved : Rows.OrderRisesCardSaid :=
  Claim7.holds_tied_plain_at .later [] [.data, .data, .data, .data, .data, .pinned] true (true, "78f6de6928263fba65adb86df948edf4b54846d0be89dce768d9ab3f8c6c2521") false
    held (fun _ h => by cases h) (by kernel_rfl) (fun _ h => by cases h) orderRises_row_tie rfl ⟨rfl, rfl⟩ (by kernel_rfl) rfl
    (fun f fn hf hfn => by
      obtain rfl : f = 12 := Option.some.inj ((show Tryd.prog.funcNamed "thimble/thimblelaw04.OrderRises" = some 12 by kernel_rfl).symm.trans hf) |>.symm
      obtain rfl : fn = Tryd.f12 := (Option.some.inj (Tryd.func12.symm.trans hfn)).symm
      exact ⟨by kernel_rfl, fun j t ht => by
        rw [Tryd.params12] at ht
        have hm : t ∈ [24] := by simpa using Array.mem_of_getElem? ht
        have hall : ([24].all fun u => !Tryd.prog.wantsStandIn u) = true := by kernel_rfl
        exact (show Tryd.prog.wantsStandIn t = false by simpa using List.all_eq_true.1 hall t hm)⟩)
    (by kernel_rfl)
end Go.Proofs.YtalhkeajhajggaaDoor.orderRises
