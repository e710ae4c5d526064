/-
  'thimblelaw19.PagerNobody' returns true for every call that is handed in, and leaves it as it is: no condition.
-/
import Derived.Test.YthifahmmapcfeaaRows
import Derived.Test.YthifahmmapcfeaaGk11
import Derived.Test.YthifahmmapcfeaaGkPager1
namespace Go.Proofs.Ythifahmmapcfeaa.pagerNobody
open Go Go.Gk Go.ChangeShapes Go.WideShapes Go.ChangeAt Go.RowKit

theorem walk (d : PHeap) (kd k by_ : Int) (w : Value) : GCall Try.prog 3 [.agg [.int .i64 kd, .int .i64 k, .int .u8 by_, w].toArray] d [] (Ret fun v _ _ => v = .bool true) :=
  Go.Gk.Pager.nobody (f1 := 7) (f2 := 8) (f3 := 9) (f4 := 10) (f5 := 11) (f6 := 12) (f7 := 13) (f8 := 14)
    (f9 := 15) (f10 := 16) (f11 := 17) (f12 := 18) (f13 := 19) (g1 := 26) (g2 := 27) (g3 := 28) (g4 := 30)
    (g5 := 31) (g6 := 33) (g7 := 34) (g8 := 35) (g9 := 36) (h1 := 37) (h2 := 38) (h3 := 43)
    (by kernel_rfl) (by kernel_rfl) (by kernel_rfl) (by kernel_rfl) (by kernel_rfl) (by kernel_rfl) (by kernel_rfl) (by kernel_rfl) (by kernel_rfl) (by kernel_rfl) (by kernel_rfl) (by kernel_rfl) (by kernel_rfl) (by kernel_rfl) (by kernel_rfl) (by kernel_rfl) (by kernel_rfl) (by kernel_rfl)

theorem own : ownKnob Try.prog.godebug = none := by kernel_rfl
theorem laidOut : laidOutB Try.prog = true := by kernel_rfl

theorem contract (H : Type) (enc : TypeId × Value → H) (W : World) (base : Nat) (args : Array Value) (ds gs : List (DataW H)) (before : List MemPlace)
    (hval : ∀ (j : Nat) t v, Try.f3.params[j]? = some t → args[j]? = some v → Value.okWide Try.prog W .any base t v)
    (hW : DataW.Whole enc Try.prog Try.f3.params.toList Rows.pagerNobodySpec.vars false W args.toList ds gs before)
    (hwt : (DataW.weightsEach Try.prog (Try.f3.params.toList ++ Rows.pagerNobodySpec.plain.varTypes Try.prog) (ds ++ gs)).all (· ≤ reachBytes) = true) :
    Calls Try.prog 3 args W fun e W' => ∃ v, e = .returned v ∧ Rows.pagerNobodySpec.post enc Try.prog Try.f3 false true false false W args v W' := by
  have hW' := hW
  obtain ⟨p, q, hA0, hV, rfl, hfz, hnd⟩ := hW
  have hA : DataW.TrodAll enc Try.prog W 0 (fun _ => true) true Try.f3.params.toList args.toList ds p := hA0
  rw [Try.params3] at hA hval hwt
  obtain ⟨v0, vs0, d0, ds0, p0, q0, hargs, rfl, rfl, h0, r0⟩ := trodAll_cons hA
  obtain ⟨rfl, rfl, rfl⟩ := trodAll_nil r0
  obtain rfl : args = #[v0] := by cases args; simp_all
  obtain ⟨rfl, rfl⟩ := trodVars_none hV
  obtain ⟨cs, rfl, hsz⟩ := okWide_struct Try.underlying24 (hval 0 24 v0 rfl rfl)
  obtain ⟨fuel, hf⟩ := h0
  obtain ⟨hl, hfs⟩ := rd_fields Try.underlying24 hf (arg_weights (j := 0) hwt rfl rfl)
  obtain ⟨k0, e0, _⟩ := hfs 0 0 3 1 rfl (by kernel_rfl) (rd_int Try.underlying3)
  obtain ⟨k1, e1, _⟩ := hfs 1 1 3 1 rfl (by kernel_rfl) (rd_int Try.underlying3)
  obtain ⟨k2, e2⟩ := hfs 2 2 5 1 rfl (by kernel_rfl) (rd_byte Try.underlying5)
  have hl4 : (Value.agg cs).cells.toList.length = 4 := hl.trans (by kernel_rfl)
  obtain ⟨a0, a1, a2, a3, hcs⟩ := list4 hl4
  rw [hcs] at e0 e1 e2
  simp only [List.drop, List.take, List.cons.injEq, and_true] at e0 e1
  have e2' : a2 = byteV k2 := by simpa [RByte] using e2
  have hv : Value.agg cs = .agg [.int .i64 k0, .int .i64 k1, .int .u8 k2.toNat, a3].toArray := by
    have h5 : cs.toList = [a0, a1, a2, a3] := hcs
    have h6 : cs = [a0, a1, a2, a3].toArray := by rw [← h5]
    rw [h6, e0, e1, e2']; rfl
  rw [hv]
  rw [hv] at hW'
  exact calls_true laidOut (by kernel_rfl) hW' rfl rfl (by kernel_rfl) Try.underlying4 (walk (hw W) k0 k1 k2.toNat a3)

set_option maxRecDepth 100000 in
theorem lifted (os : Os) (started : os.Started) (H : Type) (enc : TypeId × Value → H) :
    ReturnsInHanded {} Try.checked os 3 .any (Rows.pagerNobodySpec.pre6 enc Try.prog Try.f3 Rows.pagerNobodyRow.domain false) (Rows.pagerNobodySpec.post enc Try.prog Try.f3 false true false false) := by
  refine returnsInHanded_of_change_sized (C := Try.checked) own started (by kernel_rfl) Try.func3
    (ChangeSpec.witness6 (enc := enc) (C := Try.checked) false ⟨#[], #[.agg #[.int .i64 0, .int .i64 0, .int .u8 0, .slice none 0 0]], []⟩ 8 (by kernel_rfl) (by kernel_rfl) (by kernel_rfl) (by kernel_rfl)) ?_
  intro W base args ds gs before hval hW _ hwt _
  exact contract H enc W base args ds gs before hval hW hwt

theorem proved : Rows.PagerNobodySaid :=
  OpenClaim.holds_of_wide 3 Try.f3 rfl rfl rfl rfl rfl rfl rfl ⟨rfl, rfl, rfl, rfl, rfl⟩ rfl rfl rfl rfl rfl (by kernel_rfl) Try.func3 (by kernel_rfl)
    (of_decide_eq_true (by kernel_rfl)) (by unfold Func.isWrapper; first | (rw [if_pos (by decide +kernel)]; kernel_rfl) | (rw [if_neg (by decide +kernel)]; exact ⟨rfl, rfl⟩))
    (fun os started H enc _ => lifted os started H enc)
end Go.Proofs.Ythifahmmapcfeaa.pagerNobody
