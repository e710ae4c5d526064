/-
  'thimblelaw21.ChainNobody' returns true for every row of bytes and every two numbers, and leaves them as they are: no condition.
-/
import Derived.Test.YtpkcbopokjffhaaRows
import Derived.Test.YtpkcbopokjffhaaPkD
namespace Go.Proofs.Ytpkcbopokjffhaa.chainNobody
open Go Go.Gk Go.Gk.Dev Go.Gk.Cch Go.Gk.Pgr Go.Gk.Chn Go.Gk.Node Go.ChangeShapes Go.WideShapes Go.ChangeAt Go.RowKit
theorem h_chain_Pages : PagesOk Try.prog 12 := pages_ok (f := 12) (hd := by kernel_rfl)
theorem h_chain_taken_1 : NTkClOk Try.prog 25 := ntkcl_ok (f := 25) (f3 := 17) (hd := by kernel_rfl)
theorem h_pager_Pager_none : NNoneOk Try.prog 24 := nnone_ok (f := 24) (hd := by kernel_rfl)
theorem h_pager_Pager_Take : NTakeOk Try.prog 26 := ntake_ok (f := 26) (f1 := 24) (f2 := 34) (hd := by kernel_rfl) (h1 := h_pager_Pager_none)
theorem h_chain_taken : NTakenOk Try.prog 14 := ntaken_ok (f := 14) (f1 := 25) (f2 := 26) (hd := by kernel_rfl) (h0 := h_chain_taken_1) (h1 := h_pager_Pager_Take)
theorem h_chain_Put : NPutOk Try.prog 6 := nput_ok (f := 6) (f1 := 12) (f2 := 14) (f3 := 15) (hd := by kernel_rfl) (h1 := h_chain_Pages) (h2 := h_chain_taken)
theorem h_pager_Pager_Get : NGetOk Try.prog 36 := nget_ok (f := 36) (f1 := 24) (f2 := 27) (f3 := 28) (f4 := 38) (f5 := 39) (hd := by kernel_rfl) (h1 := h_pager_Pager_none)
theorem h_chain_pages_1 : NP1Ok Try.prog 35 := np1_ok (f := 35) (f2 := 12) (f3 := 36) (hd := by kernel_rfl) (h1 := h_chain_Pages) (h2 := h_pager_Pager_Get)
theorem h_chain_pages : NCPagesOk Try.prog 29 := ncpages_ok (f := 29) (f1 := 35) (hd := by kernel_rfl) (h := h_chain_pages_1)
theorem h_chain_read : NReadOk Try.prog 16 := nread_ok (f := 16) (f1 := 29) (f2 := 12) (hd := by kernel_rfl) (h1 := h_chain_pages) (h2 := h_chain_Pages)
theorem h_chain_Get : NCGetOk Try.prog 7 := ncget_ok (f := 7) (f1 := 16) (hd := by kernel_rfl) (h1 := h_chain_read)
theorem h_chain_List : NCListOk Try.prog 8 := nclist_ok (f := 8) (f1 := 16) (hd := by kernel_rfl) (h1 := h_chain_read)
theorem h_chain_Drop : NCDropOk Try.prog 9 := ncdrop_ok (f := 9) (f1 := 16) (f2 := 17) (hd := by kernel_rfl) (h1 := h_chain_read)
theorem own : ownKnob Try.prog.godebug = none := by kernel_rfl
theorem laidOut : laidOutB Try.prog = true := by kernel_rfl

set_option maxRecDepth 100000 in
theorem contract (H : Type) (enc : TypeId × Value → H) (W : World) (base : Nat) (args : Array Value) (ds gs : List (DataW H)) (before : List MemPlace)
    (hval : ∀ (j : Nat) t v, Try.f3.params[j]? = some t → args[j]? = some v → Value.okWide Try.prog W .any base t v)
    (hW : DataW.Whole enc Try.prog Try.f3.params.toList Rows.chainNobodySpec.vars false W args.toList ds gs before)
    (hwt : (DataW.weightsEach Try.prog (Try.f3.params.toList ++ Rows.chainNobodySpec.plain.varTypes Try.prog) (ds ++ gs)).all (· ≤ reachBytes) = true) :
    Calls Try.prog 3 args W fun e W' => ∃ v, e = .returned v ∧ Rows.chainNobodySpec.post enc Try.prog Try.f3 false true false false W args v W' := by
  have hW' := hW
  obtain ⟨p, q, hA0, hV, rfl, hfz, hnd⟩ := hW
  have hA : DataW.TrodAll enc Try.prog W 0 (fun _ => true) true Try.f3.params.toList args.toList ds p := hA0
  rw [Try.params3] at hA hval hwt
  obtain ⟨v0, vs0, d0, ds0, p0, q0, hargs, rfl, rfl, h0, r0⟩ := trodAll_cons hA
  obtain ⟨v1, vs1, d1, ds1, p1, q1, rfl, rfl, rfl, h1, r1⟩ := trodAll_cons r0
  obtain ⟨v2, vs2, d2, ds2, p2, q2, rfl, rfl, rfl, h2, r2⟩ := trodAll_cons r1
  obtain ⟨rfl, rfl, rfl⟩ := trodAll_nil r2
  obtain rfl : args = #[v0, v1, v2] := by cases args; simp_all
  obtain ⟨rfl, rfl⟩ := trodVars_none hV
  obtain ⟨bx, hbx⟩ := arg_slice (sz := 1) Try.underlying22 (by kernel_rfl) (by omega) (of_decide_eq_true (by kernel_rfl)) (rd_byte Try.underlying5) (hval 0 22 v0 rfl rfl) h0 (arg_weights (j := 0) hwt rfl rfl)
  obtain ⟨hx, rfl, -, -⟩ := arg_int Try.underlying3 (hval 1 3 v1 rfl rfl) h1 (arg_weights (j := 1) hwt rfl rfl)
  obtain ⟨sx, rfl, -, -⟩ := arg_int Try.underlying3 (hval 2 3 v2 rfl rfl) h2 (arg_weights (j := 2) hwt rfl rfl)
  exact calls_true laidOut (by kernel_rfl) hW' rfl rfl (by kernel_rfl) Try.underlying4 (chainNobody (f := 3) (f1 := 6) (f2 := 7) (f3 := 8) (f4 := 9) (hd := by kernel_rfl) (h1 := h_chain_Put) (h2 := h_chain_Get) (h3 := h_chain_List) (h4 := h_chain_Drop) (d := hw W) (hb := hbx))

set_option maxRecDepth 100000 in
theorem lifted (os : Os) (started : os.Started) (H : Type) (enc : TypeId × Value → H) :
    ReturnsInHanded {} Try.checked os 3 .any (Rows.chainNobodySpec.pre6 enc Try.prog Try.f3 Rows.chainNobodyRow.domain false) (Rows.chainNobodySpec.post enc Try.prog Try.f3 false true false false) := by
  refine returnsInHanded_of_change_sized (C := Try.checked) own started (by kernel_rfl) Try.func3
    (ChangeSpec.witness6 (enc := enc) (C := Try.checked) false ⟨#[], #[.slice none 0 0, .int .i64 0, .int .i64 0], []⟩ 8 (by kernel_rfl) (by kernel_rfl) (by kernel_rfl) (by kernel_rfl)) ?_
  intro W base args ds gs before hval hW _ hwt _
  exact contract H enc W base args ds gs before hval hW hwt

theorem proved : Rows.ChainNobodySaid :=
  OpenClaim.holds_of_wide 3 Try.f3 rfl rfl rfl rfl rfl rfl rfl ⟨rfl, rfl, rfl, rfl, rfl⟩ rfl rfl rfl rfl rfl (by kernel_rfl) Try.func3 (by kernel_rfl)
    (of_decide_eq_true (by kernel_rfl)) (by unfold Func.isWrapper; first | (rw [if_pos (by decide +kernel)]; kernel_rfl) | (rw [if_neg (by decide +kernel)]; exact ⟨rfl, rfl⟩))
    (fun os started H enc _ => lifted os started H enc)
end Go.Proofs.Ytpkcbopokjffhaa.chainNobody
