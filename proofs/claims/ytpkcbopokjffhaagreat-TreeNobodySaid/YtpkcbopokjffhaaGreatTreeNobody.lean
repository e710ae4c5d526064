/-
  'thimblelaw22.TreeNobody' returns true for every two rows of bytes and every number, and leaves them as they are: no condition.
-/
import Derived.Test.YtpkcbopokjffhaaGreatRows
import Derived.Test.YtpkcbopokjffhaaGreatPkC
namespace Go.Proofs.YtpkcbopokjffhaaGreat.treeNobody
open Go Go.Gk Go.Gk.Dev Go.Gk.Cch Go.Gk.Pgr Go.Gk.Chn Go.Gk.Tre Go.Gk.Node Go.ChangeShapes Go.WideShapes Go.ChangeAt Go.RowKit
theorem h_tree_Tree_none : TNoneNOk Tryz.prog 37 := tnone_nob (f := 37) (hd := by kernel_rfl)
theorem h_tree_Tree_fits : FitsNOk Tryz.prog 39 := fits_nob (f := 39) (f1 := 37) (hd := by kernel_rfl) (h1 := h_tree_Tree_none)
theorem h_tree_Tree_Get : TGetNOk Tryz.prog 20 := tget_nob (f := 20) (f1 := 39) (f2 := 47) (f3 := 48) (f4 := 49) (hd := by kernel_rfl) (h1 := h_tree_Tree_fits)
theorem h_tree_Tree_Del : TDelNOk Tryz.prog 27 := tdel_nob (f := 27) (f1 := 39) (f2 := 55) (f3 := 40) (hd := by kernel_rfl) (h1 := h_tree_Tree_fits)
theorem h_tree_Tree_Pages : TPagesNOk Tryz.prog 29 := tpages_nob (f := 29) (f1 := 37) (f2 := 58) (f3 := 59) (hd := by kernel_rfl) (h1 := h_tree_Tree_none)
theorem h_tree_Tree_Put : TPutNOk Tryz.prog 18 := tput_nob (f := 18) (f1 := 39) (f2 := 41) (f3 := 40) (hd := by kernel_rfl) (h1 := h_tree_Tree_fits)
theorem h_tree_Tree_Root : TRootNOk Tryz.prog 16 := troot_nob (f := 16) (f1 := 37) (hd := by kernel_rfl) (h1 := h_tree_Tree_none)
theorem h_tree_Tree_Height : TZeroNOk Tryz.prog 15 := theight_nob (f := 15) (f1 := 37) (hd := by kernel_rfl) (h1 := h_tree_Tree_none)
theorem h_tree_Tree_Count : TZeroNOk Tryz.prog 14 := tcount_nob (f := 14) (f1 := 37) (hd := by kernel_rfl) (h1 := h_tree_Tree_none)
theorem h_pager_Pager_none : NNoneOk Tryz.prog 38 := nnone_ok (f := 38) (hd := by kernel_rfl)
theorem h_pager_Pager_Mark : PMarkNOk Tryz.prog 26 := pmark_nob (f := 26) (f1 := 38) (f2 := 53) (f3 := 54) (hd := by kernel_rfl) (h1 := h_pager_Pager_none)
theorem h_tree_New : TNewNOk Tryz.prog 30 := tnew_nob (f := 30) (f1 := 26) (hd := by kernel_rfl) (h1 := h_pager_Pager_Mark)
theorem h_tree_Open : TOpenNOk Tryz.prog 25 := topen_nob (f := 25) (f1 := 26) (hd := by kernel_rfl) (h1 := h_pager_Pager_Mark)
theorem own : ownKnob Tryz.prog.godebug = none := by kernel_rfl
theorem laidOut : laidOutB Tryz.prog = true := by kernel_rfl

set_option maxRecDepth 100000 in
theorem contract (H : Type) (enc : TypeId × Value → H) (W : World) (base : Nat) (args : Array Value) (ds gs : List (DataW H)) (before : List MemPlace)
    (hval : ∀ (j : Nat) t v, Tryz.f8.params[j]? = some t → args[j]? = some v → Value.okWide Tryz.prog W .any base t v)
    (hW : DataW.Whole enc Tryz.prog Tryz.f8.params.toList Rows.treeNobodySpec.vars false W args.toList ds gs before)
    (hwt : (DataW.weightsEach Tryz.prog (Tryz.f8.params.toList ++ Rows.treeNobodySpec.plain.varTypes Tryz.prog) (ds ++ gs)).all (· ≤ reachBytes) = true) :
    Calls Tryz.prog 8 args W fun e W' => ∃ v, e = .returned v ∧ Rows.treeNobodySpec.post enc Tryz.prog Tryz.f8 false true false false W args v W' := by
  have hW' := hW
  obtain ⟨p, q, hA0, hV, rfl, hfz, hnd⟩ := hW
  have hA : DataW.TrodAll enc Tryz.prog W 0 (fun _ => true) true Tryz.f8.params.toList args.toList ds p := hA0
  rw [Tryz.params8] at hA hval hwt
  obtain ⟨v0, vs0, d0, ds0, p0, q0, hargs, rfl, rfl, h0, r0⟩ := trodAll_cons hA
  obtain ⟨v1, vs1, d1, ds1, p1, q1, rfl, rfl, rfl, h1, r1⟩ := trodAll_cons r0
  obtain ⟨v2, vs2, d2, ds2, p2, q2, rfl, rfl, rfl, h2, r2⟩ := trodAll_cons r1
  obtain ⟨rfl, rfl, rfl⟩ := trodAll_nil r2
  obtain rfl : args = #[v0, v1, v2] := by cases args; simp_all
  obtain ⟨rfl, rfl⟩ := trodVars_none hV
  obtain ⟨kx, hkx⟩ := arg_slice (sz := 1) Tryz.underlying37 (by kernel_rfl) (by omega) (of_decide_eq_true (by kernel_rfl)) (rd_byte Tryz.underlying5) (hval 0 37 v0 rfl rfl) h0 (arg_weights (j := 0) hwt rfl rfl)
  obtain ⟨vx, hvx⟩ := arg_slice (sz := 1) Tryz.underlying37 (by kernel_rfl) (by omega) (of_decide_eq_true (by kernel_rfl)) (rd_byte Tryz.underlying5) (hval 1 37 v1 rfl rfl) h1 (arg_weights (j := 1) hwt rfl rfl)
  obtain ⟨n, rfl, -, -⟩ := arg_int Tryz.underlying3 (hval 2 3 v2 rfl rfl) h2 (arg_weights (j := 2) hwt rfl rfl)
  obtain ⟨ka, kc, rfl⟩ := RSl.val hkx
  obtain ⟨va, vc, rfl⟩ := RSl.val hvx
  exact calls_true laidOut (by kernel_rfl) hW' rfl rfl (by kernel_rfl) Tryz.underlying4 (treeNobody (f := 8) (f1 := 20) (f2 := 27) (f3 := 29) (f4 := 18) (f5 := 16) (f6 := 15) (f7 := 14) (f8 := 30) (f9 := 25) (hd := by kernel_rfl) (h1 := h_tree_Tree_Get) (h2 := h_tree_Tree_Del) (h3 := h_tree_Tree_Pages) (h4 := h_tree_Tree_Put) (h5 := h_tree_Tree_Root) (h6 := h_tree_Tree_Height) (h7 := h_tree_Tree_Count) (h8 := h_tree_New) (h9 := h_tree_Open) (d := hw W))

set_option maxRecDepth 100000 in
theorem lifted (os : Os) (started : os.Started) (H : Type) (enc : TypeId × Value → H) :
    ReturnsInHanded {} Tryz.checked os 8 .any (Rows.treeNobodySpec.pre6 enc Tryz.prog Tryz.f8 Rows.treeNobodyRow.domain false) (Rows.treeNobodySpec.post enc Tryz.prog Tryz.f8 false true false false) := by
  refine returnsInHanded_of_change_sized (C := Tryz.checked) own started (by kernel_rfl) Tryz.func8
    (ChangeSpec.witness6 (enc := enc) (C := Tryz.checked) false ⟨#[], #[.slice none 0 0, .slice none 0 0, .int .i64 0], []⟩ 8 (by kernel_rfl) (by kernel_rfl) (by kernel_rfl) (by kernel_rfl)) ?_
  intro W base args ds gs before hval hW _ hwt _
  exact contract H enc W base args ds gs before hval hW hwt

theorem proved : Rows.TreeNobodySaid :=
  OpenClaim.holds_of_wide 8 Tryz.f8 rfl rfl rfl rfl rfl rfl rfl ⟨rfl, rfl, rfl, rfl, rfl⟩ rfl rfl rfl rfl rfl (by kernel_rfl) Tryz.func8 (by kernel_rfl)
    (of_decide_eq_true (by kernel_rfl)) (by unfold Func.isWrapper; first | (rw [if_pos (by decide +kernel)]; kernel_rfl) | (rw [if_neg (by decide +kernel)]; exact ⟨rfl, rfl⟩))
    (fun os started H enc _ => lifted os started H enc)
end Go.Proofs.YtpkcbopokjffhaaGreat.treeNobody
