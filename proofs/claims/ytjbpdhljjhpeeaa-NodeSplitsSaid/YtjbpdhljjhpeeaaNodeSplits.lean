/-
  'thimblelaw20.NodeSplits' returns true for every node, and leaves it as it is: no condition.
-/
import Derived.Test.YtjbpdhljjhpeeaaRows
import Derived.Test.YtjbpdhljjhpeeaaGk11
import Derived.Test.YtjbpdhljjhpeeaaGkNodeG
import Derived.Test.YtjbpdhljjhpeeaaGkNodeArg
namespace Go.Proofs.Ytjbpdhljjhpeeaa.nodeSplits
open Go Go.Gk Go.Gk.Node Go.ChangeShapes Go.WideShapes Go.ChangeAt Go.RowKit

theorem walk {d : PHeap} {cs : List Value} {n : NodeD} (hn : RNode d cs n) : GCall Try.prog 5 [.agg cs.toArray] d [] (Ret fun v _ _ => v = .bool true) := by
  have hcmp : CompareOk Try.prog 34 := compare_ok (by kernel_rfl)
  have heq : EqualOk Try.prog 35 := equal_ok (by kernel_rfl)
  have hcell : CellOk Try.prog 30 := cell_ok (by kernel_rfl)
  have hsize : SizeOk Try.prog 14 := size_ok (fc := 30) (by kernel_rfl) hcell
  have hi1 : IndexFuncOk Try.prog 52 := indexFunc_byte_byte (by kernel_rfl)
  have hi2 : IndexFuncOk Try.prog 53 := indexFunc_int_int (by kernel_rfl)
  have hc1 : ContainsFuncOk Try.prog 45 := containsFunc_byte_byte (f1 := 52) (by kernel_rfl) hi1
  have hc2 : ContainsFuncOk Try.prog 47 := containsFunc_int_int (f1 := 53) (by kernel_rfl) hi2
  have hs : SoundOk Try.prog 32 := sound_ok (f1 := 34) (f2 := 45) (f3 := 46) (f4 := 47) (f5 := 48) (by kernel_rfl) hcmp hc1 (by kernel_rfl) hc2 (by kernel_rfl)
  have hr : RightOk Try.prog 16 := right_node_Right (f1 := 32) (f2 := 14) (by kernel_rfl) hs hsize
  have hp : PageOk Try.prog 28 := page_ok (by kernel_rfl)
  have hb : BytesOk Try.prog 12 := bytes_ok (f1 := 16) (f2 := 28) (by kernel_rfl) hr hp
  have hf : FindOk Try.prog 20 findD := find_ok (f1 := 34) (f2 := 35) (by kernel_rfl) hcmp heq
  have hw : WorksOk Try.prog 10 := works_ok (f1 := 12) (f2 := 20) (f3 := 14) (by kernel_rfl) hb hf hsize
  have hrc : CellOk Try.prog 31 := rcell_ok (by kernel_rfl)
  have hrz : SizeOk Try.prog 15 := rsize_ok (fc := 31) (by kernel_rfl) hrc
  have hrs : SoundOk Try.prog 19 := rsound_ok (by kernel_rfl)
  have hrr : RightOk Try.prog 17 := right_thimbleref20_Right (f1 := 19) (f2 := 15) (by kernel_rfl) hrs hrz
  have hnum : NumberOk Try.prog 44 := number_ok (by kernel_rfl)
  have hrp : RPageOk Try.prog 29 := rpage_ok (f1 := 44) (by kernel_rfl) hnum
  have hrb : RBytesOk Try.prog 13 := rbytes_ok (f1 := 17) (f2 := 29) (by kernel_rfl) hrr hrp
  have hli : ListsOk Try.prog 33 := lists_ok (by kernel_rfl)
  have hsm : SameOk Try.prog 18 := same_ok (f1 := 33) (by kernel_rfl) hli
  have hcl : CloneOk RByte 1 Try.prog 38 := clone_byte_byte (by kernel_rfl)
  have hci : CloneOk RInt 8 Try.prog 39 := clone_int_int (by kernel_rfl)
  have how : OwnOk Try.prog 37 := own_ok (f1 := 38) (by kernel_rfl) hcl
  have hwe : WeightOk Try.prog 36 := weight_ok (f1 := 30) (by kernel_rfl) hcell
  have hsp : SplitOk Try.prog 22 := split_ok (f1 := 32) (f2 := 36) (f3 := 37) (f4 := 38) (f5 := 39) (by kernel_rfl) hs hwe how hcl hci
  have hrsp : RSplitOk Try.prog 23 := rsplit_ok (f1 := 19) (f2 := 31) (by kernel_rfl) hrs hrc
  have hspo : SpoilOk Try.prog 24 := spoil_ok (by kernel_rfl)
  exact nodeSplits (f1 := 9) (f2 := 10) (f3 := 11) (f4 := 22) (f5 := 23) (f6 := 18) (f7 := 24)
    (by kernel_rfl) (bulk_ok (by kernel_rfl)) hw (copy_ok (by kernel_rfl)) hsp hrsp hsm hspo hn

theorem own : ownKnob Try.prog.godebug = none := by kernel_rfl
theorem laidOut : laidOutB Try.prog = true := by kernel_rfl

theorem contract (H : Type) (enc : TypeId × Value → H) (W : World) (base : Nat) (args : Array Value) (ds gs : List (DataW H)) (before : List MemPlace)
    (hval : ∀ (j : Nat) t v, Try.f5.params[j]? = some t → args[j]? = some v → Value.okWide Try.prog W .any base t v)
    (hW : DataW.Whole enc Try.prog Try.f5.params.toList Rows.nodeSplitsSpec.vars false W args.toList ds gs before)
    (hwt : (DataW.weightsEach Try.prog (Try.f5.params.toList ++ Rows.nodeSplitsSpec.plain.varTypes Try.prog) (ds ++ gs)).all (· ≤ reachBytes) = true) :
    Calls Try.prog 5 args W fun e W' => ∃ v, e = .returned v ∧ Rows.nodeSplitsSpec.post enc Try.prog Try.f5 false true false false W args v W' := by
  have hW' := hW
  obtain ⟨p, q, hA0, hV, rfl, hfz, hnd⟩ := hW
  have hA : DataW.TrodAll enc Try.prog W 0 (fun _ => true) true Try.f5.params.toList args.toList ds p := hA0
  rw [Try.params5] at hA hval hwt
  obtain ⟨v0, vs0, d0, ds0, p0, q0, hargs, rfl, rfl, h0, r0⟩ := trodAll_cons hA
  obtain ⟨rfl, rfl, rfl⟩ := trodAll_nil r0
  obtain rfl : args = #[v0] := by cases args; simp_all
  obtain ⟨rfl, rfl⟩ := trodVars_none hV
  obtain ⟨cs, n, rfl, hn⟩ := arg_struct Try.underlying25 (rd_node (tb := 4) (tl := 22) (tk := 30) (t8 := 5) (ti := 23) (tn := 3) Try.underlying25 (by kernel_rfl) rfl rfl rfl rfl (by kernel_rfl) (by kernel_rfl) (by kernel_rfl) (by kernel_rfl) (by kernel_rfl) (by kernel_rfl) Try.underlying4 Try.underlying22 Try.underlying30 Try.underlying5 Try.underlying23 Try.underlying3 (of_decide_eq_true (by kernel_rfl)) (of_decide_eq_true (by kernel_rfl)) (of_decide_eq_true (by kernel_rfl))) (hval 0 25 v0 rfl rfl) h0 (arg_weights (j := 0) hwt rfl rfl)
  exact calls_true laidOut (by kernel_rfl) hW' rfl rfl (by kernel_rfl) Try.underlying4 (walk (d := hw W) hn)

set_option maxRecDepth 100000 in
theorem lifted (os : Os) (started : os.Started) (H : Type) (enc : TypeId × Value → H) :
    ReturnsInHanded {} Try.checked os 5 .any (Rows.nodeSplitsSpec.pre6 enc Try.prog Try.f5 Rows.nodeSplitsRow.domain false) (Rows.nodeSplitsSpec.post enc Try.prog Try.f5 false true false false) := by
  refine returnsInHanded_of_change_sized (C := Try.checked) own started (by kernel_rfl) Try.func5
    (ChangeSpec.witness6 (enc := enc) (C := Try.checked) false ⟨#[], #[.agg #[.bool false, .slice none 0 0, .slice none 0 0, .slice none 0 0]], []⟩ 8 (by kernel_rfl) (by kernel_rfl) (by kernel_rfl) (by kernel_rfl)) ?_
  intro W base args ds gs before hval hW _ hwt _
  exact contract H enc W base args ds gs before hval hW hwt

theorem proved : Rows.NodeSplitsSaid :=
  OpenClaim.holds_of_wide 5 Try.f5 rfl rfl rfl rfl rfl rfl rfl ⟨rfl, rfl, rfl, rfl, rfl⟩ rfl rfl rfl rfl rfl (by kernel_rfl) Try.func5 (by kernel_rfl)
    (of_decide_eq_true (by kernel_rfl)) (by unfold Func.isWrapper; first | (rw [if_pos (by decide +kernel)]; kernel_rfl) | (rw [if_neg (by decide +kernel)]; exact ⟨rfl, rfl⟩))
    (fun os started H enc _ => lifted os started H enc)
end Go.Proofs.Ytjbpdhljjhpeeaa.nodeSplits
