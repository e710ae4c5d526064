/-
  'thimblelaw20.NodeHalves' returns true for every node, and leaves it as it is: no condition.
-/
import Derived.Test.YtjbpdhljjhpeeaaRows
import Derived.Test.YtjbpdhljjhpeeaaGk11
import Derived.Test.YtjbpdhljjhpeeaaGkNodeP
import Derived.Test.YtjbpdhljjhpeeaaGkNodeArg
namespace Go.Proofs.Ytjbpdhljjhpeeaa.nodeHalves
open Go Go.Gk Go.Gk.Node Go.ChangeShapes Go.WideShapes Go.ChangeAt Go.RowKit

theorem walk {d : PHeap} {cs : List Value} {n : NodeD} (hn : RNode d cs n) : GCall Try.prog 6 [.agg cs.toArray] d [] (Ret fun v _ _ => v = .bool true) := by
  have h_bytes_Compare : CompareOk Try.prog 34 := compare_ok  (by kernel_rfl) 
  have h_slices_IndexFunc_byte_byte : IndexFuncOk Try.prog 52 := indexFunc_byte_byte  (by kernel_rfl) 
  have h_slices_ContainsFunc_byte_byte : ContainsFuncOk Try.prog 45 := containsFunc_byte_byte (f1 := 52) (by kernel_rfl) h_slices_IndexFunc_byte_byte
  have h_slices_IndexFunc_int_int : IndexFuncOk Try.prog 53 := indexFunc_int_int  (by kernel_rfl) 
  have h_slices_ContainsFunc_int_int : ContainsFuncOk Try.prog 47 := containsFunc_int_int (f1 := 53) (by kernel_rfl) h_slices_IndexFunc_int_int
  have h_node_sound : SoundOk Try.prog 32 := sound_ok (f1 := 34) (f2 := 45) (f3 := 46) (f4 := 47) (f5 := 48) (by kernel_rfl) h_bytes_Compare h_slices_ContainsFunc_byte_byte (by kernel_rfl) h_slices_ContainsFunc_int_int (by kernel_rfl)
  have h_node_Node_cell : CellOk Try.prog 30 := cell_ok  (by kernel_rfl) 
  have h_node_Size : SizeOk Try.prog 14 := size_ok (fc := 30)  (by kernel_rfl) h_node_Node_cell
  have h_node_Right : RightOk Try.prog 16 := right_node_Right (f1 := 32) (f2 := 14) (by kernel_rfl) h_node_sound h_node_Size
  have h_node_page : PageOk Try.prog 28 := page_ok  (by kernel_rfl) 
  have h_node_Bytes : BytesOk Try.prog 12 := bytes_ok (f1 := 16) (f2 := 28) (by kernel_rfl) h_node_Right h_node_page
  have h_bytes_Equal : EqualOk Try.prog 35 := equal_ok  (by kernel_rfl) 
  have h_node_Find : FindOk Try.prog 20 findD := find_ok (f1 := 34) (f2 := 35) (by kernel_rfl) h_bytes_Compare h_bytes_Equal
  have h_thimblelaw20_works : WorksOk Try.prog 10 := works_ok (f1 := 12) (f2 := 20) (f3 := 14) (by kernel_rfl) h_node_Bytes h_node_Find h_node_Size
  have h_thimbleref20_Bulk : BulkOk Try.prog 9 := bulk_ok  (by kernel_rfl) 
  have h_thimbleref20_Sound : SoundOk Try.prog 19 := rsound_ok  (by kernel_rfl) 
  have h_thimbleref20_cell : CellOk Try.prog 31 := rcell_ok  (by kernel_rfl) 
  have h_thimbleref20_Size : SizeOk Try.prog 15 := rsize_ok (fc := 31)  (by kernel_rfl) h_thimbleref20_cell
  have h_node_Split_1 : WeightOk Try.prog 36 := weight_ok (f1 := 30) (by kernel_rfl) h_node_Node_cell
  have h_slices_Clone_byte_byte : CloneOk RByte 1 Try.prog 38 := clone_byte_byte  (by kernel_rfl) 
  have h_node_own : OwnOk Try.prog 37 := own_ok (f1 := 38) (by kernel_rfl) h_slices_Clone_byte_byte
  have h_slices_Clone_int_int : CloneOk RInt 8 Try.prog 39 := clone_int_int  (by kernel_rfl) 
  have h_node_Split : SplitOk Try.prog 22 := split_ok (f1 := 32) (f2 := 36) (f3 := 37) (f4 := 38) (f5 := 39) (by kernel_rfl) h_node_sound h_node_Split_1 h_node_own h_slices_Clone_byte_byte h_slices_Clone_int_int
  have h_node_joined_byte : JoinedOk RBs Try.prog 40 := joined_byte  (by kernel_rfl) 
  have h_node_joined_int : JoinedOk RInt Try.prog 41 := joined_int  (by kernel_rfl) 
  have h_node_Join : JoinOk Try.prog 25 := join_ok (f1 := 40) (f2 := 37) (f3 := 41) (by kernel_rfl) h_node_joined_byte h_node_own h_node_joined_int
  have h_thimbleref20_Lists : ListsOk Try.prog 33 := lists_ok  (by kernel_rfl) 
  have h_thimbleref20_Same : SameOk Try.prog 18 := same_ok (f1 := 33) (by kernel_rfl) h_thimbleref20_Lists
  exact nodeHalves (f1 := 10) (f2 := 9) (f3 := 19) (f4 := 15) (f5 := 22) (f6 := 16) (f7 := 25) (f8 := 18) (by kernel_rfl) h_thimblelaw20_works h_thimbleref20_Bulk h_thimbleref20_Sound h_thimbleref20_Size h_node_Split h_node_Right h_node_Join h_thimbleref20_Same hn

theorem own : ownKnob Try.prog.godebug = none := by kernel_rfl
theorem laidOut : laidOutB Try.prog = true := by kernel_rfl

theorem contract (H : Type) (enc : TypeId × Value → H) (W : World) (base : Nat) (args : Array Value) (ds gs : List (DataW H)) (before : List MemPlace)
    (hval : ∀ (j : Nat) t v, Try.f6.params[j]? = some t → args[j]? = some v → Value.okWide Try.prog W .any base t v)
    (hW : DataW.Whole enc Try.prog Try.f6.params.toList Rows.nodeHalvesSpec.vars false W args.toList ds gs before)
    (hwt : (DataW.weightsEach Try.prog (Try.f6.params.toList ++ Rows.nodeHalvesSpec.plain.varTypes Try.prog) (ds ++ gs)).all (· ≤ reachBytes) = true) :
    Calls Try.prog 6 args W fun e W' => ∃ v, e = .returned v ∧ Rows.nodeHalvesSpec.post enc Try.prog Try.f6 false true false false W args v W' := by
  have hW' := hW
  obtain ⟨p, q, hA0, hV, rfl, hfz, hnd⟩ := hW
  have hA : DataW.TrodAll enc Try.prog W 0 (fun _ => true) true Try.f6.params.toList args.toList ds p := hA0
  rw [Try.params6] at hA hval hwt
  obtain ⟨v0, vs0, d0, ds0, p0, q0, hargs, rfl, rfl, h0, r0⟩ := trodAll_cons hA
  obtain ⟨rfl, rfl, rfl⟩ := trodAll_nil r0
  obtain rfl : args = #[v0] := by cases args; simp_all
  obtain ⟨rfl, rfl⟩ := trodVars_none hV
  obtain ⟨cs, n, rfl, hn⟩ := arg_struct Try.underlying25 (rd_node (tb := 4) (tl := 22) (tk := 30) (t8 := 5) (ti := 23) (tn := 3) Try.underlying25 (by kernel_rfl) rfl rfl rfl rfl (by kernel_rfl) (by kernel_rfl) (by kernel_rfl) (by kernel_rfl) (by kernel_rfl) (by kernel_rfl) Try.underlying4 Try.underlying22 Try.underlying30 Try.underlying5 Try.underlying23 Try.underlying3 (of_decide_eq_true (by kernel_rfl)) (of_decide_eq_true (by kernel_rfl)) (of_decide_eq_true (by kernel_rfl))) (hval 0 25 v0 rfl rfl) h0 (arg_weights (j := 0) hwt rfl rfl)
  exact calls_true laidOut (by kernel_rfl) hW' rfl rfl (by kernel_rfl) Try.underlying4 (walk (d := hw W) hn)

set_option maxRecDepth 100000 in
theorem lifted (os : Os) (started : os.Started) (H : Type) (enc : TypeId × Value → H) :
    ReturnsInHanded {} Try.checked os 6 .any (Rows.nodeHalvesSpec.pre6 enc Try.prog Try.f6 Rows.nodeHalvesRow.domain false) (Rows.nodeHalvesSpec.post enc Try.prog Try.f6 false true false false) := by
  refine returnsInHanded_of_change_sized (C := Try.checked) own started (by kernel_rfl) Try.func6
    (ChangeSpec.witness6 (enc := enc) (C := Try.checked) false ⟨#[], #[.agg #[.bool false, .slice none 0 0, .slice none 0 0, .slice none 0 0]], []⟩ 8 (by kernel_rfl) (by kernel_rfl) (by kernel_rfl) (by kernel_rfl)) ?_
  intro W base args ds gs before hval hW _ hwt _
  exact contract H enc W base args ds gs before hval hW hwt

theorem proved : Rows.NodeHalvesSaid :=
  OpenClaim.holds_of_wide 6 Try.f6 rfl rfl rfl rfl rfl rfl rfl ⟨rfl, rfl, rfl, rfl, rfl⟩ rfl rfl rfl rfl rfl (by kernel_rfl) Try.func6 (by kernel_rfl)
    (of_decide_eq_true (by kernel_rfl)) (by unfold Func.isWrapper; first | (rw [if_pos (by decide +kernel)]; kernel_rfl) | (rw [if_neg (by decide +kernel)]; exact ⟨rfl, rfl⟩))
    (fun os started H enc _ => lifted os started H enc)
end Go.Proofs.Ytjbpdhljjhpeeaa.nodeHalves
