/-
  Nodes: the program cuts one in two.
-/
import Derived.Test.YtjbpdhljjhpeeaaGkNodeD
namespace Go.Gk.Node
open Go Go.Gk
attribute [local irreducible] gwp gws

/-- A node of its own memory. -/
def ONode (d : PHeap) (cs : List Value) (n : NodeD) (L : List PHeap) : Prop :=
  ∃ kv vv iv Lk Lv hi, cs = [.bool n.leaf, kv, vv, iv] ∧ OBss d kv n.keys Lk ∧ OBss d vv n.vals Lv ∧ GRow 1 RInt d iv n.kids hi ∧ L = Lk ++ Lv ++ [hi]
theorem OBss.nil {d : PHeap} : OBss d (.slice none 0 0) [] [emp] := ⟨[], emp, [], ORow.nil 1, rfl, fun i hi => absurd hi (Nat.not_lt_zero i), rfl⟩
theorem ONode.zero {d : PHeap} : ONode d [.bool false, .slice none 0 0, .slice none 0 0, .slice none 0 0] ⟨false, [], [], []⟩ [emp, emp, emp] := ⟨_, _, _, [emp], [emp], emp, rfl, OBss.nil, OBss.nil, GRow.nil, rfl⟩
theorem ONode.rnode {d d1 : PHeap} {cs : List Value} {n : NodeD} {L : List PHeap} (o : ONode d cs n L) (hl : Le d d1) (hL : ∀ h ∈ L, Le h d1) : RNode d1 cs n := by
  obtain ⟨kv, vv, iv, Lk, Lv, hi, rfl, h1, h2, h3, rfl⟩ := o
  exact ⟨kv, vv, iv, rfl, h1.rbss hl (fun h hm => hL h (by simp [hm])), h2.rbss hl (fun h hm => hL h (by simp [hm])), h3.rsl mono_int (by omega) hl (hL _ (by simp))⟩

def WeightOk (P : Program) (f : FuncId) : Prop := ∀ {d : PHeap} {cs : List Value} {n : NodeD} {b : Nat} {T : TypeId}, RNode d cs n → sizeD n ≤ 1000000000000 → ∀ i, i < n.keys.length →
  GCall P f [.int .i64 i, .pointer (some ⟨b, 0, none⟩)] d [bx b T cs] (Ret fun r d' L' => r = .int .i64 (wD n i) ∧ d' = d ∧ L' = [bx b T cs])
def g_node_Split_1 (f_node_Node_cell : Nat) : GFun :=
 ⟨13, [(.tmp 3)],
 (.seq
 (.reg false (.op false ⟨(some 3), none, (.mv (.const (.int .i64 0)))⟩ .done))
 (.seq (.seq
 (.reg false (.op false ⟨(some 4), none, (.fld 0 (.tmp 1))⟩
  (.op false ⟨(some 5), none, (.ld none (.tmp 4))⟩ .done))) (.cond (.tmp 5)
 (.seq
 (.reg false (.op false ⟨(some 6), none, (.ld (some 4) (.tmp 1))⟩
  (.op false ⟨(some 7), none, (.mv (.tmp 0))⟩
  (.op false ⟨(some 8), none, (.call f_node_Node_cell [(.tmp 6), (.tmp 7)])⟩
  (.op false ⟨(some 3), none, (.mv (.tmp 8))⟩ .done))))) .ret) .skip))
 (.seq
 (.reg false (.op false ⟨(some 9), none, (.ld (some 4) (.tmp 1))⟩
  (.op false ⟨(some 10), none, (.mv (.tmp 0))⟩
  (.op false ⟨(some 11), none, (.call f_node_Node_cell [(.tmp 9), (.tmp 10)])⟩
  (.op false ⟨(some 12), none, (.bin .add (.tmp 11) (.const (.int .i64 2)))⟩
  (.op false ⟨(some 3), none, (.mv (.tmp 12))⟩ .done)))))) .ret)))⟩

theorem weight_ok {P : Program} {f f1 : FuncId} (hd : dec P f = some (g_node_Split_1 f1)) (h1 : CellOk P f1) : WeightOk P f := by
  intro d cs n b T hn hz i hi
  have hcl : cellD n i ≤ 1000000000000 := by
    have e1 : csum n (i + 1) ≤ csum n n.keys.length := csum_mono n hi
    simp only [csum] at e1
    unfold sizeD at hz
    omega
  have hn' := hn
  obtain ⟨kv, vv, iv, rfl, hk, hv, hiv⟩ := hn
  refine GCall_of hd (Nat.le_of_ble_eq_true rfl) ?_
  show gwp P _ _ _ _ _
  cases hlf : n.leaf
  · rw [hlf] at hn'
    (apply w_sq; apply w_reg; apply w_mvi; rfl; apply w_done0; apply w_sq; apply w_sq; apply w_reg; apply w_fld; rfl; apply w_ld; rfl; exact hc_i 0 rfl rfl; apply w_done0; apply w_ifF; rfl; apply w_skip; apply w_sq; apply w_reg; apply w_ldb 0; rfl; rfl; rfl; apply w_mvi; rfl)
    refine w_pure rfl (h1 hn' i hi) ?_
    (apply w_add; rfl; rfl; omega; omega; apply w_mvi; rfl; apply w_done0; apply w_ret)
    exact fin1 rfl (List.Sublist.refl _) ⟨int_eq (by simp [wD, hlf]), rfl, rfl⟩
  · rw [hlf] at hn'
    (apply w_sq; apply w_reg; apply w_mvi; rfl; apply w_done0; apply w_sq; apply w_sq; apply w_reg; apply w_fld; rfl; apply w_ld; rfl; exact hc_i 0 rfl rfl; apply w_done0; apply w_ifT; rfl; apply w_sq; apply w_reg; apply w_ldb 0; rfl; rfl; rfl; apply w_mvi; rfl)
    refine w_pure rfl (h1 hn' i hi) ?_
    (apply w_mvi; rfl; apply w_done0; apply w_ret)
    exact fin1 rfl (List.Sublist.refl _) ⟨int_eq (by simp [wD, hlf]), rfl, rfl⟩

def SplitOk (P : Program) (f : FuncId) : Prop := ∀ {d : PHeap} {cs : List Value} {n : NodeD}, RNode d cs n → Small n →
  GCall P f [.agg cs.toArray] d [] (Ret fun r d' L' => d' = d ∧ ∃ ca cb kv La Lb g, r = .tuple #[.agg ca.toArray, .agg cb.toArray, kv, .int .i64 (if canB n then 0 else 200)] ∧ L' = La ++ Lb ++ [g] ∧ ONode d ca (splitL n) La ∧ ONode d cb (splitR n) Lb ∧ GRow 1 RByte d kv (splitK n) g)
def g_node_Split (f_node_sound f_node_Split_1 f_node_own f_slices_Clone_byte_byte f_slices_Clone_int_int : Nat) : GFun :=
 ⟨127, [(.cell 2 (some 4)), (.cell 3 (some 4)), (.tmp 4), (.tmp 5)],
 (.seq
 (.reg false (.op false ⟨(some 1), none, (.box (.tmp 0))⟩
  (.op false ⟨(some 2), none, (.alo (.agg #[(.bool false), (.slice none 0 0), (.slice none 0 0), (.slice none 0 0)]))⟩
  (.op false ⟨(some 3), none, (.alo (.agg #[(.bool false), (.slice none 0 0), (.slice none 0 0), (.slice none 0 0)]))⟩
  (.op false ⟨(some 4), none, (.mv (.const (.slice none 0 0)))⟩
  (.op false ⟨(some 5), none, (.mv (.const (.int .i64 0)))⟩ .done))))))
 (.seq
 (.reg false (.op false ⟨(some 13), none, (.fld 1 (.tmp 1))⟩
  (.op false ⟨(some 14), none, (.ld none (.tmp 13))⟩
  (.op false ⟨(some 15), none, (.len (.tmp 14))⟩
  (.op false ⟨(some 6), none, (.mv (.tmp 15))⟩ .done)))))
 (.seq
 (.reg false (.op false ⟨(some 7), none, (.mv (.const (.int .i64 3)))⟩ .done))
 (.seq (.seq
 (.reg false (.op false ⟨(some 16), none, (.fld 0 (.tmp 1))⟩
  (.op false ⟨(some 17), none, (.ld none (.tmp 16))⟩ .done))) (.cond (.tmp 17)
 (.reg false (.op false ⟨(some 7), none, (.mv (.const (.int .i64 2)))⟩ .done)) .skip))
 (.seq (.seq
 (.reg false (.op false ⟨(some 18), none, (.ld (some 4) (.tmp 1))⟩
  (.op false ⟨(some 19), none, (.call f_node_sound [(.tmp 18)])⟩
  (.op false ⟨(some 20), none, (.un .not (.tmp 19))⟩
  (.op false ⟨(some 21), none, (.mv (.tmp 20))⟩
  (.op false ⟨(some 22), (some (21, false)), (.mv (.tmp 6))⟩
  (.op false ⟨(some 23), (some (21, false)), (.mv (.tmp 7))⟩
  (.op false ⟨(some 24), (some (21, false)), (.bin .lss (.tmp 22) (.tmp 23))⟩
  (.op false ⟨(some 25), none, (.pick (.tmp 21) (.const (.bool true)) (.tmp 24))⟩ .done))))))))) (.cond (.tmp 25)
 (.seq
 (.reg false (.op false ⟨(some 26), none, (.bld [(0, 1), (1, 1), (2, 1), (3, 1)] [(.bool false), (.slice none 0 0), (.slice none 0 0), (.slice none 0 0)] [])⟩
  (.op false ⟨(some 27), none, (.bld [(0, 1), (1, 1), (2, 1), (3, 1)] [(.bool false), (.slice none 0 0), (.slice none 0 0), (.slice none 0 0)] [])⟩
  (.op false ⟨none, none, (.st 4 (.tmp 2) (.tmp 26))⟩
  (.op false ⟨none, none, (.st 4 (.tmp 3) (.tmp 27))⟩
  (.op false ⟨(some 4), none, (.mv (.const (.slice none 0 0)))⟩
  (.op false ⟨(some 5), none, (.mv (.const (.int .i64 200)))⟩ .done))))))) .ret) .skip))
 (.seq
 (.reg false (.op false ⟨(some 28), none, (.mkf (.func f_node_Split_1) [] [(.tmp 1)])⟩
  (.op false ⟨(some 8), none, (.mv (.tmp 28))⟩ .done)))
 (.seq
 (.reg false (.op false ⟨(some 9), none, (.mv (.const (.int .i64 0)))⟩ .done))
 (.seq (.seq
 (.reg false (.op false ⟨(some 29), none, (.mv (.tmp 6))⟩
  (.op false ⟨(some 30), none, (.mv (.const (.int .i64 0)))⟩ .done))) (.block 0 (.loop
 (.seq
 (.reg false (.op false ⟨(some 31), none, (.bin .lss (.tmp 30) (.tmp 29))⟩ .done))
 (.seq (.cond (.tmp 31) .skip (.exit 0))
 (.seq (.block 1
 (.seq
 (.reg false (.op false ⟨(some 32), none, (.mv (.tmp 30))⟩
  (.op false ⟨(some 10), none, (.mv (.tmp 32))⟩ .done)))
 (.reg false (.op false ⟨(some 33), none, (.mv (.tmp 9))⟩
  (.op false ⟨(some 34), none, (.mv (.tmp 8))⟩
  (.op false ⟨(some 35), none, (.mv (.tmp 10))⟩
  (.op false ⟨(some 36), none, (.callv (.tmp 34) [(.tmp 35)])⟩
  (.op false ⟨(some 37), none, (.bin .add (.tmp 33) (.tmp 36))⟩
  (.op false ⟨(some 9), none, (.mv (.tmp 37))⟩ .done)))))))))
 (.reg false (.op false ⟨(some 38), none, (.bin .add (.tmp 30) (.const (.int .i64 1)))⟩
  (.op false ⟨(some 30), none, (.mv (.tmp 38))⟩ .done)))))))))
 (.seq
 (.reg false (.op false ⟨(some 11), none, (.mv (.const (.int .i64 0)))⟩
  (.op false ⟨(some 12), none, (.mv (.const (.int .i64 0)))⟩ .done)))
 (.seq (.block 2 (.loop
 (.seq (.seq
 (.reg false (.op false ⟨(some 39), none, (.mv (.tmp 11))⟩
  (.op false ⟨(some 40), none, (.mv (.tmp 6))⟩
  (.op false ⟨(some 41), none, (.bin .sub (.tmp 40) (.const (.int .i64 1)))⟩
  (.op false ⟨(some 42), none, (.bin .lss (.tmp 39) (.tmp 41))⟩
  (.op false ⟨(some 43), none, (.mv (.tmp 42))⟩
  (.op false ⟨(some 44), (some (43, true)), (.mv (.tmp 12))⟩
  (.op false ⟨(some 45), (some (43, true)), (.bin .mul (.const (.int .i64 2)) (.tmp 44))⟩
  (.op false ⟨(some 46), (some (43, true)), (.mv (.tmp 9))⟩
  (.op false ⟨(some 47), (some (43, true)), (.bin .lss (.tmp 45) (.tmp 46))⟩
  (.op false ⟨(some 48), none, (.pick (.tmp 43) (.tmp 47) (.const (.bool false)))⟩ .done))))))))))) (.cond (.tmp 48) .skip (.exit 2))) (.block 3
 (.seq
 (.reg false (.op false ⟨(some 49), none, (.mv (.tmp 12))⟩
  (.op false ⟨(some 50), none, (.mv (.tmp 8))⟩
  (.op false ⟨(some 51), none, (.mv (.tmp 11))⟩
  (.op false ⟨(some 52), none, (.callv (.tmp 50) [(.tmp 51)])⟩
  (.op false ⟨(some 53), none, (.bin .add (.tmp 49) (.tmp 52))⟩
  (.op false ⟨(some 12), none, (.mv (.tmp 53))⟩ .done)))))))
 (.reg false (.op false ⟨(some 54), none, (.mv (.tmp 11))⟩
  (.op false ⟨(some 55), none, (.bin .add (.tmp 54) (.const (.int .i64 1)))⟩
  (.op false ⟨(some 11), none, (.mv (.tmp 55))⟩ .done)))))))))
 (.seq (.seq
 (.reg false (.op false ⟨(some 56), none, (.fld 0 (.tmp 1))⟩
  (.op false ⟨(some 57), none, (.ld none (.tmp 56))⟩ .done))) (.cond (.tmp 57)
 (.seq
 (.reg true (.op true ⟨(some 58), none, (.fld 1 (.tmp 1))⟩
  (.op true ⟨(some 59), none, (.ld none (.tmp 58))⟩
  (.op true ⟨(some 60), none, (.mv (.tmp 11))⟩
  (.op true ⟨(some 61), none, (.mv (.tmp 11))⟩
  (.op true ⟨(some 62), none, (.sl 1 (.tmp 59) none (some (.tmp 60)) (some (.tmp 61)))⟩
  (.op true ⟨(some 64), none, (.fld 2 (.tmp 1))⟩
  (.op true ⟨(some 65), none, (.ld none (.tmp 64))⟩
  (.op true ⟨(some 66), none, (.mv (.tmp 11))⟩
  (.op true ⟨(some 67), none, (.mv (.tmp 11))⟩
  (.op true ⟨(some 68), none, (.sl 1 (.tmp 65) none (some (.tmp 66)) (some (.tmp 67)))⟩
  (.op false ⟨(some 63), none, (.call f_node_own [(.tmp 62)])⟩
  (.op false ⟨(some 69), none, (.call f_node_own [(.tmp 68)])⟩
  (.op true ⟨(some 70), none, (.bld [(0, 1), (1, 1), (2, 1), (3, 1)] [(.bool false), (.slice none 0 0), (.slice none 0 0), (.slice none 0 0)] [(0, (.const (.bool true))), (1, (.tmp 63)), (2, (.tmp 69))])⟩
  (.bar (.op false ⟨none, none, (.st 4 (.tmp 2) (.tmp 70))⟩ .done))))))))))))))))
 (.seq
 (.reg true (.op true ⟨(some 71), none, (.fld 1 (.tmp 1))⟩
  (.op true ⟨(some 72), none, (.ld none (.tmp 71))⟩
  (.op true ⟨(some 73), none, (.mv (.tmp 11))⟩
  (.op true ⟨(some 74), none, (.sl 1 (.tmp 72) (some (.tmp 73)) none none)⟩
  (.op true ⟨(some 76), none, (.fld 2 (.tmp 1))⟩
  (.op true ⟨(some 77), none, (.ld none (.tmp 76))⟩
  (.op true ⟨(some 78), none, (.mv (.tmp 11))⟩
  (.op true ⟨(some 79), none, (.sl 1 (.tmp 77) (some (.tmp 78)) none none)⟩
  (.op false ⟨(some 75), none, (.call f_node_own [(.tmp 74)])⟩
  (.op false ⟨(some 80), none, (.call f_node_own [(.tmp 79)])⟩
  (.op true ⟨(some 81), none, (.bld [(0, 1), (1, 1), (2, 1), (3, 1)] [(.bool false), (.slice none 0 0), (.slice none 0 0), (.slice none 0 0)] [(0, (.const (.bool true))), (1, (.tmp 75)), (2, (.tmp 80))])⟩
  (.bar (.op false ⟨none, none, (.st 4 (.tmp 3) (.tmp 81))⟩ .done))))))))))))))
 (.seq
 (.reg true (.op true ⟨(some 84), none, (.fld 1 (.tmp 1))⟩
  (.op true ⟨(some 85), none, (.ld none (.tmp 84))⟩
  (.op true ⟨(some 86), none, (.mv (.tmp 11))⟩
  (.op true ⟨(some 87), none, (.idx 1 (.tmp 85) (.tmp 86))⟩
  (.op true ⟨(some 88), none, (.ld none (.tmp 87))⟩
  (.alt ⟨(some 82), none, (.ld (some 4) (.tmp 2))⟩
  (.alt ⟨(some 83), none, (.ld (some 4) (.tmp 3))⟩
  (.op false ⟨(some 89), none, (.call f_slices_Clone_byte_byte [(.tmp 88)])⟩
  (.op false ⟨none, none, (.st 4 (.tmp 2) (.tmp 82))⟩
  (.op false ⟨none, none, (.st 4 (.tmp 3) (.tmp 83))⟩
  (.op true ⟨(some 4), none, (.mv (.tmp 89))⟩
  (.op true ⟨(some 5), none, (.mv (.const (.int .i64 0)))⟩ .done))))) (.op false ⟨(some 89), none, (.call f_slices_Clone_byte_byte [(.tmp 88)])⟩
  (.alt ⟨(some 83), none, (.ld (some 4) (.tmp 3))⟩
  (.op false ⟨none, none, (.st 4 (.tmp 2) (.tmp 82))⟩
  (.op false ⟨none, none, (.st 4 (.tmp 3) (.tmp 83))⟩
  (.op true ⟨(some 4), none, (.mv (.tmp 89))⟩
  (.op true ⟨(some 5), none, (.mv (.const (.int .i64 0)))⟩ .done)))) (.op false ⟨none, none, (.st 4 (.tmp 2) (.tmp 82))⟩
  (.op false ⟨(some 83), none, (.ld (some 4) (.tmp 3))⟩
  (.op false ⟨none, none, (.st 4 (.tmp 3) (.tmp 83))⟩
  (.op true ⟨(some 4), none, (.mv (.tmp 89))⟩
  (.op true ⟨(some 5), none, (.mv (.const (.int .i64 0)))⟩ .done)))))))) (.alt ⟨(some 83), none, (.ld (some 4) (.tmp 3))⟩
  (.alt ⟨(some 82), none, (.ld (some 4) (.tmp 2))⟩
  (.op false ⟨(some 89), none, (.call f_slices_Clone_byte_byte [(.tmp 88)])⟩
  (.op false ⟨none, none, (.st 4 (.tmp 2) (.tmp 82))⟩
  (.op false ⟨none, none, (.st 4 (.tmp 3) (.tmp 83))⟩
  (.op true ⟨(some 4), none, (.mv (.tmp 89))⟩
  (.op true ⟨(some 5), none, (.mv (.const (.int .i64 0)))⟩ .done))))) (.op false ⟨(some 89), none, (.call f_slices_Clone_byte_byte [(.tmp 88)])⟩
  (.op false ⟨(some 82), none, (.ld (some 4) (.tmp 2))⟩
  (.op false ⟨none, none, (.st 4 (.tmp 2) (.tmp 82))⟩
  (.op false ⟨none, none, (.st 4 (.tmp 3) (.tmp 83))⟩
  (.op true ⟨(some 4), none, (.mv (.tmp 89))⟩
  (.op true ⟨(some 5), none, (.mv (.const (.int .i64 0)))⟩ .done))))))) (.op false ⟨(some 89), none, (.call f_slices_Clone_byte_byte [(.tmp 88)])⟩
  (.alt ⟨(some 82), none, (.ld (some 4) (.tmp 2))⟩
  (.alt ⟨(some 83), none, (.ld (some 4) (.tmp 3))⟩
  (.op false ⟨none, none, (.st 4 (.tmp 2) (.tmp 82))⟩
  (.op false ⟨none, none, (.st 4 (.tmp 3) (.tmp 83))⟩
  (.op true ⟨(some 4), none, (.mv (.tmp 89))⟩
  (.op true ⟨(some 5), none, (.mv (.const (.int .i64 0)))⟩ .done)))) (.op false ⟨none, none, (.st 4 (.tmp 2) (.tmp 82))⟩
  (.op false ⟨(some 83), none, (.ld (some 4) (.tmp 3))⟩
  (.op false ⟨none, none, (.st 4 (.tmp 3) (.tmp 83))⟩
  (.op true ⟨(some 4), none, (.mv (.tmp 89))⟩
  (.op true ⟨(some 5), none, (.mv (.const (.int .i64 0)))⟩ .done)))))) (.op false ⟨(some 83), none, (.ld (some 4) (.tmp 3))⟩
  (.op false ⟨(some 82), none, (.ld (some 4) (.tmp 2))⟩
  (.op false ⟨none, none, (.st 4 (.tmp 2) (.tmp 82))⟩
  (.op false ⟨none, none, (.st 4 (.tmp 3) (.tmp 83))⟩
  (.op true ⟨(some 4), none, (.mv (.tmp 89))⟩
  (.op true ⟨(some 5), none, (.mv (.const (.int .i64 0)))⟩ .done)))))))))))))))) .ret))) .skip))
 (.seq
 (.reg false (.op false ⟨(some 90), none, (.mv (.tmp 11))⟩
  (.op false ⟨(some 91), none, (.mx2 (.const (.int .i64 2)) (.tmp 90))⟩
  (.op false ⟨(some 11), none, (.mv (.tmp 91))⟩ .done))))
 (.seq
 (.reg true (.op true ⟨(some 92), none, (.fld 1 (.tmp 1))⟩
  (.op true ⟨(some 93), none, (.ld none (.tmp 92))⟩
  (.op true ⟨(some 94), none, (.mv (.tmp 11))⟩
  (.op true ⟨(some 95), none, (.bin .sub (.tmp 94) (.const (.int .i64 1)))⟩
  (.op true ⟨(some 96), none, (.mv (.tmp 11))⟩
  (.op true ⟨(some 97), none, (.bin .sub (.tmp 96) (.const (.int .i64 1)))⟩
  (.op true ⟨(some 98), none, (.sl 1 (.tmp 93) none (some (.tmp 95)) (some (.tmp 97)))⟩
  (.op true ⟨(some 100), none, (.fld 3 (.tmp 1))⟩
  (.op true ⟨(some 101), none, (.ld none (.tmp 100))⟩
  (.op true ⟨(some 102), none, (.mv (.tmp 11))⟩
  (.op true ⟨(some 103), none, (.mv (.tmp 11))⟩
  (.op true ⟨(some 104), none, (.sl 1 (.tmp 101) none (some (.tmp 102)) (some (.tmp 103)))⟩
  (.op false ⟨(some 99), none, (.call f_node_own [(.tmp 98)])⟩
  (.op false ⟨(some 105), none, (.call f_slices_Clone_int_int [(.tmp 104)])⟩
  (.op true ⟨(some 106), none, (.bld [(0, 1), (1, 1), (2, 1), (3, 1)] [(.bool false), (.slice none 0 0), (.slice none 0 0), (.slice none 0 0)] [(1, (.tmp 99)), (3, (.tmp 105))])⟩
  (.bar (.op false ⟨none, none, (.st 4 (.tmp 2) (.tmp 106))⟩ .done))))))))))))))))))
 (.seq
 (.reg true (.op true ⟨(some 107), none, (.fld 1 (.tmp 1))⟩
  (.op true ⟨(some 108), none, (.ld none (.tmp 107))⟩
  (.op true ⟨(some 109), none, (.mv (.tmp 11))⟩
  (.op true ⟨(some 110), none, (.sl 1 (.tmp 108) (some (.tmp 109)) none none)⟩
  (.op true ⟨(some 112), none, (.fld 3 (.tmp 1))⟩
  (.op true ⟨(some 113), none, (.ld none (.tmp 112))⟩
  (.op true ⟨(some 114), none, (.mv (.tmp 11))⟩
  (.op true ⟨(some 115), none, (.sl 1 (.tmp 113) (some (.tmp 114)) none none)⟩
  (.op false ⟨(some 111), none, (.call f_node_own [(.tmp 110)])⟩
  (.op false ⟨(some 116), none, (.call f_slices_Clone_int_int [(.tmp 115)])⟩
  (.op true ⟨(some 117), none, (.bld [(0, 1), (1, 1), (2, 1), (3, 1)] [(.bool false), (.slice none 0 0), (.slice none 0 0), (.slice none 0 0)] [(1, (.tmp 111)), (3, (.tmp 116))])⟩
  (.bar (.op false ⟨none, none, (.st 4 (.tmp 3) (.tmp 117))⟩ .done))))))))))))))
 (.seq
 (.reg true (.op true ⟨(some 120), none, (.fld 1 (.tmp 1))⟩
  (.op true ⟨(some 121), none, (.ld none (.tmp 120))⟩
  (.op true ⟨(some 122), none, (.mv (.tmp 11))⟩
  (.op true ⟨(some 123), none, (.bin .sub (.tmp 122) (.const (.int .i64 1)))⟩
  (.op true ⟨(some 124), none, (.idx 1 (.tmp 121) (.tmp 123))⟩
  (.op true ⟨(some 125), none, (.ld none (.tmp 124))⟩
  (.alt ⟨(some 118), none, (.ld (some 4) (.tmp 2))⟩
  (.alt ⟨(some 119), none, (.ld (some 4) (.tmp 3))⟩
  (.op false ⟨(some 126), none, (.call f_slices_Clone_byte_byte [(.tmp 125)])⟩
  (.op false ⟨none, none, (.st 4 (.tmp 2) (.tmp 118))⟩
  (.op false ⟨none, none, (.st 4 (.tmp 3) (.tmp 119))⟩
  (.op true ⟨(some 4), none, (.mv (.tmp 126))⟩
  (.op true ⟨(some 5), none, (.mv (.const (.int .i64 0)))⟩ .done))))) (.op false ⟨(some 126), none, (.call f_slices_Clone_byte_byte [(.tmp 125)])⟩
  (.alt ⟨(some 119), none, (.ld (some 4) (.tmp 3))⟩
  (.op false ⟨none, none, (.st 4 (.tmp 2) (.tmp 118))⟩
  (.op false ⟨none, none, (.st 4 (.tmp 3) (.tmp 119))⟩
  (.op true ⟨(some 4), none, (.mv (.tmp 126))⟩
  (.op true ⟨(some 5), none, (.mv (.const (.int .i64 0)))⟩ .done)))) (.op false ⟨none, none, (.st 4 (.tmp 2) (.tmp 118))⟩
  (.op false ⟨(some 119), none, (.ld (some 4) (.tmp 3))⟩
  (.op false ⟨none, none, (.st 4 (.tmp 3) (.tmp 119))⟩
  (.op true ⟨(some 4), none, (.mv (.tmp 126))⟩
  (.op true ⟨(some 5), none, (.mv (.const (.int .i64 0)))⟩ .done)))))))) (.alt ⟨(some 119), none, (.ld (some 4) (.tmp 3))⟩
  (.alt ⟨(some 118), none, (.ld (some 4) (.tmp 2))⟩
  (.op false ⟨(some 126), none, (.call f_slices_Clone_byte_byte [(.tmp 125)])⟩
  (.op false ⟨none, none, (.st 4 (.tmp 2) (.tmp 118))⟩
  (.op false ⟨none, none, (.st 4 (.tmp 3) (.tmp 119))⟩
  (.op true ⟨(some 4), none, (.mv (.tmp 126))⟩
  (.op true ⟨(some 5), none, (.mv (.const (.int .i64 0)))⟩ .done))))) (.op false ⟨(some 126), none, (.call f_slices_Clone_byte_byte [(.tmp 125)])⟩
  (.op false ⟨(some 118), none, (.ld (some 4) (.tmp 2))⟩
  (.op false ⟨none, none, (.st 4 (.tmp 2) (.tmp 118))⟩
  (.op false ⟨none, none, (.st 4 (.tmp 3) (.tmp 119))⟩
  (.op true ⟨(some 4), none, (.mv (.tmp 126))⟩
  (.op true ⟨(some 5), none, (.mv (.const (.int .i64 0)))⟩ .done))))))) (.op false ⟨(some 126), none, (.call f_slices_Clone_byte_byte [(.tmp 125)])⟩
  (.alt ⟨(some 118), none, (.ld (some 4) (.tmp 2))⟩
  (.alt ⟨(some 119), none, (.ld (some 4) (.tmp 3))⟩
  (.op false ⟨none, none, (.st 4 (.tmp 2) (.tmp 118))⟩
  (.op false ⟨none, none, (.st 4 (.tmp 3) (.tmp 119))⟩
  (.op true ⟨(some 4), none, (.mv (.tmp 126))⟩
  (.op true ⟨(some 5), none, (.mv (.const (.int .i64 0)))⟩ .done)))) (.op false ⟨none, none, (.st 4 (.tmp 2) (.tmp 118))⟩
  (.op false ⟨(some 119), none, (.ld (some 4) (.tmp 3))⟩
  (.op false ⟨none, none, (.st 4 (.tmp 3) (.tmp 119))⟩
  (.op true ⟨(some 4), none, (.mv (.tmp 126))⟩
  (.op true ⟨(some 5), none, (.mv (.const (.int .i64 0)))⟩ .done)))))) (.op false ⟨(some 119), none, (.ld (some 4) (.tmp 3))⟩
  (.op false ⟨(some 118), none, (.ld (some 4) (.tmp 2))⟩
  (.op false ⟨none, none, (.st 4 (.tmp 2) (.tmp 118))⟩
  (.op false ⟨none, none, (.st 4 (.tmp 3) (.tmp 119))⟩
  (.op true ⟨(some 4), none, (.mv (.tmp 126))⟩
  (.op true ⟨(some 5), none, (.mv (.const (.int .i64 0)))⟩ .done))))))))))))))))) .ret)))))))))))))))⟩

set_option maxHeartbeats 4000000 in
theorem split_ok {P : Program} {f f1 f2 f3 f4 f5 : FuncId} (hd : dec P f = some (g_node_Split f1 f2 f3 f4 f5)) (h1 : SoundOk P f1) (h2 : WeightOk P f2) (h3 : OwnOk P f3) (h4 : CloneOk RByte 1 P f4) (h5 : CloneOk RInt 8 P f5) : SplitOk P f := by
  intro d cs n hn hsm
  have hn' := hn
  obtain ⟨lf, ks, vs, is⟩ := n
  obtain ⟨kv, vv, iv, rfl, hk, hv, hiv⟩ : ∃ kv vv iv, cs = [.bool lf, kv, vv, iv] ∧ RBss d kv ks ∧ RBss d vv vs ∧ RInts d iv is := hn
  obtain ⟨hz, hb1, hb2, hb3⟩ := hsm
  simp only at hb1 hb2 hb3
  refine GCall_of hd (Nat.le_of_ble_eq_true rfl) ?_
  show gwp P _ _ _ _ _
  apply w_sq; apply w_reg
  (apply w_boxa; rfl; intro _ _; apply w_alo; intro _ _; apply w_alo; intro _ _; apply w_mvs; rfl; apply w_mvi; rfl; apply w_done0)
  rename_i b T b2 T2 b3 T3
  apply w_sq; apply w_reg
  refine w_pick [2, 0, 1] rfl ?_
  (apply w_fld; rfl; apply w_ld; rfl; exact hc_i 0 rfl rfl; apply w_lenR; rfl; assumption; apply w_mvi; rfl; apply w_done0)
  apply w_sq; apply w_reg
  (apply w_mvi; rfl; apply w_done0)
  have bad : canB ⟨lf, ks, vs, is⟩ = false → ∀ (ρ : Env) (Q : GPost), Q.ret = retPost [.cell 2 (some 4), .cell 3 (some 4), .tmp 4, .tmp 5] (Ret fun r d' L' => d' = d ∧ ∃ ca cb kv La Lb g, r = .tuple #[.agg ca.toArray, .agg cb.toArray, kv, .int .i64 (if canB ⟨lf, ks, vs, is⟩ then 0 else 200)] ∧ L' = La ++ Lb ++ [g] ∧ ONode d ca (splitL ⟨lf, ks, vs, is⟩) La ∧ ONode d cb (splitR ⟨lf, ks, vs, is⟩) Lb ∧ GRow 1 RByte d kv (splitK ⟨lf, ks, vs, is⟩) g) →
      ρ 2 = .pointer (some ⟨b2, 0, none⟩) → ρ 3 = .pointer (some ⟨b3, 0, none⟩) → ρ 4 = .slice none 0 0 → ρ 5 = .int .i64 200 → Q.ret ρ d [bx b T [.bool lf, kv, vv, iv], bx b3 T3 [.bool false, .slice none 0 0, .slice none 0 0, .slice none 0 0], bx b2 T2 [.bool false, .slice none 0 0, .slice none 0 0, .slice none 0 0]] := by
    intro hc ρ Q hQ e2 e3 e4 e5
    rw [hQ]
    refine finV [.agg [.bool false, .slice none 0 0, .slice none 0 0, .slice none 0 0].toArray, .agg [.bool false, .slice none 0 0, .slice none 0 0, .slice none 0 0].toArray, .slice none 0 0, .int .i64 200] (d' := d) (L' := [emp, emp, emp] ++ [emp, emp, emp] ++ [emp]) ⟨res_cell 2 e2 rfl rfl, res_cell 1 e3 rfl rfl, res_tmp e4, res_tmp e5, trivial⟩
      ((Vs.drop (List.nil_sublist _)).trans (Vs.emp.trans (Vs.emp.trans (Vs.emp.trans (Vs.emp.trans (Vs.emp.trans (Vs.emp.trans Vs.emp))))))) ⟨rfl, _, _, _, _, _, emp, by rw [hc]; rfl, rfl, ?_⟩
    simp only [splitL, splitR, splitK, hc]
    exact ⟨ONode.zero, ONode.zero, GRow.nil⟩
  refine w_mid (fun ρ d' L' => d = d' ∧ ρ 1 = .pointer (some ⟨b, 0, none⟩) ∧ ρ 2 = .pointer (some ⟨b2, 0, none⟩) ∧ ρ 3 = .pointer (some ⟨b3, 0, none⟩) ∧ ρ 6 = .int .i64 ks.length ∧ ρ 7 = .int .i64 (if lf then 2 else 3 : Nat) ∧ L' = [bx b T [.bool lf, kv, vv, iv], bx b3 T3 [.bool false, .slice none 0 0, .slice none 0 0, .slice none 0 0], bx b2 T2 [.bool false, .slice none 0 0, .slice none 0 0, .slice none 0 0]]) ?_ ?_
  · cases lf
    · (apply w_sq; apply w_reg; apply w_fld; rfl; apply w_ld; rfl; exact hc_i 0 rfl rfl; apply w_done0; apply w_ifF; rfl; apply w_skip)
      exact ⟨rfl, rfl, rfl, rfl, rfl, rfl, rfl⟩
    · (apply w_sq; apply w_reg; apply w_fld; rfl; apply w_ld; rfl; exact hc_i 0 rfl rfl; apply w_done0; apply w_ifT; rfl; apply w_reg; apply w_mvi; rfl; apply w_done0)
      exact ⟨rfl, rfl, rfl, rfl, rfl, rfl, rfl⟩
  rintro ρ d' L' ⟨hdd, e1, e2, e3, e6, e7, hL⟩
  subst hdd; subst hL
  obtain ⟨lo, hlo⟩ : ∃ lo : Nat, lo = if lf then 2 else 3 := ⟨_, rfl⟩
  rw [← hlo] at e7
  refine gwp_slots [(1, .pointer (some ⟨b, 0, none⟩)), (2, .pointer (some ⟨b2, 0, none⟩)), (3, .pointer (some ⟨b3, 0, none⟩)), (6, .int .i64 ks.length), (7, .int .i64 lo)] ⟨e1, e2, e3, e6, e7, trivial⟩ ?_
  refine w_mid (fun ρ d' L' => d = d' ∧ ρ 1 = .pointer (some ⟨b, 0, none⟩) ∧ ρ 2 = .pointer (some ⟨b2, 0, none⟩) ∧ ρ 3 = .pointer (some ⟨b3, 0, none⟩) ∧ ρ 6 = .int .i64 ks.length ∧ canB ⟨lf, ks, vs, is⟩ = true ∧ L' = [bx b T [.bool lf, kv, vv, iv], bx b3 T3 [.bool false, .slice none 0 0, .slice none 0 0, .slice none 0 0], bx b2 T2 [.bool false, .slice none 0 0, .slice none 0 0, .slice none 0 0]]) ?_ ?_
  · (apply w_sq; apply w_reg; apply w_ldb 0; rfl; rfl; rfl)
    refine w_pure rfl (h1 hn') ?_
    cases hs : soundB ⟨lf, ks, vs, is⟩
    · (apply w_not; rfl; apply w_mvb; rfl; apply w_gF; rfl; apply w_gF; rfl; apply w_gF; rfl; apply w_pickTb; rfl; rfl; apply w_done0; apply w_ifT; rfl; apply w_sq; apply w_reg; apply w_bld; rfl; apply w_bld; rfl)
      refine w_st 2 rfl rfl rfl rfl (by simp [Value.cells]) rfl ?_
      refine w_st 1 rfl rfl rfl rfl (by simp [Value.cells]) rfl ?_
      (apply w_mvs; rfl; apply w_mvi; rfl; apply w_done0; apply w_ret)
      exact bad (by simp [canB, hs]) _ _ rfl rfl rfl rfl rfl
    by_cases hl : ks.length < lo
    · (apply w_not; rfl; apply w_mvb; rfl; apply w_gT; rfl; apply w_mvi; rfl; apply w_gT; rfl; apply w_mvi; rfl; apply w_gT; rfl; apply w_lss; rfl; rfl; apply w_pickFb; rfl; rfl; apply w_done0; refine w_ifdT rfl (by omega) ?_; apply w_sq; apply w_reg; apply w_bld; rfl; apply w_bld; rfl)
      refine w_st 2 rfl rfl rfl rfl (by simp [Value.cells]) rfl ?_
      refine w_st 1 rfl rfl rfl rfl (by simp [Value.cells]) rfl ?_
      (apply w_mvs; rfl; apply w_mvi; rfl; apply w_done0; apply w_ret)
      exact bad (by simp only [canB, hs]; rw [← hlo]; simp; omega) _ _ rfl rfl rfl rfl rfl
    · (apply w_not; rfl; apply w_mvb; rfl; apply w_gT; rfl; apply w_mvi; rfl; apply w_gT; rfl; apply w_mvi; rfl; apply w_gT; rfl; apply w_lss; rfl; rfl; apply w_pickFb; rfl; rfl; apply w_done0; refine w_ifdF rfl (by omega) ?_; apply w_skip)
      exact ⟨rfl, rfl, rfl, rfl, rfl, by simp only [canB, hs]; rw [← hlo]; simp; omega, rfl⟩
  rintro ρ d' L' ⟨hdd, e1, e2, e3, e6, hcan, hL⟩
  subst hdd; subst hL
  refine gwp_slots [(1, .pointer (some ⟨b, 0, none⟩)), (2, .pointer (some ⟨b2, 0, none⟩)), (3, .pointer (some ⟨b3, 0, none⟩)), (6, .int .i64 ks.length)] ⟨e1, e2, e3, e6, trivial⟩ ?_
  have hps : ∀ i, i ≤ ks.length → psum ⟨lf, ks, vs, is⟩ i ≤ 1002000000000 := fun i hi => by
    have h1 := psum_mono ⟨lf, ks, vs, is⟩ hi
    have h2 := psum_le ⟨lf, ks, vs, is⟩ ks.length
    simp only [sizeD] at hz
    omega
  have hkl : ks.length ≥ 2 := by
    simp only [canB, Bool.and_eq_true, decide_eq_true_eq] at hcan
    have := hcan.2
    split at this <;> omega
  (apply w_sq; apply w_reg; apply w_mkf; apply w_mvf; rfl; apply w_done0; apply w_sq; apply w_reg; apply w_mvi; rfl; apply w_done0; apply w_sq; apply w_sq; apply w_reg; apply w_mvi; rfl; apply w_mvi; rfl; apply w_done0; apply w_block)
  refine w_loopN (α := Nat) (fun i => [(1, .pointer (some ⟨b, 0, none⟩)), (2, .pointer (some ⟨b2, 0, none⟩)), (3, .pointer (some ⟨b3, 0, none⟩)), (6, .int .i64 ks.length), (8, .func (.func f2) #[] #[.pointer (some ⟨b, 0, none⟩)]), (9, .int .i64 (psum ⟨lf, ks, vs, is⟩ i : Nat)), (29, .int .i64 ks.length), (30, .int .i64 i)]) (fun _ => [bx b T [.bool lf, kv, vv, iv], bx b3 T3 [.bool false, .slice none 0 0, .slice none 0 0, .slice none 0 0], bx b2 T2 [.bool false, .slice none 0 0, .slice none 0 0, .slice none 0 0]])
    (fun i => i ≤ ks.length) (fun i => ks.length - i) 0 ⟨rfl, rfl, rfl, rfl, rfl, rfl, rfl, rfl, trivial⟩ rfl (Nat.zero_le _) ?_
  rintro i ρ hi
  have hpi := hps i hi
  (apply w_sq; apply w_reg; apply w_lss; rfl; rfl; apply w_done0; apply w_sq)
  first | refine w_ifd rfl (fun hc => ?_) (fun hc => ?_) | refine w_if rfl (fun hc => ?_) (fun hc => ?_)
  · have hi1 : i < ks.length := by omega
    have hpi1 := hps (i + 1) hi1
    simp only [psum] at hpi1
    (apply w_skip; apply w_sq; apply w_block; apply w_sq; apply w_reg; apply w_mvi; rfl; apply w_mvi; rfl; apply w_done0; apply w_reg; apply w_mvi; rfl; apply w_mvf; rfl; apply w_mvi; rfl)
    refine w_callv 1 rfl rfl (h2 hn' hz i hi1) (fun r d2 L2 _ ⟨hr, hdd, hL⟩ => ?_)
    subst hr; subst hdd; subst hL
    (apply w_add; rfl; rfl; omega; omega; apply w_mvi; rfl; apply w_done0; apply w_reg; apply w_add; rfl; rfl; omega; omega; apply w_mvi; rfl; apply w_done0)
    exact ⟨i + 1, by omega, ⟨rfl, rfl, rfl, rfl, rfl, int_eq (by simp only [psum]; omega), rfl, int_eq (by omega), trivial⟩, rfl, rfl, hi1⟩
  obtain rfl : i = ks.length := by omega
  apply w_exit
  apply w_sq; apply w_reg
  (apply w_mvi; rfl; apply w_mvi; rfl; apply w_done0)
  refine w_mid (fun ρ d' L' => d = d' ∧ ρ 1 = .pointer (some ⟨b, 0, none⟩) ∧ ρ 2 = .pointer (some ⟨b2, 0, none⟩) ∧ ρ 3 = .pointer (some ⟨b3, 0, none⟩) ∧ L' = [bx b T [.bool lf, kv, vv, iv], bx b3 T3 [.bool false, .slice none 0 0, .slice none 0 0, .slice none 0 0], bx b2 T2 [.bool false, .slice none 0 0, .slice none 0 0, .slice none 0 0]] ∧ ∃ a, ρ 11 = .int .i64 (a : Nat) ∧ a ≤ ks.length - 1 ∧ atD ⟨lf, ks, vs, is⟩ = a) ?_ ?_
  · (apply w_block)
    refine w_loopN (α := Nat) (fun i => [(1, .pointer (some ⟨b, 0, none⟩)), (2, .pointer (some ⟨b2, 0, none⟩)), (3, .pointer (some ⟨b3, 0, none⟩)), (6, .int .i64 ks.length), (8, .func (.func f2) #[] #[.pointer (some ⟨b, 0, none⟩)]), (9, .int .i64 (psum ⟨lf, ks, vs, is⟩ ks.length : Nat)), (11, .int .i64 i), (12, .int .i64 (psum ⟨lf, ks, vs, is⟩ i : Nat))]) (fun _ => [bx b T [.bool lf, kv, vv, iv], bx b3 T3 [.bool false, .slice none 0 0, .slice none 0 0, .slice none 0 0], bx b2 T2 [.bool false, .slice none 0 0, .slice none 0 0, .slice none 0 0]])
      (fun i => i ≤ ks.length - 1 ∧ atGo ⟨lf, ks, vs, is⟩ (ks.length - i) i = atD ⟨lf, ks, vs, is⟩) (fun i => ks.length - i) 0 ⟨rfl, rfl, rfl, rfl, rfl, rfl, rfl, rfl, trivial⟩ rfl ⟨Nat.zero_le _, rfl⟩ ?_
    rintro a ρ ⟨ha, hat⟩
    have hpa := hps a (by omega)
    have hpl := hps ks.length (Nat.le_refl _)
    by_cases hc1 : a < ks.length - 1
    · by_cases hc2 : 2 * psum ⟨lf, ks, vs, is⟩ a < psum ⟨lf, ks, vs, is⟩ ks.length
      · have hpa1 := hps (a + 1) (by omega)
        simp only [psum] at hpa1
        (apply w_sq; apply w_sq; apply w_reg; apply w_mvi; rfl; apply w_mvi; rfl; apply w_sub; rfl; rfl; omega; omega; apply w_lss; rfl; rfl; apply w_mvb; rfl; refine w_gdT rfl (by omega) ?_; apply w_gT; rfl; apply w_mvi; rfl; apply w_gT; rfl; apply w_mul; rfl; rfl; omega; omega; apply w_gT; rfl; apply w_mvi; rfl; apply w_gT; rfl; apply w_lss; rfl; rfl; apply w_pickTb; rfl; rfl; apply w_done0; refine w_ifdT rfl (by omega) ?_; apply w_skip; apply w_block; apply w_sq; apply w_reg; apply w_mvi; rfl; apply w_mvf; rfl; apply w_mvi; rfl)
        refine w_callv 1 rfl rfl (h2 hn' hz a (show a < ks.length by omega)) (fun r d2 L2 _ ⟨hr, hdd, hL⟩ => ?_)
        subst hr; subst hdd; subst hL
        (apply w_add; rfl; rfl; omega; omega; apply w_mvi; rfl; apply w_done0; apply w_reg; apply w_mvi; rfl; apply w_add; rfl; rfl; omega; omega; apply w_mvi; rfl; apply w_done0)
        exact ⟨a + 1, by omega, ⟨rfl, rfl, rfl, rfl, rfl, rfl, int_eq (by omega), int_eq (by simp only [psum]; omega), trivial⟩, rfl, rfl, by omega, atGo_step _ hc1 hc2 hat⟩
      · have hatd := atGo_stop _ (fun h => hc2 h.2) hat
        (apply w_sq; apply w_sq; apply w_reg; apply w_mvi; rfl; apply w_mvi; rfl; apply w_sub; rfl; rfl; omega; omega; apply w_lss; rfl; rfl; apply w_mvb; rfl; refine w_gdT rfl (by omega) ?_; apply w_gT; rfl; apply w_mvi; rfl; apply w_gT; rfl; apply w_mul; rfl; rfl; omega; omega; apply w_gT; rfl; apply w_mvi; rfl; apply w_gT; rfl; apply w_lss; rfl; rfl; apply w_pickTb; rfl; rfl; apply w_done0; refine w_ifdF rfl (by omega) ?_; apply w_exit)
        exact ⟨rfl, rfl, rfl, rfl, rfl, a, rfl, ha, hatd⟩
    · have hatd := atGo_stop _ (fun h => hc1 h.1) hat
      (apply w_sq; apply w_sq; apply w_reg; apply w_mvi; rfl; apply w_mvi; rfl; apply w_sub; rfl; rfl; omega; omega; apply w_lss; rfl; rfl; apply w_mvb; rfl; refine w_gdF rfl (by omega) ?_; apply w_gF; rfl; apply w_gF; rfl; apply w_gF; rfl; apply w_gF; rfl; apply w_pickFb; rfl; rfl; apply w_done0; apply w_ifF; rfl; apply w_exit)
      exact ⟨rfl, rfl, rfl, rfl, rfl, a, rfl, ha, hatd⟩
  rintro ρ d' L' ⟨hdd, e1, e2, e3, hL, a, e10, ha, hatd⟩
  subst hdd; subst hL
  refine gwp_slots [(1, .pointer (some ⟨b, 0, none⟩)), (2, .pointer (some ⟨b2, 0, none⟩)), (3, .pointer (some ⟨b3, 0, none⟩)), (11, .int .i64 a)] ⟨e1, e2, e3, e10, trivial⟩ ?_
  (apply w_sq; apply w_sq; apply w_reg; apply w_fld; rfl; apply w_ld; rfl; exact hc_i 0 rfl rfl; apply w_done0)
  first | refine w_ifd rfl (fun hl => ?_) (fun hl => ?_) | refine w_if rfl (fun hl => ?_) (fun hl => ?_)
  · subst hl
    have hvl : vs.length = ks.length := by
      simp only [canB, soundB, Bool.and_eq_true, if_true, decide_eq_true_eq] at hcan
      exact hcan.1.2.1.1
    (apply w_sq; apply w_drawn; apply w_fld; rfl; apply w_ld; rfl; exact hc_i 0 rfl rfl; apply w_mvi; rfl; apply w_mvi; rfl)
    refine w_slTo3 rfl hk rfl rfl rfl rfl (show a ≤ ks.length by omega) (fun v1 hv1 => ?_)
    (apply w_fld; rfl; apply w_ld; rfl; exact hc_i 0 rfl rfl; apply w_mvi; rfl; apply w_mvi; rfl)
    refine w_slTo3 rfl hv rfl rfl rfl rfl (show a ≤ vs.length by omega) (fun v2 hv2 => ?_)
    refine w_call0 rfl (h3 hv1 (by simp; omega)) (fun u1 d1 Lk _ ⟨hdd, o1⟩ => ?_)
    subst hdd
    refine w_call0 rfl (h3 hv2 (by simp; omega)) (fun u2 d2 Lv _ ⟨hdd, o2⟩ => ?_)
    subst hdd
    obtain ⟨a1, c1, rfl⟩ := o1.val
    obtain ⟨a2, c2, rfl⟩ := o2.val
    refine w_bld (cs := [.bool true, .slice a1 (ks.take a).length c1, .slice a2 (vs.take a).length c2, .slice none 0 0]) rfl ?_
    (apply w_bar)
    refine w_st 2 rfl rfl rfl rfl (by simp [Value.cells]) rfl ?_
    (apply w_done0; apply w_sq; apply w_drawn; apply w_fld; rfl; apply w_ld; rfl; exact hc_i 0 rfl rfl; apply w_mvi; rfl)
    refine w_slFrom rfl hk rfl rfl (show a ≤ ks.length by omega) (fun v3 hv3 => ?_)
    (apply w_fld; rfl; apply w_ld; rfl; exact hc_i 0 rfl rfl; apply w_mvi; rfl)
    refine w_slFrom rfl hv rfl rfl (show a ≤ vs.length by omega) (fun v4 hv4 => ?_)
    refine w_call0 rfl (h3 hv3 (by simp; omega)) (fun u3 d3 Rk _ ⟨hdd, o3⟩ => ?_)
    subst hdd
    refine w_call0 rfl (h3 hv4 (by simp; omega)) (fun u4 d4 Rv _ ⟨hdd, o4⟩ => ?_)
    subst hdd
    obtain ⟨a3, c3, rfl⟩ := o3.val
    obtain ⟨a4, c4, rfl⟩ := o4.val
    refine w_bld (cs := [.bool true, .slice a3 (ks.drop a).length c3, .slice a4 (vs.drop a).length c4, .slice none 0 0]) rfl ?_
    (apply w_bar)
    refine w_st 1 rfl rfl rfl rfl (by simp [Value.cells]) rfl ?_
    have hk1 : a < ks.length := by omega
    (apply w_done0; apply w_sq)
    refine w_drawnA [bx b T [.bool true, kv, vv, iv]] (bx b3 T3 [.bool true, .slice a3 (ks.drop a).length c3, .slice a4 (vs.drop a).length c4, .slice none 0 0] :: bx b2 T2 [.bool true, .slice a1 (ks.take a).length c1, .slice a2 (vs.take a).length c2, .slice none 0 0] :: (Lv ++ (Lk ++ []) ++ (Rv ++ (Rk ++ [])))) rfl ?_
    (apply w_fld; rfl; apply w_ld; rfl; exact hc_i 0 rfl rfl; apply w_mvi; rfl; refine w_idxR (sz := 1) (R := RBs) (by rfl) (by assumption) (by rfl) rfl (by omega) ?_; rintro _ _ _ _ _ ⟨_, rfl, _⟩; apply w_ld; rfl; exact hc_ds0 (by assumption) rfl)
    rename_i w5 hw5 _ _
    have hxl : (ks[a]).length * 1 ≤ 140737488355328 := by have := RBytes.len_le hw5; omega
    have hvs : ∀ (d : PHeap) (g : PHeap), Vs d (bx b T [.bool true, kv, vv, iv] :: g :: bx b3 T3 [.bool true, .slice a3 (ks.drop a).length c3, .slice a4 (vs.drop a).length c4, .slice none 0 0] :: bx b2 T2 [.bool true, .slice a1 (ks.take a).length c1, .slice a2 (vs.take a).length c2, .slice none 0 0] :: (Lv ++ (Lk ++ []) ++ (Rv ++ (Rk ++ [])))) d ((Lk ++ Lv ++ [emp]) ++ (Rk ++ Rv ++ [emp]) ++ [g]) := fun d g =>
      (Vs.emp.trans Vs.emp).trans (by simpa [List.append_assoc] using Vs.picks [[emp], [emp], [bx b T [.bool true, kv, vv, iv]], [g], [bx b3 T3 [.bool true, .slice a3 (ks.drop a).length c3, .slice a4 (vs.drop a).length c4, .slice none 0 0]], [bx b2 T2 [.bool true, .slice a1 (ks.take a).length c1, .slice a2 (vs.take a).length c2, .slice none 0 0]], Lv, Lk, Rv, Rk] [7, 6, 0, 9, 8, 1, 3] [2, 4, 5] rfl)
    refine w_alt ?_ ?_
    · apply w_ldb 2; rfl; rfl; rfl
      refine w_alt ?_ ?_
      · apply w_ldb 1; rfl; rfl; rfl
        refine w_call0 rfl (h4 (xs := ks[a]) hw5 hxl) (fun u5 d5 Lg _ ⟨hdd, g, hLg, hg⟩ => ?_)
        subst hdd; subst hLg
        refine w_st 2 rfl rfl rfl rfl (by simp [Value.cells]) rfl ?_
        refine w_st 1 rfl rfl rfl rfl (by simp [Value.cells]) rfl ?_
        apply w_mv
        apply w_mvi; rfl
        apply w_done
        apply w_ret
        refine finV [.agg [.bool true, .slice a1 (ks.take a).length c1, .slice a2 (vs.take a).length c2, .slice none 0 0].toArray, .agg [.bool true, .slice a3 (ks.drop a).length c3, .slice a4 (vs.drop a).length c4, .slice none 0 0].toArray, u5, .int .i64 0] (L' := (Lk ++ Lv ++ [emp]) ++ (Rk ++ Rv ++ [emp]) ++ [g]) ⟨res_cell 3 rfl rfl rfl, res_cell 2 rfl rfl rfl, res_tmp rfl, res_tmp rfl, trivial⟩ (hvs _ g) ⟨rfl, _, _, _, _, _, g, by rw [hcan]; rfl, rfl, ?_⟩
        simp only [splitL, splitR, splitK, hcan, if_true, hatd]
        exact ⟨⟨_, _, _, Lk, Lv, emp, rfl, o1, o2, GRow.nil, rfl⟩, ⟨_, _, _, Rk, Rv, emp, rfl, o3, o4, GRow.nil, rfl⟩, by simpa [hk1] using hg⟩
      · refine w_call0 rfl (h4 (xs := ks[a]) hw5 hxl) (fun u5 d5 Lg _ ⟨hdd, g, hLg, hg⟩ => ?_)
        subst hdd; subst hLg
        refine w_alt ?_ ?_
        · apply w_ldb 2; rfl; rfl; rfl
          refine w_st 2 rfl rfl rfl rfl (by simp [Value.cells]) rfl ?_
          refine w_st 1 rfl rfl rfl rfl (by simp [Value.cells]) rfl ?_
          apply w_mv
          apply w_mvi; rfl
          apply w_done
          apply w_ret
          refine finV [.agg [.bool true, .slice a1 (ks.take a).length c1, .slice a2 (vs.take a).length c2, .slice none 0 0].toArray, .agg [.bool true, .slice a3 (ks.drop a).length c3, .slice a4 (vs.drop a).length c4, .slice none 0 0].toArray, u5, .int .i64 0] (L' := (Lk ++ Lv ++ [emp]) ++ (Rk ++ Rv ++ [emp]) ++ [g]) ⟨res_cell 3 rfl rfl rfl, res_cell 2 rfl rfl rfl, res_tmp rfl, res_tmp rfl, trivial⟩ (hvs _ g) ⟨rfl, _, _, _, _, _, g, by rw [hcan]; rfl, rfl, ?_⟩
          simp only [splitL, splitR, splitK, hcan, if_true, hatd]
          exact ⟨⟨_, _, _, Lk, Lv, emp, rfl, o1, o2, GRow.nil, rfl⟩, ⟨_, _, _, Rk, Rv, emp, rfl, o3, o4, GRow.nil, rfl⟩, by simpa [hk1] using hg⟩
        · refine w_st 2 rfl rfl rfl rfl (by simp [Value.cells]) rfl ?_
          apply w_ldb 2; rfl; rfl; rfl
          refine w_st 1 rfl rfl rfl rfl (by simp [Value.cells]) rfl ?_
          apply w_mv
          apply w_mvi; rfl
          apply w_done
          apply w_ret
          refine finV [.agg [.bool true, .slice a1 (ks.take a).length c1, .slice a2 (vs.take a).length c2, .slice none 0 0].toArray, .agg [.bool true, .slice a3 (ks.drop a).length c3, .slice a4 (vs.drop a).length c4, .slice none 0 0].toArray, u5, .int .i64 0] (L' := (Lk ++ Lv ++ [emp]) ++ (Rk ++ Rv ++ [emp]) ++ [g]) ⟨res_cell 3 rfl rfl rfl, res_cell 2 rfl rfl rfl, res_tmp rfl, res_tmp rfl, trivial⟩ (hvs _ g) ⟨rfl, _, _, _, _, _, g, by rw [hcan]; rfl, rfl, ?_⟩
          simp only [splitL, splitR, splitK, hcan, if_true, hatd]
          exact ⟨⟨_, _, _, Lk, Lv, emp, rfl, o1, o2, GRow.nil, rfl⟩, ⟨_, _, _, Rk, Rv, emp, rfl, o3, o4, GRow.nil, rfl⟩, by simpa [hk1] using hg⟩
    · refine w_alt ?_ ?_
      · apply w_ldb 1; rfl; rfl; rfl
        refine w_alt ?_ ?_
        · apply w_ldb 2; rfl; rfl; rfl
          refine w_call0 rfl (h4 (xs := ks[a]) hw5 hxl) (fun u5 d5 Lg _ ⟨hdd, g, hLg, hg⟩ => ?_)
          subst hdd; subst hLg
          refine w_st 2 rfl rfl rfl rfl (by simp [Value.cells]) rfl ?_
          refine w_st 1 rfl rfl rfl rfl (by simp [Value.cells]) rfl ?_
          apply w_mv
          apply w_mvi; rfl
          apply w_done
          apply w_ret
          refine finV [.agg [.bool true, .slice a1 (ks.take a).length c1, .slice a2 (vs.take a).length c2, .slice none 0 0].toArray, .agg [.bool true, .slice a3 (ks.drop a).length c3, .slice a4 (vs.drop a).length c4, .slice none 0 0].toArray, u5, .int .i64 0] (L' := (Lk ++ Lv ++ [emp]) ++ (Rk ++ Rv ++ [emp]) ++ [g]) ⟨res_cell 3 rfl rfl rfl, res_cell 2 rfl rfl rfl, res_tmp rfl, res_tmp rfl, trivial⟩ (hvs _ g) ⟨rfl, _, _, _, _, _, g, by rw [hcan]; rfl, rfl, ?_⟩
          simp only [splitL, splitR, splitK, hcan, if_true, hatd]
          exact ⟨⟨_, _, _, Lk, Lv, emp, rfl, o1, o2, GRow.nil, rfl⟩, ⟨_, _, _, Rk, Rv, emp, rfl, o3, o4, GRow.nil, rfl⟩, by simpa [hk1] using hg⟩
        · refine w_call0 rfl (h4 (xs := ks[a]) hw5 hxl) (fun u5 d5 Lg _ ⟨hdd, g, hLg, hg⟩ => ?_)
          subst hdd; subst hLg
          apply w_ldb 3; rfl; rfl; rfl
          refine w_st 2 rfl rfl rfl rfl (by simp [Value.cells]) rfl ?_
          refine w_st 1 rfl rfl rfl rfl (by simp [Value.cells]) rfl ?_
          apply w_mv
          apply w_mvi; rfl
          apply w_done
          apply w_ret
          refine finV [.agg [.bool true, .slice a1 (ks.take a).length c1, .slice a2 (vs.take a).length c2, .slice none 0 0].toArray, .agg [.bool true, .slice a3 (ks.drop a).length c3, .slice a4 (vs.drop a).length c4, .slice none 0 0].toArray, u5, .int .i64 0] (L' := (Lk ++ Lv ++ [emp]) ++ (Rk ++ Rv ++ [emp]) ++ [g]) ⟨res_cell 3 rfl rfl rfl, res_cell 2 rfl rfl rfl, res_tmp rfl, res_tmp rfl, trivial⟩ (hvs _ g) ⟨rfl, _, _, _, _, _, g, by rw [hcan]; rfl, rfl, ?_⟩
          simp only [splitL, splitR, splitK, hcan, if_true, hatd]
          exact ⟨⟨_, _, _, Lk, Lv, emp, rfl, o1, o2, GRow.nil, rfl⟩, ⟨_, _, _, Rk, Rv, emp, rfl, o3, o4, GRow.nil, rfl⟩, by simpa [hk1] using hg⟩
      · refine w_call0 rfl (h4 (xs := ks[a]) hw5 hxl) (fun u5 d5 Lg _ ⟨hdd, g, hLg, hg⟩ => ?_)
        subst hdd; subst hLg
        refine w_alt ?_ ?_
        · apply w_ldb 3; rfl; rfl; rfl
          refine w_alt ?_ ?_
          · apply w_ldb 2; rfl; rfl; rfl
            refine w_st 2 rfl rfl rfl rfl (by simp [Value.cells]) rfl ?_
            refine w_st 1 rfl rfl rfl rfl (by simp [Value.cells]) rfl ?_
            apply w_mv
            apply w_mvi; rfl
            apply w_done
            apply w_ret
            refine finV [.agg [.bool true, .slice a1 (ks.take a).length c1, .slice a2 (vs.take a).length c2, .slice none 0 0].toArray, .agg [.bool true, .slice a3 (ks.drop a).length c3, .slice a4 (vs.drop a).length c4, .slice none 0 0].toArray, u5, .int .i64 0] (L' := (Lk ++ Lv ++ [emp]) ++ (Rk ++ Rv ++ [emp]) ++ [g]) ⟨res_cell 3 rfl rfl rfl, res_cell 2 rfl rfl rfl, res_tmp rfl, res_tmp rfl, trivial⟩ (hvs _ g) ⟨rfl, _, _, _, _, _, g, by rw [hcan]; rfl, rfl, ?_⟩
            simp only [splitL, splitR, splitK, hcan, if_true, hatd]
            exact ⟨⟨_, _, _, Lk, Lv, emp, rfl, o1, o2, GRow.nil, rfl⟩, ⟨_, _, _, Rk, Rv, emp, rfl, o3, o4, GRow.nil, rfl⟩, by simpa [hk1] using hg⟩
          · refine w_st 2 rfl rfl rfl rfl (by simp [Value.cells]) rfl ?_
            apply w_ldb 2; rfl; rfl; rfl
            refine w_st 1 rfl rfl rfl rfl (by simp [Value.cells]) rfl ?_
            apply w_mv
            apply w_mvi; rfl
            apply w_done
            apply w_ret
            refine finV [.agg [.bool true, .slice a1 (ks.take a).length c1, .slice a2 (vs.take a).length c2, .slice none 0 0].toArray, .agg [.bool true, .slice a3 (ks.drop a).length c3, .slice a4 (vs.drop a).length c4, .slice none 0 0].toArray, u5, .int .i64 0] (L' := (Lk ++ Lv ++ [emp]) ++ (Rk ++ Rv ++ [emp]) ++ [g]) ⟨res_cell 3 rfl rfl rfl, res_cell 2 rfl rfl rfl, res_tmp rfl, res_tmp rfl, trivial⟩ (hvs _ g) ⟨rfl, _, _, _, _, _, g, by rw [hcan]; rfl, rfl, ?_⟩
            simp only [splitL, splitR, splitK, hcan, if_true, hatd]
            exact ⟨⟨_, _, _, Lk, Lv, emp, rfl, o1, o2, GRow.nil, rfl⟩, ⟨_, _, _, Rk, Rv, emp, rfl, o3, o4, GRow.nil, rfl⟩, by simpa [hk1] using hg⟩
        · apply w_ldb 2; rfl; rfl; rfl
          apply w_ldb 3; rfl; rfl; rfl
          refine w_st 2 rfl rfl rfl rfl (by simp [Value.cells]) rfl ?_
          refine w_st 1 rfl rfl rfl rfl (by simp [Value.cells]) rfl ?_
          apply w_mv
          apply w_mvi; rfl
          apply w_done
          apply w_ret
          refine finV [.agg [.bool true, .slice a1 (ks.take a).length c1, .slice a2 (vs.take a).length c2, .slice none 0 0].toArray, .agg [.bool true, .slice a3 (ks.drop a).length c3, .slice a4 (vs.drop a).length c4, .slice none 0 0].toArray, u5, .int .i64 0] (L' := (Lk ++ Lv ++ [emp]) ++ (Rk ++ Rv ++ [emp]) ++ [g]) ⟨res_cell 3 rfl rfl rfl, res_cell 2 rfl rfl rfl, res_tmp rfl, res_tmp rfl, trivial⟩ (hvs _ g) ⟨rfl, _, _, _, _, _, g, by rw [hcan]; rfl, rfl, ?_⟩
          simp only [splitL, splitR, splitK, hcan, if_true, hatd]
          exact ⟨⟨_, _, _, Lk, Lv, emp, rfl, o1, o2, GRow.nil, rfl⟩, ⟨_, _, _, Rk, Rv, emp, rfl, o3, o4, GRow.nil, rfl⟩, by simpa [hk1] using hg⟩
  · subst hl
    have hil : is.length = ks.length + 1 := by
      simp only [canB, soundB, Bool.and_eq_true, Bool.false_eq_true, if_false, decide_eq_true_eq] at hcan
      exact hcan.1.2.1.2
    have hk3 : 3 ≤ ks.length := by
      simp only [canB, Bool.and_eq_true, Bool.false_eq_true, if_false, decide_eq_true_eq] at hcan
      exact hcan.2
    apply w_skip
    refine w_mid (fun ρ d' L' => d = d' ∧ ρ 1 = .pointer (some ⟨b, 0, none⟩) ∧ ρ 2 = .pointer (some ⟨b2, 0, none⟩) ∧ ρ 3 = .pointer (some ⟨b3, 0, none⟩) ∧ L' = [bx b T [.bool false, kv, vv, iv], bx b3 T3 [.bool false, .slice none 0 0, .slice none 0 0, .slice none 0 0], bx b2 T2 [.bool false, .slice none 0 0, .slice none 0 0, .slice none 0 0]] ∧ ρ 11 = .int .i64 (at2 ⟨false, ks, vs, is⟩ : Nat)) ?_ ?_
    · (apply w_reg; apply w_mvi; rfl; apply w_mx2; rfl; rfl; apply w_mvi; rfl; apply w_done0)
      exact ⟨rfl, rfl, rfl, rfl, rfl, int_eq (by simp only [at2, hatd]; omega)⟩
    rintro ρ d' L' ⟨hdd, e1, e2, e3, hL, e10⟩
    subst hdd; subst hL
    refine gwp_slots [(1, .pointer (some ⟨b, 0, none⟩)), (2, .pointer (some ⟨b2, 0, none⟩)), (3, .pointer (some ⟨b3, 0, none⟩)), (11, .int .i64 (at2 ⟨false, ks, vs, is⟩ : Nat))] ⟨e1, e2, e3, e10, trivial⟩ ?_
    obtain ⟨m, hm⟩ : ∃ m, at2 ⟨false, ks, vs, is⟩ = m + 1 := ⟨at2 ⟨false, ks, vs, is⟩ - 1, by simp only [at2]; omega⟩
    have hm2 : m + 1 ≤ ks.length - 1 := by rw [← hm]; simp only [at2, hatd]; omega
    rw [hm]
    (apply w_sq; apply w_drawn; apply w_fld; rfl; apply w_ld; rfl; exact hc_i 0 rfl rfl; apply w_mvi; rfl; apply w_sub; rfl; rfl; omega; omega; apply w_mvi; rfl; apply w_sub; rfl; rfl; omega; omega)
    refine w_slTo3 rfl hk rfl rfl (show ((m + 1 : Nat) : Int) - 1 = (m : Int) by omega) (show ((m + 1 : Nat) : Int) - 1 = (m : Int) by omega) (show m ≤ ks.length by omega) (fun v1 hv1 => ?_)
    (apply w_fld; rfl; apply w_ld; rfl; exact hc_i 0 rfl rfl; apply w_mvi; rfl; apply w_mvi; rfl)
    refine w_slTo3 rfl hiv rfl rfl rfl rfl (show m + 1 ≤ is.length by omega) (fun v2 hv2 => ?_)
    refine w_call0 rfl (h3 hv1 (by simp; omega)) (fun u1 d1 Lk _ ⟨hdd, o1⟩ => ?_)
    subst hdd
    refine w_call0 rfl (h5 hv2 (by simp; omega)) (fun u2 d2 Lgl _ ⟨hdd, gl, hLgl, o2⟩ => ?_)
    subst hdd; subst hLgl
    obtain ⟨a1, c1, rfl⟩ := o1.val
    obtain ⟨a2, c2, rfl⟩ := o2.val
    refine w_bld (cs := [.bool false, .slice a1 (ks.take m).length c1, .slice none 0 0, .slice a2 (is.take (m + 1)).length c2]) rfl ?_
    (apply w_bar)
    refine w_st 2 rfl rfl rfl rfl (by simp [Value.cells]) rfl ?_
    (apply w_done0; apply w_sq; apply w_drawn; apply w_fld; rfl; apply w_ld; rfl; exact hc_i 0 rfl rfl; apply w_mvi; rfl)
    refine w_slFrom rfl hk rfl rfl (show m + 1 ≤ ks.length by omega) (fun v3 hv3 => ?_)
    (apply w_fld; rfl; apply w_ld; rfl; exact hc_i 0 rfl rfl; apply w_mvi; rfl)
    refine w_slFrom rfl hiv rfl rfl (show m + 1 ≤ is.length by omega) (fun v4 hv4 => ?_)
    refine w_call0 rfl (h3 hv3 (by simp; omega)) (fun u3 d3 Rk _ ⟨hdd, o3⟩ => ?_)
    subst hdd
    refine w_call0 rfl (h5 hv4 (by simp; omega)) (fun u4 d4 Lgr _ ⟨hdd, gr, hLgr, o4⟩ => ?_)
    subst hdd; subst hLgr
    obtain ⟨a3, c3, rfl⟩ := o3.val
    obtain ⟨a4, c4, rfl⟩ := o4.val
    refine w_bld (cs := [.bool false, .slice a3 (ks.drop (m + 1)).length c3, .slice none 0 0, .slice a4 (is.drop (m + 1)).length c4]) rfl ?_
    (apply w_bar)
    refine w_st 1 rfl rfl rfl rfl (by simp [Value.cells]) rfl ?_
    have hk1 : m < ks.length := by omega
    (apply w_done0; apply w_sq)
    refine w_drawnA [bx b T [.bool false, kv, vv, iv]] (bx b3 T3 [.bool false, .slice a3 (ks.drop (m + 1)).length c3, .slice none 0 0, .slice a4 (is.drop (m + 1)).length c4] :: bx b2 T2 [.bool false, .slice a1 (ks.take m).length c1, .slice none 0 0, .slice a2 (is.take (m + 1)).length c2] :: ((gl :: (Lk ++ [])) ++ (gr :: (Rk ++ [])))) rfl ?_
    (apply w_fld; rfl; apply w_ld; rfl; exact hc_i 0 rfl rfl; apply w_mvi; rfl; apply w_sub; rfl; rfl; omega; omega)
    refine w_idxR (sz := 1) (R := RBs) (m := m) rfl hk rfl (by omega) hk1 ?_
    rintro b5 o5 _ _ hD5 ⟨w5, rfl, hw5⟩
    (apply w_ld; rfl; exact hc_ds0 (by assumption) rfl)
    have hxl : (ks[m]).length * 1 ≤ 140737488355328 := by have := RBytes.len_le hw5; omega
    have hvs : ∀ (d : PHeap) (g : PHeap), Vs d (bx b T [.bool false, kv, vv, iv] :: g :: bx b3 T3 [.bool false, .slice a3 (ks.drop (m + 1)).length c3, .slice none 0 0, .slice a4 (is.drop (m + 1)).length c4] :: bx b2 T2 [.bool false, .slice a1 (ks.take m).length c1, .slice none 0 0, .slice a2 (is.take (m + 1)).length c2] :: ((gl :: (Lk ++ [])) ++ (gr :: (Rk ++ [])))) d ((Lk ++ [emp] ++ [gl]) ++ (Rk ++ [emp] ++ [gr]) ++ [g]) := fun d g =>
      (Vs.emp.trans Vs.emp).trans (by simpa [List.append_assoc] using Vs.picks [[emp], [emp], [bx b T [.bool false, kv, vv, iv]], [g], [bx b3 T3 [.bool false, .slice a3 (ks.drop (m + 1)).length c3, .slice none 0 0, .slice a4 (is.drop (m + 1)).length c4]], [bx b2 T2 [.bool false, .slice a1 (ks.take m).length c1, .slice none 0 0, .slice a2 (is.take (m + 1)).length c2]], [gl], Lk, [gr], Rk] [7, 0, 6, 9, 1, 8, 3] [2, 4, 5] rfl)
    refine w_alt ?_ ?_
    · apply w_ldb 2; rfl; rfl; rfl
      refine w_alt ?_ ?_
      · apply w_ldb 1; rfl; rfl; rfl
        refine w_call0 rfl (h4 (xs := ks[m]) hw5 hxl) (fun u5 d5 Lg _ ⟨hdd, g, hLg, hg⟩ => ?_)
        subst hdd; subst hLg
        refine w_st 2 rfl rfl rfl rfl (by simp [Value.cells]) rfl ?_
        refine w_st 1 rfl rfl rfl rfl (by simp [Value.cells]) rfl ?_
        apply w_mv
        apply w_mvi; rfl
        apply w_done
        apply w_ret
        refine finV [.agg [.bool false, .slice a1 (ks.take m).length c1, .slice none 0 0, .slice a2 (is.take (m + 1)).length c2].toArray, .agg [.bool false, .slice a3 (ks.drop (m + 1)).length c3, .slice none 0 0, .slice a4 (is.drop (m + 1)).length c4].toArray, u5, .int .i64 0] (L' := (Lk ++ [emp] ++ [gl]) ++ (Rk ++ [emp] ++ [gr]) ++ [g]) ⟨res_cell 3 rfl rfl rfl, res_cell 2 rfl rfl rfl, res_tmp rfl, res_tmp rfl, trivial⟩ (hvs _ g) ⟨rfl, _, _, _, _, _, g, by rw [hcan]; rfl, rfl, ?_⟩
        simp only [splitL, splitR, splitK, hcan, if_true, hm, Bool.false_eq_true, if_false, Nat.add_sub_cancel]
        exact ⟨⟨_, _, _, Lk, [emp], gl, rfl, o1, OBss.nil, o2, rfl⟩, ⟨_, _, _, Rk, [emp], gr, rfl, o3, OBss.nil, o4, rfl⟩, by simpa [hk1] using hg⟩
      · refine w_call0 rfl (h4 (xs := ks[m]) hw5 hxl) (fun u5 d5 Lg _ ⟨hdd, g, hLg, hg⟩ => ?_)
        subst hdd; subst hLg
        refine w_alt ?_ ?_
        · apply w_ldb 2; rfl; rfl; rfl
          refine w_st 2 rfl rfl rfl rfl (by simp [Value.cells]) rfl ?_
          refine w_st 1 rfl rfl rfl rfl (by simp [Value.cells]) rfl ?_
          apply w_mv
          apply w_mvi; rfl
          apply w_done
          apply w_ret
          refine finV [.agg [.bool false, .slice a1 (ks.take m).length c1, .slice none 0 0, .slice a2 (is.take (m + 1)).length c2].toArray, .agg [.bool false, .slice a3 (ks.drop (m + 1)).length c3, .slice none 0 0, .slice a4 (is.drop (m + 1)).length c4].toArray, u5, .int .i64 0] (L' := (Lk ++ [emp] ++ [gl]) ++ (Rk ++ [emp] ++ [gr]) ++ [g]) ⟨res_cell 3 rfl rfl rfl, res_cell 2 rfl rfl rfl, res_tmp rfl, res_tmp rfl, trivial⟩ (hvs _ g) ⟨rfl, _, _, _, _, _, g, by rw [hcan]; rfl, rfl, ?_⟩
          simp only [splitL, splitR, splitK, hcan, if_true, hm, Bool.false_eq_true, if_false, Nat.add_sub_cancel]
          exact ⟨⟨_, _, _, Lk, [emp], gl, rfl, o1, OBss.nil, o2, rfl⟩, ⟨_, _, _, Rk, [emp], gr, rfl, o3, OBss.nil, o4, rfl⟩, by simpa [hk1] using hg⟩
        · refine w_st 2 rfl rfl rfl rfl (by simp [Value.cells]) rfl ?_
          apply w_ldb 2; rfl; rfl; rfl
          refine w_st 1 rfl rfl rfl rfl (by simp [Value.cells]) rfl ?_
          apply w_mv
          apply w_mvi; rfl
          apply w_done
          apply w_ret
          refine finV [.agg [.bool false, .slice a1 (ks.take m).length c1, .slice none 0 0, .slice a2 (is.take (m + 1)).length c2].toArray, .agg [.bool false, .slice a3 (ks.drop (m + 1)).length c3, .slice none 0 0, .slice a4 (is.drop (m + 1)).length c4].toArray, u5, .int .i64 0] (L' := (Lk ++ [emp] ++ [gl]) ++ (Rk ++ [emp] ++ [gr]) ++ [g]) ⟨res_cell 3 rfl rfl rfl, res_cell 2 rfl rfl rfl, res_tmp rfl, res_tmp rfl, trivial⟩ (hvs _ g) ⟨rfl, _, _, _, _, _, g, by rw [hcan]; rfl, rfl, ?_⟩
          simp only [splitL, splitR, splitK, hcan, if_true, hm, Bool.false_eq_true, if_false, Nat.add_sub_cancel]
          exact ⟨⟨_, _, _, Lk, [emp], gl, rfl, o1, OBss.nil, o2, rfl⟩, ⟨_, _, _, Rk, [emp], gr, rfl, o3, OBss.nil, o4, rfl⟩, by simpa [hk1] using hg⟩
    · refine w_alt ?_ ?_
      · apply w_ldb 1; rfl; rfl; rfl
        refine w_alt ?_ ?_
        · apply w_ldb 2; rfl; rfl; rfl
          refine w_call0 rfl (h4 (xs := ks[m]) hw5 hxl) (fun u5 d5 Lg _ ⟨hdd, g, hLg, hg⟩ => ?_)
          subst hdd; subst hLg
          refine w_st 2 rfl rfl rfl rfl (by simp [Value.cells]) rfl ?_
          refine w_st 1 rfl rfl rfl rfl (by simp [Value.cells]) rfl ?_
          apply w_mv
          apply w_mvi; rfl
          apply w_done
          apply w_ret
          refine finV [.agg [.bool false, .slice a1 (ks.take m).length c1, .slice none 0 0, .slice a2 (is.take (m + 1)).length c2].toArray, .agg [.bool false, .slice a3 (ks.drop (m + 1)).length c3, .slice none 0 0, .slice a4 (is.drop (m + 1)).length c4].toArray, u5, .int .i64 0] (L' := (Lk ++ [emp] ++ [gl]) ++ (Rk ++ [emp] ++ [gr]) ++ [g]) ⟨res_cell 3 rfl rfl rfl, res_cell 2 rfl rfl rfl, res_tmp rfl, res_tmp rfl, trivial⟩ (hvs _ g) ⟨rfl, _, _, _, _, _, g, by rw [hcan]; rfl, rfl, ?_⟩
          simp only [splitL, splitR, splitK, hcan, if_true, hm, Bool.false_eq_true, if_false, Nat.add_sub_cancel]
          exact ⟨⟨_, _, _, Lk, [emp], gl, rfl, o1, OBss.nil, o2, rfl⟩, ⟨_, _, _, Rk, [emp], gr, rfl, o3, OBss.nil, o4, rfl⟩, by simpa [hk1] using hg⟩
        · refine w_call0 rfl (h4 (xs := ks[m]) hw5 hxl) (fun u5 d5 Lg _ ⟨hdd, g, hLg, hg⟩ => ?_)
          subst hdd; subst hLg
          apply w_ldb 3; rfl; rfl; rfl
          refine w_st 2 rfl rfl rfl rfl (by simp [Value.cells]) rfl ?_
          refine w_st 1 rfl rfl rfl rfl (by simp [Value.cells]) rfl ?_
          apply w_mv
          apply w_mvi; rfl
          apply w_done
          apply w_ret
          refine finV [.agg [.bool false, .slice a1 (ks.take m).length c1, .slice none 0 0, .slice a2 (is.take (m + 1)).length c2].toArray, .agg [.bool false, .slice a3 (ks.drop (m + 1)).length c3, .slice none 0 0, .slice a4 (is.drop (m + 1)).length c4].toArray, u5, .int .i64 0] (L' := (Lk ++ [emp] ++ [gl]) ++ (Rk ++ [emp] ++ [gr]) ++ [g]) ⟨res_cell 3 rfl rfl rfl, res_cell 2 rfl rfl rfl, res_tmp rfl, res_tmp rfl, trivial⟩ (hvs _ g) ⟨rfl, _, _, _, _, _, g, by rw [hcan]; rfl, rfl, ?_⟩
          simp only [splitL, splitR, splitK, hcan, if_true, hm, Bool.false_eq_true, if_false, Nat.add_sub_cancel]
          exact ⟨⟨_, _, _, Lk, [emp], gl, rfl, o1, OBss.nil, o2, rfl⟩, ⟨_, _, _, Rk, [emp], gr, rfl, o3, OBss.nil, o4, rfl⟩, by simpa [hk1] using hg⟩
      · refine w_call0 rfl (h4 (xs := ks[m]) hw5 hxl) (fun u5 d5 Lg _ ⟨hdd, g, hLg, hg⟩ => ?_)
        subst hdd; subst hLg
        refine w_alt ?_ ?_
        · apply w_ldb 3; rfl; rfl; rfl
          refine w_alt ?_ ?_
          · apply w_ldb 2; rfl; rfl; rfl
            refine w_st 2 rfl rfl rfl rfl (by simp [Value.cells]) rfl ?_
            refine w_st 1 rfl rfl rfl rfl (by simp [Value.cells]) rfl ?_
            apply w_mv
            apply w_mvi; rfl
            apply w_done
            apply w_ret
            refine finV [.agg [.bool false, .slice a1 (ks.take m).length c1, .slice none 0 0, .slice a2 (is.take (m + 1)).length c2].toArray, .agg [.bool false, .slice a3 (ks.drop (m + 1)).length c3, .slice none 0 0, .slice a4 (is.drop (m + 1)).length c4].toArray, u5, .int .i64 0] (L' := (Lk ++ [emp] ++ [gl]) ++ (Rk ++ [emp] ++ [gr]) ++ [g]) ⟨res_cell 3 rfl rfl rfl, res_cell 2 rfl rfl rfl, res_tmp rfl, res_tmp rfl, trivial⟩ (hvs _ g) ⟨rfl, _, _, _, _, _, g, by rw [hcan]; rfl, rfl, ?_⟩
            simp only [splitL, splitR, splitK, hcan, if_true, hm, Bool.false_eq_true, if_false, Nat.add_sub_cancel]
            exact ⟨⟨_, _, _, Lk, [emp], gl, rfl, o1, OBss.nil, o2, rfl⟩, ⟨_, _, _, Rk, [emp], gr, rfl, o3, OBss.nil, o4, rfl⟩, by simpa [hk1] using hg⟩
          · refine w_st 2 rfl rfl rfl rfl (by simp [Value.cells]) rfl ?_
            apply w_ldb 2; rfl; rfl; rfl
            refine w_st 1 rfl rfl rfl rfl (by simp [Value.cells]) rfl ?_
            apply w_mv
            apply w_mvi; rfl
            apply w_done
            apply w_ret
            refine finV [.agg [.bool false, .slice a1 (ks.take m).length c1, .slice none 0 0, .slice a2 (is.take (m + 1)).length c2].toArray, .agg [.bool false, .slice a3 (ks.drop (m + 1)).length c3, .slice none 0 0, .slice a4 (is.drop (m + 1)).length c4].toArray, u5, .int .i64 0] (L' := (Lk ++ [emp] ++ [gl]) ++ (Rk ++ [emp] ++ [gr]) ++ [g]) ⟨res_cell 3 rfl rfl rfl, res_cell 2 rfl rfl rfl, res_tmp rfl, res_tmp rfl, trivial⟩ (hvs _ g) ⟨rfl, _, _, _, _, _, g, by rw [hcan]; rfl, rfl, ?_⟩
            simp only [splitL, splitR, splitK, hcan, if_true, hm, Bool.false_eq_true, if_false, Nat.add_sub_cancel]
            exact ⟨⟨_, _, _, Lk, [emp], gl, rfl, o1, OBss.nil, o2, rfl⟩, ⟨_, _, _, Rk, [emp], gr, rfl, o3, OBss.nil, o4, rfl⟩, by simpa [hk1] using hg⟩
        · apply w_ldb 2; rfl; rfl; rfl
          apply w_ldb 3; rfl; rfl; rfl
          refine w_st 2 rfl rfl rfl rfl (by simp [Value.cells]) rfl ?_
          refine w_st 1 rfl rfl rfl rfl (by simp [Value.cells]) rfl ?_
          apply w_mv
          apply w_mvi; rfl
          apply w_done
          apply w_ret
          refine finV [.agg [.bool false, .slice a1 (ks.take m).length c1, .slice none 0 0, .slice a2 (is.take (m + 1)).length c2].toArray, .agg [.bool false, .slice a3 (ks.drop (m + 1)).length c3, .slice none 0 0, .slice a4 (is.drop (m + 1)).length c4].toArray, u5, .int .i64 0] (L' := (Lk ++ [emp] ++ [gl]) ++ (Rk ++ [emp] ++ [gr]) ++ [g]) ⟨res_cell 3 rfl rfl rfl, res_cell 2 rfl rfl rfl, res_tmp rfl, res_tmp rfl, trivial⟩ (hvs _ g) ⟨rfl, _, _, _, _, _, g, by rw [hcan]; rfl, rfl, ?_⟩
          simp only [splitL, splitR, splitK, hcan, if_true, hm, Bool.false_eq_true, if_false, Nat.add_sub_cancel]
          exact ⟨⟨_, _, _, Lk, [emp], gl, rfl, o1, OBss.nil, o2, rfl⟩, ⟨_, _, _, Rk, [emp], gr, rfl, o3, OBss.nil, o4, rfl⟩, by simpa [hk1] using hg⟩
end Go.Gk.Node
