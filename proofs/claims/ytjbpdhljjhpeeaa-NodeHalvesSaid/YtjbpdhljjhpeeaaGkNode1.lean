/-
  Nodes: contracts of the program's and the reference's functions that measure one.
-/
import Derived.Test.YtjbpdhljjhpeeaaGk8
namespace Go.Gk.Node
open Go Go.Gk
attribute [local irreducible] gwp gws

structure NodeD where
  leaf : Bool
  keys : List (List UInt8)
  vals : List (List UInt8)
  kids : List Int

def RNode (d : PHeap) (cs : List Value) (n : NodeD) : Prop :=
  ∃ kv vv iv, cs = [.bool n.leaf, kv, vv, iv] ∧ RBss d kv n.keys ∧ RBss d vv n.vals ∧ RInts d iv n.kids

def klen (n : NodeD) (i : Nat) : Nat := (n.keys.getD i []).length
def vlen (n : NodeD) (i : Nat) : Nat := (n.vals.getD i []).length
def cellD (n : NodeD) (i : Nat) : Nat := if n.leaf then 2 + klen n i + vlen n i else 1 + klen n i

def CellOk (P : Program) (f : FuncId) : Prop := ∀ {d : PHeap} {cs : List Value} {n : NodeD}, RNode d cs n → ∀ i : Nat, i < n.keys.length → GPure P f [.agg cs.toArray, .int .i64 i] d (.int .i64 (cellD n i))

def g_node_Node_cell : GFun :=
 ⟨44, [(.tmp 4)],
 (.seq
 (.reg false (.op false ⟨(some 2), none, (.box (.tmp 0))⟩
  (.op false ⟨(some 4), none, (.mv (.const (.int .i64 0)))⟩ .done)))
 (.seq (.seq
 (.reg false (.op false ⟨(some 5), none, (.fld 0 (.tmp 2))⟩
  (.op false ⟨(some 6), none, (.ld none (.tmp 5))⟩
  (.op false ⟨(some 7), none, (.mv (.tmp 6))⟩
  (.op false ⟨(some 8), (some (7, true)), (.mv (.tmp 1))⟩
  (.op false ⟨(some 9), (some (7, true)), (.fld 2 (.tmp 2))⟩
  (.op false ⟨(some 10), (some (7, true)), (.ld none (.tmp 9))⟩
  (.op false ⟨(some 11), (some (7, true)), (.len (.tmp 10))⟩
  (.op false ⟨(some 12), (some (7, true)), (.bin .lss (.tmp 8) (.tmp 11))⟩
  (.op false ⟨(some 13), none, (.pick (.tmp 7) (.tmp 12) (.const (.bool false)))⟩ .done)))))))))) (.cond (.tmp 13)
 (.seq
 (.reg true (.op true ⟨(some 14), none, (.fld 1 (.tmp 2))⟩
  (.op true ⟨(some 15), none, (.ld none (.tmp 14))⟩
  (.op true ⟨(some 16), none, (.mv (.tmp 1))⟩
  (.op true ⟨(some 17), none, (.idx 1 (.tmp 15) (.tmp 16))⟩
  (.op true ⟨(some 18), none, (.ld none (.tmp 17))⟩
  (.op true ⟨(some 19), none, (.len (.tmp 18))⟩
  (.op true ⟨(some 20), none, (.bin .add (.const (.int .i64 2)) (.tmp 19))⟩
  (.op true ⟨(some 21), none, (.fld 2 (.tmp 2))⟩
  (.op true ⟨(some 22), none, (.ld none (.tmp 21))⟩
  (.op true ⟨(some 23), none, (.mv (.tmp 1))⟩
  (.op true ⟨(some 24), none, (.idx 1 (.tmp 22) (.tmp 23))⟩
  (.op true ⟨(some 25), none, (.ld none (.tmp 24))⟩
  (.op true ⟨(some 26), none, (.len (.tmp 25))⟩
  (.op true ⟨(some 27), none, (.bin .add (.tmp 20) (.tmp 26))⟩
  (.bar (.op true ⟨(some 4), none, (.mv (.tmp 27))⟩ .done))))))))))))))))) .ret) .skip))
 (.seq (.seq
 (.reg false (.op false ⟨(some 28), none, (.fld 0 (.tmp 2))⟩
  (.op false ⟨(some 29), none, (.ld none (.tmp 28))⟩ .done))) (.cond (.tmp 29)
 (.seq
 (.reg false (.op false ⟨(some 30), none, (.fld 1 (.tmp 2))⟩
  (.op false ⟨(some 31), none, (.ld none (.tmp 30))⟩
  (.op false ⟨(some 32), none, (.mv (.tmp 1))⟩
  (.op false ⟨(some 33), none, (.idx 1 (.tmp 31) (.tmp 32))⟩
  (.op false ⟨(some 34), none, (.ld none (.tmp 33))⟩
  (.op false ⟨(some 35), none, (.len (.tmp 34))⟩
  (.op false ⟨(some 36), none, (.bin .add (.const (.int .i64 2)) (.tmp 35))⟩
  (.op false ⟨(some 4), none, (.mv (.tmp 36))⟩ .done))))))))) .ret) .skip))
 (.seq
 (.reg false (.op false ⟨(some 37), none, (.fld 1 (.tmp 2))⟩
  (.op false ⟨(some 38), none, (.ld none (.tmp 37))⟩
  (.op false ⟨(some 39), none, (.mv (.tmp 1))⟩
  (.op false ⟨(some 40), none, (.idx 1 (.tmp 38) (.tmp 39))⟩
  (.op false ⟨(some 41), none, (.ld none (.tmp 40))⟩
  (.op false ⟨(some 42), none, (.len (.tmp 41))⟩
  (.op false ⟨(some 43), none, (.bin .add (.const (.int .i64 1)) (.tmp 42))⟩
  (.op false ⟨(some 4), none, (.mv (.tmp 43))⟩ .done))))))))) .ret))))⟩

theorem cell_ok {P : Program} {f : FuncId} (hd : dec P f = some g_node_Node_cell) : CellOk P f := by
  intro d cs n hn i hi
  obtain ⟨lf, ks, vs, is⟩ := n
  obtain ⟨kv, vv, iv, rfl, hk, hv, hiv⟩ : ∃ kv vv iv, cs = [.bool lf, kv, vv, iv] ∧ RBss d kv ks ∧ RBss d vv vs ∧ RInts d iv is := hn
  simp only at hi
  refine GCall_of hd (Nat.le_of_ble_eq_true rfl) ?_
  obtain ⟨ka, kc, kb, ko, rfl, kA, kS, kN, kl, km, kB, kx⟩ := hk
  obtain ⟨va, vc, vb, vo, rfl, vA, vS, vN, vl, vm, vB, vx⟩ := hv
  obtain ⟨c0, hc0, hD0, ⟨u0, rfl, hu0⟩⟩ := kx i hi
  replace hD0 := hD0.one
  obtain ⟨ua, uc, ub, uo, rfl, uA, uS, uN, ul, um, uB, ux⟩ := hu0
  dsimp only [cellD, klen, vlen] at *
  have hkl : (ks.getD i []).length = ks[i].length := by simp [hi]
  rw [hkl]
  cases lf
  · show gwp P _ _ _ _ _
    (apply w_sq; apply w_reg; apply w_boxa; rfl; intro _ _; apply w_mvi; rfl; apply w_done0; apply w_sq; apply w_sq; apply w_reg; apply w_fld; rfl; apply w_ld; rfl; exact hc_i 0 rfl rfl; apply w_mvb; rfl; apply w_gF; rfl; apply w_gF; rfl; apply w_gF; rfl; apply w_gF; rfl; apply w_gF; rfl; apply w_pickFb; rfl; rfl; apply w_done0; apply w_ifF; rfl; apply w_skip; apply w_sq; apply w_sq; apply w_reg; apply w_fld; rfl; apply w_ld; rfl; exact hc_i 0 rfl rfl; apply w_done0; apply w_ifF; rfl; apply w_skip; apply w_sq; apply w_reg; apply w_fld; rfl; apply w_ld; rfl; exact hc_i 0 rfl rfl; apply w_mvi; rfl; apply w_idx; rfl; rfl; rfl; omega; assumption; apply w_ld; rfl; exact hc_d (by assumption); apply w_len; rfl; apply w_add; rfl; rfl; omega; omega; apply w_mvi; rfl; apply w_done0; apply w_ret)
    (apply finPi; rfl)
    simp
  · by_cases hv : i < vs.length
    · obtain ⟨c1, hc1, hD1, ⟨u1, rfl, hu1⟩⟩ := vx i hv
      replace hD1 := hD1.one
      obtain ⟨wa, wc, wb, wo, rfl, wA, wS, wN, wl, wm, wB, wx⟩ := hu1
      show gwp P _ _ _ _ _
      (apply w_sq; apply w_reg; apply w_boxa; rfl; intro _ _; apply w_mvi; rfl; apply w_done0; apply w_sq; apply w_sq; apply w_reg; apply w_fld; rfl; apply w_ld; rfl; exact hc_i 0 rfl rfl; apply w_mvb; rfl; apply w_gT; rfl; apply w_mvi; rfl; apply w_gT; rfl; apply w_fld; rfl; apply w_gT; rfl; apply w_ld; rfl; exact hc_i 0 rfl rfl; apply w_gT; rfl; apply w_len; rfl; apply w_gT; rfl; apply w_lss; rfl; rfl; apply w_pickTb; rfl; rfl; apply w_done0; refine w_ifdT rfl (by omega) ?_; apply w_sq; apply w_drawn; apply w_fld; rfl; apply w_ld; rfl; exact hc_i 0 rfl rfl; apply w_mvi; rfl; apply w_idx; rfl; rfl; rfl; omega; assumption; apply w_ld; rfl; exact hc_d (by assumption); apply w_len; rfl; apply w_add; rfl; rfl; omega; omega; apply w_fld; rfl; apply w_ld; rfl; exact hc_i 0 rfl rfl; apply w_mvi; rfl; apply w_idx; rfl; rfl; rfl; omega; assumption; apply w_ld; rfl; exact hc_d (by assumption); apply w_len; rfl; apply w_add; rfl; rfl; omega; omega; apply w_bar; apply w_mvi; rfl; apply w_done0; apply w_ret)
      (apply finPi; rfl)
      simp [hv]
    · show gwp P _ _ _ _ _
      (apply w_sq; apply w_reg; apply w_boxa; rfl; intro _ _; apply w_mvi; rfl; apply w_done0; apply w_sq; apply w_sq; apply w_reg; apply w_fld; rfl; apply w_ld; rfl; exact hc_i 0 rfl rfl; apply w_mvb; rfl; apply w_gT; rfl; apply w_mvi; rfl; apply w_gT; rfl; apply w_fld; rfl; apply w_gT; rfl; apply w_ld; rfl; exact hc_i 0 rfl rfl; apply w_gT; rfl; apply w_len; rfl; apply w_gT; rfl; apply w_lss; rfl; rfl; apply w_pickTb; rfl; rfl; apply w_done0; refine w_ifdF rfl (by omega) ?_; apply w_skip; apply w_sq; apply w_sq; apply w_reg; apply w_fld; rfl; apply w_ld; rfl; exact hc_i 0 rfl rfl; apply w_done0; apply w_ifT; rfl; apply w_sq; apply w_reg; apply w_fld; rfl; apply w_ld; rfl; exact hc_i 0 rfl rfl; apply w_mvi; rfl; apply w_idx; rfl; rfl; rfl; omega; assumption; apply w_ld; rfl; exact hc_d (by assumption); apply w_len; rfl; apply w_add; rfl; rfl; omega; omega; apply w_mvi; rfl; apply w_done0; apply w_ret)
      (apply finPi; rfl)
      simp [List.getElem?_eq_none (Nat.le_of_not_lt hv)]

def g_thimbleref20_cell : GFun :=
 ⟨31, [(.tmp 4)],
 (.seq
 (.reg false (.op false ⟨(some 2), none, (.box (.tmp 0))⟩
  (.op false ⟨(some 4), none, (.mv (.const (.int .i64 0)))⟩ .done)))
 (.seq
 (.reg false (.op false ⟨(some 6), none, (.fld 1 (.tmp 2))⟩
  (.op false ⟨(some 7), none, (.ld none (.tmp 6))⟩
  (.op false ⟨(some 8), none, (.mv (.tmp 1))⟩
  (.op false ⟨(some 9), none, (.idx 1 (.tmp 7) (.tmp 8))⟩
  (.op false ⟨(some 10), none, (.ld none (.tmp 9))⟩
  (.op false ⟨(some 11), none, (.len (.tmp 10))⟩
  (.op false ⟨(some 12), none, (.bin .add (.const (.int .i64 1)) (.tmp 11))⟩
  (.op false ⟨(some 5), none, (.mv (.tmp 12))⟩ .done)))))))))
 (.seq (.seq
 (.reg false (.op false ⟨(some 13), none, (.fld 0 (.tmp 2))⟩
  (.op false ⟨(some 14), none, (.ld none (.tmp 13))⟩ .done))) (.cond (.tmp 14)
 (.seq
 (.reg false (.op false ⟨(some 15), none, (.mv (.tmp 5))⟩
  (.op false ⟨(some 16), none, (.bin .add (.tmp 15) (.const (.int .i64 1)))⟩
  (.op false ⟨(some 5), none, (.mv (.tmp 16))⟩ .done))))
 (.seq
 (.reg false (.op false ⟨(some 17), none, (.mv (.tmp 1))⟩
  (.op false ⟨(some 18), none, (.fld 2 (.tmp 2))⟩
  (.op false ⟨(some 19), none, (.ld none (.tmp 18))⟩
  (.op false ⟨(some 20), none, (.len (.tmp 19))⟩
  (.op false ⟨(some 21), none, (.bin .lss (.tmp 17) (.tmp 20))⟩ .done)))))) (.cond (.tmp 21)
 (.reg false (.op false ⟨(some 22), none, (.mv (.tmp 5))⟩
  (.op false ⟨(some 23), none, (.fld 2 (.tmp 2))⟩
  (.op false ⟨(some 24), none, (.ld none (.tmp 23))⟩
  (.op false ⟨(some 25), none, (.mv (.tmp 1))⟩
  (.op false ⟨(some 26), none, (.idx 1 (.tmp 24) (.tmp 25))⟩
  (.op false ⟨(some 27), none, (.ld none (.tmp 26))⟩
  (.op false ⟨(some 28), none, (.len (.tmp 27))⟩
  (.op false ⟨(some 29), none, (.bin .add (.tmp 22) (.tmp 28))⟩
  (.op false ⟨(some 5), none, (.mv (.tmp 29))⟩ .done)))))))))) .skip))) .skip))
 (.seq
 (.reg false (.op false ⟨(some 30), none, (.mv (.tmp 5))⟩
  (.op false ⟨(some 4), none, (.mv (.tmp 30))⟩ .done))) .ret))))⟩

theorem rcell_ok {P : Program} {f : FuncId} (hd : dec P f = some g_thimbleref20_cell) : CellOk P f := by
  intro d cs n hn i hi
  obtain ⟨lf, ks, vs, is⟩ := n
  obtain ⟨kv, vv, iv, rfl, hk, hv, hiv⟩ : ∃ kv vv iv, cs = [.bool lf, kv, vv, iv] ∧ RBss d kv ks ∧ RBss d vv vs ∧ RInts d iv is := hn
  simp only at hi
  refine GCall_of hd (Nat.le_of_ble_eq_true rfl) ?_
  obtain ⟨ka, kc, kb, ko, rfl, kA, kS, kN, kl, km, kB, kx⟩ := hk
  obtain ⟨va, vc, vb, vo, rfl, vA, vS, vN, vl, vm, vB, vx⟩ := hv
  obtain ⟨c0, hc0, hD0, ⟨u0, rfl, hu0⟩⟩ := kx i hi
  replace hD0 := hD0.one
  obtain ⟨ua, uc, ub, uo, rfl, uA, uS, uN, ul, um, uB, ux⟩ := hu0
  dsimp only [cellD, klen, vlen] at *
  have hkl : (ks.getD i []).length = ks[i].length := by simp [hi]
  rw [hkl]
  cases lf
  · show gwp P _ _ _ _ _
    (apply w_sq; apply w_reg; apply w_boxa; rfl; intro _ _; apply w_mvi; rfl; apply w_done0; apply w_sq; apply w_reg; apply w_fld; rfl; apply w_ld; rfl; exact hc_i 0 rfl rfl; apply w_mvi; rfl; apply w_idx; rfl; rfl; rfl; omega; assumption; apply w_ld; rfl; exact hc_d (by assumption); apply w_len; rfl; apply w_add; rfl; rfl; omega; omega; apply w_mvi; rfl; apply w_done0; apply w_sq; apply w_sq; apply w_reg; apply w_fld; rfl; apply w_ld; rfl; exact hc_i 0 rfl rfl; apply w_done0; apply w_ifF; rfl; apply w_skip; apply w_sq; apply w_reg; apply w_mvi; rfl; apply w_mvi; rfl; apply w_done0; apply w_ret)
    (apply finPi; rfl)
    simp
  · by_cases hv : i < vs.length
    · obtain ⟨c1, hc1, hD1, ⟨u1, rfl, hu1⟩⟩ := vx i hv
      replace hD1 := hD1.one
      obtain ⟨wa, wc, wb, wo, rfl, wA, wS, wN, wl, wm, wB, wx⟩ := hu1
      show gwp P _ _ _ _ _
      (apply w_sq; apply w_reg; apply w_boxa; rfl; intro _ _; apply w_mvi; rfl; apply w_done0; apply w_sq; apply w_reg; apply w_fld; rfl; apply w_ld; rfl; exact hc_i 0 rfl rfl; apply w_mvi; rfl; apply w_idx; rfl; rfl; rfl; omega; assumption; apply w_ld; rfl; exact hc_d (by assumption); apply w_len; rfl; apply w_add; rfl; rfl; omega; omega; apply w_mvi; rfl; apply w_done0; apply w_sq; apply w_sq; apply w_reg; apply w_fld; rfl; apply w_ld; rfl; exact hc_i 0 rfl rfl; apply w_done0; apply w_ifT; rfl; apply w_sq; apply w_reg; apply w_mvi; rfl; apply w_add; rfl; rfl; omega; omega; apply w_mvi; rfl; apply w_done0; apply w_sq; apply w_reg; apply w_mvi; rfl; apply w_fld; rfl; apply w_ld; rfl; exact hc_i 0 rfl rfl; apply w_len; rfl; apply w_lss; rfl; rfl; apply w_done0; refine w_ifdT rfl (by omega) ?_; apply w_reg; apply w_mvi; rfl; apply w_fld; rfl; apply w_ld; rfl; exact hc_i 0 rfl rfl; apply w_mvi; rfl; apply w_idx; rfl; rfl; rfl; omega; assumption; apply w_ld; rfl; exact hc_d (by assumption); apply w_len; rfl; apply w_add; rfl; rfl; omega; omega; apply w_mvi; rfl; apply w_done0; apply w_sq; apply w_reg; apply w_mvi; rfl; apply w_mvi; rfl; apply w_done0; apply w_ret)
      (apply finPi; rfl)
      simp [hv]; omega
    · show gwp P _ _ _ _ _
      (apply w_sq; apply w_reg; apply w_boxa; rfl; intro _ _; apply w_mvi; rfl; apply w_done0; apply w_sq; apply w_reg; apply w_fld; rfl; apply w_ld; rfl; exact hc_i 0 rfl rfl; apply w_mvi; rfl; apply w_idx; rfl; rfl; rfl; omega; assumption; apply w_ld; rfl; exact hc_d (by assumption); apply w_len; rfl; apply w_add; rfl; rfl; omega; omega; apply w_mvi; rfl; apply w_done0; apply w_sq; apply w_sq; apply w_reg; apply w_fld; rfl; apply w_ld; rfl; exact hc_i 0 rfl rfl; apply w_done0; apply w_ifT; rfl; apply w_sq; apply w_reg; apply w_mvi; rfl; apply w_add; rfl; rfl; omega; omega; apply w_mvi; rfl; apply w_done0; apply w_sq; apply w_reg; apply w_mvi; rfl; apply w_fld; rfl; apply w_ld; rfl; exact hc_i 0 rfl rfl; apply w_len; rfl; apply w_lss; rfl; rfl; apply w_done0; refine w_ifdF rfl (by omega) ?_; apply w_skip; apply w_sq; apply w_reg; apply w_mvi; rfl; apply w_mvi; rfl; apply w_done0; apply w_ret)
      (apply finPi; rfl)
      simp [List.getElem?_eq_none (Nat.le_of_not_lt hv)]; omega

/-- The cells of the first k keys. -/
def csum (n : NodeD) : Nat → Nat
  | 0 => 0
  | k + 1 => csum n k + cellD n k
theorem csum_mono (n : NodeD) : ∀ {k m : Nat}, k ≤ m → csum n k ≤ csum n m := by
  intro k m h
  induction h with
  | refl => exact Nat.le_refl _
  | step _ ih => simp only [csum]; omega
def sizeD (n : NodeD) : Nat := 2 + (if n.leaf then 0 else 2 * n.kids.length) + csum n n.keys.length

def SizeOk (P : Program) (f : FuncId) : Prop := ∀ {d : PHeap} {cs : List Value} {n : NodeD}, RNode d cs n → sizeD n ≤ 1000000000000 → GPure P f [.agg cs.toArray] d (.int .i64 (sizeD n))

def g_node_Size (f_node_Node_cell : Nat) : GFun :=
 ⟨27, [(.tmp 2)],
 (.seq
 (.reg false (.op false ⟨(some 1), none, (.box (.tmp 0))⟩
  (.op false ⟨(some 2), none, (.mv (.const (.int .i64 0)))⟩ .done)))
 (.seq
 (.reg false (.op false ⟨(some 3), none, (.mv (.const (.int .i64 2)))⟩ .done))
 (.seq (.seq
 (.reg false (.op false ⟨(some 5), none, (.fld 0 (.tmp 1))⟩
  (.op false ⟨(some 6), none, (.ld none (.tmp 5))⟩
  (.op false ⟨(some 7), none, (.un .not (.tmp 6))⟩ .done)))) (.cond (.tmp 7)
 (.reg false (.op false ⟨(some 8), none, (.mv (.tmp 3))⟩
  (.op false ⟨(some 9), none, (.fld 3 (.tmp 1))⟩
  (.op false ⟨(some 10), none, (.ld none (.tmp 9))⟩
  (.op false ⟨(some 11), none, (.len (.tmp 10))⟩
  (.op false ⟨(some 12), none, (.bin .mul (.const (.int .i64 2)) (.tmp 11))⟩
  (.op false ⟨(some 13), none, (.bin .add (.tmp 8) (.tmp 12))⟩
  (.op false ⟨(some 3), none, (.mv (.tmp 13))⟩ .done)))))))) .skip))
 (.seq (.seq
 (.reg false (.op false ⟨(some 14), none, (.fld 1 (.tmp 1))⟩
  (.op false ⟨(some 15), none, (.ld none (.tmp 14))⟩
  (.op false ⟨(some 16), none, (.len (.tmp 15))⟩
  (.op false ⟨(some 17), none, (.mv (.const (.int .i64 0)))⟩ .done))))) (.block 0 (.loop
 (.seq
 (.reg false (.op false ⟨(some 18), none, (.bin .lss (.tmp 17) (.tmp 16))⟩ .done))
 (.seq (.cond (.tmp 18) .skip (.exit 0))
 (.seq (.block 1
 (.seq
 (.reg false (.op false ⟨(some 19), none, (.mv (.tmp 17))⟩
  (.op false ⟨(some 4), none, (.mv (.tmp 19))⟩ .done)))
 (.reg false (.op false ⟨(some 20), none, (.mv (.tmp 3))⟩
  (.op false ⟨(some 21), none, (.ld (some 4) (.tmp 1))⟩
  (.op false ⟨(some 22), none, (.mv (.tmp 4))⟩
  (.op false ⟨(some 23), none, (.call f_node_Node_cell [(.tmp 21), (.tmp 22)])⟩
  (.op false ⟨(some 24), none, (.bin .add (.tmp 20) (.tmp 23))⟩
  (.op false ⟨(some 3), none, (.mv (.tmp 24))⟩ .done)))))))))
 (.reg false (.op false ⟨(some 25), none, (.bin .add (.tmp 17) (.const (.int .i64 1)))⟩
  (.op false ⟨(some 17), none, (.mv (.tmp 25))⟩ .done)))))))))
 (.seq
 (.reg false (.op false ⟨(some 26), none, (.mv (.tmp 3))⟩
  (.op false ⟨(some 2), none, (.mv (.tmp 26))⟩ .done))) .ret)))))⟩

theorem size_ok {P : Program} {f fc : FuncId} (hd : dec P f = some (g_node_Size fc)) (hc : CellOk P fc) : SizeOk P f := by
  intro d cs n hn hb
  have hn' := hn
  obtain ⟨lf, ks, vs, is⟩ := n
  obtain ⟨kv, vv, iv, rfl, hk, hv, hiv⟩ : ∃ kv vv iv, cs = [.bool lf, kv, vv, iv] ∧ RBss d kv ks ∧ RBss d vv vs ∧ RInts d iv is := hn
  refine GCall_of hd (Nat.le_of_ble_eq_true rfl) ?_
  obtain ⟨ka, kc, kb, ko, rfl, kA, kS, kN, kl, km, kB, kx⟩ := hk
  obtain ⟨ia, ic, ib, io, rfl, iA, iS, iN, il, im, iB, ix⟩ := hiv
  have hm : ∀ k, k ≤ ks.length → csum ⟨lf, ks, vs, is⟩ k ≤ csum ⟨lf, ks, vs, is⟩ ks.length := fun k hk => csum_mono _ hk
  simp only [sizeD] at hb ⊢
  show gwp P _ _ _ _ _
  cases lf
  · obtain ⟨z, hz⟩ : ∃ z, z = 2 + (if false then 0 else 2 * is.length) := ⟨_, rfl⟩
    simp only [Bool.false_eq_true, if_false, if_true] at hz hb
    (apply w_sq; apply w_reg; apply w_boxa; rfl; intro _ _; apply w_mvi; rfl; apply w_done0; apply w_sq; apply w_reg; apply w_mvi; rfl; apply w_done0; apply w_sq; apply w_sq; apply w_reg; apply w_fld; rfl; apply w_ld; rfl; exact hc_i 0 rfl rfl; apply w_not; rfl; apply w_done0; apply w_ifT; rfl; apply w_reg; apply w_mvi; rfl; apply w_fld; rfl; apply w_ld; rfl; exact hc_i 0 rfl rfl; apply w_len; rfl; apply w_mul; rfl; rfl; omega; omega; apply w_add; rfl; rfl; omega; omega; apply w_mvi; rfl; apply w_done0; apply w_sq; apply w_sq; apply w_reg; apply w_fld; rfl; apply w_ld; rfl; exact hc_i 0 rfl rfl; apply w_len; rfl; apply w_mvi; rfl; apply w_done0; apply w_block)
    rename_i b T
    refine w_loopN (α := Nat) (fun k => [(1, .pointer (some ⟨b, 0, none⟩)), (3, .int .i64 (z + csum ⟨false, ks, vs, is⟩ k : Nat)), (16, .int .i64 ks.length), (17, .int .i64 k)])
      (fun _ => [bx b T [.bool false, .slice ka ks.length kc, vv, .slice ia is.length ic]]) (fun k => k ≤ ks.length) (fun k => ks.length - k) 0 ⟨rfl, int_eq (by simp [csum, hz]), rfl, rfl, trivial⟩ rfl (Nat.zero_le _) ?_
    intro k ρ hk
    have h1 := hm k hk
    by_cases h : k < ks.length
    · have h2 := hm (k + 1) h
      simp only [csum] at h1 h2 hb
      (apply w_sq; apply w_reg; apply w_lss; rfl; rfl; apply w_done0; apply w_sq; refine w_ifdT rfl (by omega) ?_; apply w_skip; apply w_sq; apply w_block; apply w_sq; apply w_reg; apply w_mvi; rfl; apply w_mvi; rfl; apply w_done0; apply w_reg; apply w_mvi; rfl; apply w_ldb 0; rfl; rfl; rfl; apply w_mvi; rfl)
      refine w_pure rfl (hc hn' k h) ?_
      (apply w_add; rfl; rfl; omega; omega; apply w_mvi; rfl; apply w_done0; apply w_reg; apply w_add; rfl; rfl; omega; omega; apply w_mvi; rfl; apply w_done0)
      exact ⟨k + 1, by omega, ⟨rfl, int_eq (by simp [csum]; omega), rfl, rfl, trivial⟩, rfl, rfl, h⟩
    · have e : k = ks.length := by omega
      subst e
      (apply w_sq; apply w_reg; apply w_lss; rfl; rfl; apply w_done0; apply w_sq; refine w_ifdF rfl (by omega) ?_; apply w_exit; apply w_sq; apply w_reg; apply w_mvi; rfl; apply w_mvi; rfl; apply w_done0; apply w_ret)
      (apply finPi; rfl)
      simp; omega
  · obtain ⟨z, hz⟩ : ∃ z, z = 2 + (if true then 0 else 2 * is.length) := ⟨_, rfl⟩
    simp only [Bool.false_eq_true, if_false, if_true] at hz hb
    (apply w_sq; apply w_reg; apply w_boxa; rfl; intro _ _; apply w_mvi; rfl; apply w_done0; apply w_sq; apply w_reg; apply w_mvi; rfl; apply w_done0; apply w_sq; apply w_sq; apply w_reg; apply w_fld; rfl; apply w_ld; rfl; exact hc_i 0 rfl rfl; apply w_not; rfl; apply w_done0; apply w_ifF; rfl; apply w_skip; apply w_sq; apply w_sq; apply w_reg; apply w_fld; rfl; apply w_ld; rfl; exact hc_i 0 rfl rfl; apply w_len; rfl; apply w_mvi; rfl; apply w_done0; apply w_block)
    rename_i b T
    refine w_loopN (α := Nat) (fun k => [(1, .pointer (some ⟨b, 0, none⟩)), (3, .int .i64 (z + csum ⟨true, ks, vs, is⟩ k : Nat)), (16, .int .i64 ks.length), (17, .int .i64 k)])
      (fun _ => [bx b T [.bool true, .slice ka ks.length kc, vv, .slice ia is.length ic]]) (fun k => k ≤ ks.length) (fun k => ks.length - k) 0 ⟨rfl, int_eq (by simp [csum, hz]), rfl, rfl, trivial⟩ rfl (Nat.zero_le _) ?_
    intro k ρ hk
    have h1 := hm k hk
    by_cases h : k < ks.length
    · have h2 := hm (k + 1) h
      simp only [csum] at h1 h2 hb
      (apply w_sq; apply w_reg; apply w_lss; rfl; rfl; apply w_done0; apply w_sq; refine w_ifdT rfl (by omega) ?_; apply w_skip; apply w_sq; apply w_block; apply w_sq; apply w_reg; apply w_mvi; rfl; apply w_mvi; rfl; apply w_done0; apply w_reg; apply w_mvi; rfl; apply w_ldb 0; rfl; rfl; rfl; apply w_mvi; rfl)
      refine w_pure rfl (hc hn' k h) ?_
      (apply w_add; rfl; rfl; omega; omega; apply w_mvi; rfl; apply w_done0; apply w_reg; apply w_add; rfl; rfl; omega; omega; apply w_mvi; rfl; apply w_done0)
      exact ⟨k + 1, by omega, ⟨rfl, int_eq (by simp [csum]; omega), rfl, rfl, trivial⟩, rfl, rfl, h⟩
    · have e : k = ks.length := by omega
      subst e
      (apply w_sq; apply w_reg; apply w_lss; rfl; rfl; apply w_done0; apply w_sq; refine w_ifdF rfl (by omega) ?_; apply w_exit; apply w_sq; apply w_reg; apply w_mvi; rfl; apply w_mvi; rfl; apply w_done0; apply w_ret)
      (apply finPi; rfl)
      simp; omega
end Go.Gk.Node
