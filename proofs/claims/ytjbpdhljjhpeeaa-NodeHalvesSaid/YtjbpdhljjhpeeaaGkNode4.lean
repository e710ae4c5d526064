/-
  Nodes: the reference's size; which fit in a page; how much a node holds.
-/
import Derived.Test.YtjbpdhljjhpeeaaGkNode3
namespace Go.Gk.Node
open Go Go.Gk
attribute [local irreducible] gwp gws

def g_thimbleref20_Size (f_thimbleref20_cell : Nat) : GFun :=
 ⟨27, [(.tmp 2)],
 (.seq
 (.reg false (.op false ⟨(some 1), none, (.box (.tmp 0))⟩
  (.op false ⟨(some 2), none, (.mv (.const (.int .i64 0)))⟩ .done)))
 (.seq
 (.reg false (.op false ⟨(some 3), none, (.mv (.const (.int .i64 2)))⟩ .done))
 (.seq (.seq
 (.reg false (.op false ⟨(some 4), none, (.mv (.const (.int .i64 0)))⟩ .done)) (.block 0 (.loop
 (.seq (.seq
 (.reg false (.op false ⟨(some 5), none, (.mv (.tmp 4))⟩
  (.op false ⟨(some 6), none, (.fld 1 (.tmp 1))⟩
  (.op false ⟨(some 7), none, (.ld none (.tmp 6))⟩
  (.op false ⟨(some 8), none, (.len (.tmp 7))⟩
  (.op false ⟨(some 9), none, (.bin .lss (.tmp 5) (.tmp 8))⟩ .done)))))) (.cond (.tmp 9) .skip (.exit 0)))
 (.seq (.block 1
 (.reg false (.op false ⟨(some 12), none, (.mv (.tmp 3))⟩
  (.op false ⟨(some 13), none, (.ld (some 4) (.tmp 1))⟩
  (.op false ⟨(some 14), none, (.mv (.tmp 4))⟩
  (.op false ⟨(some 15), none, (.call f_thimbleref20_cell [(.tmp 13), (.tmp 14)])⟩
  (.op false ⟨(some 16), none, (.bin .add (.tmp 12) (.tmp 15))⟩
  (.op false ⟨(some 3), none, (.mv (.tmp 16))⟩ .done))))))))
 (.reg false (.op false ⟨(some 10), none, (.mv (.tmp 4))⟩
  (.op false ⟨(some 11), none, (.bin .add (.tmp 10) (.const (.int .i64 1)))⟩
  (.op false ⟨(some 4), none, (.mv (.tmp 11))⟩ .done)))))))))
 (.seq (.seq
 (.reg false (.op false ⟨(some 17), none, (.fld 0 (.tmp 1))⟩
  (.op false ⟨(some 18), none, (.ld none (.tmp 17))⟩
  (.op false ⟨(some 19), none, (.un .not (.tmp 18))⟩ .done)))) (.cond (.tmp 19)
 (.reg false (.op false ⟨(some 20), none, (.mv (.tmp 3))⟩
  (.op false ⟨(some 21), none, (.fld 3 (.tmp 1))⟩
  (.op false ⟨(some 22), none, (.ld none (.tmp 21))⟩
  (.op false ⟨(some 23), none, (.len (.tmp 22))⟩
  (.op false ⟨(some 24), none, (.bin .mul (.const (.int .i64 2)) (.tmp 23))⟩
  (.op false ⟨(some 25), none, (.bin .add (.tmp 20) (.tmp 24))⟩
  (.op false ⟨(some 3), none, (.mv (.tmp 25))⟩ .done)))))))) .skip))
 (.seq
 (.reg false (.op false ⟨(some 26), none, (.mv (.tmp 3))⟩
  (.op false ⟨(some 2), none, (.mv (.tmp 26))⟩ .done))) .ret)))))⟩

theorem rsize_ok {P : Program} {f fc : FuncId} (hd : dec P f = some (g_thimbleref20_Size fc)) (hc : CellOk P fc) : SizeOk P f := by
  intro d cs n hn hb
  have hn' := hn
  obtain ⟨lf, ks, vs, is⟩ := n
  obtain ⟨kv, vv, iv, rfl, hk, hv, hiv⟩ : ∃ kv vv iv, cs = [.bool lf, kv, vv, iv] ∧ RBss d kv ks ∧ RBss d vv vs ∧ RInts d iv is := hn
  refine GCall_of hd (Nat.le_of_ble_eq_true rfl) ?_
  obtain ⟨ka, kc, kb, ko, rfl, kA, kS, kN, kl, km, kB, kx⟩ := hk
  obtain ⟨ia, ic, ib, io, rfl, iA, iS, iN, il, im, iB, ix⟩ := hiv
  have hm : ∀ k, k ≤ ks.length → csum ⟨lf, ks, vs, is⟩ k ≤ csum ⟨lf, ks, vs, is⟩ ks.length := fun k hk => csum_mono _ hk
  simp only [sizeD] at hb ⊢
  show gwp P _ _ _ _ _
  (apply w_sq; apply w_reg; apply w_boxa; rfl; intro _ _; apply w_mvi; rfl; apply w_done0; apply w_sq; apply w_reg; apply w_mvi; rfl; apply w_done0; apply w_sq; apply w_sq; apply w_reg; apply w_mvi; rfl; apply w_done0; apply w_block)
  rename_i b T
  refine w_loopN (α := Nat) (fun k => [(1, .pointer (some ⟨b, 0, none⟩)), (3, .int .i64 (2 + csum ⟨lf, ks, vs, is⟩ k : Nat)), (4, .int .i64 k)])
    (fun _ => [bx b T [.bool lf, .slice ka ks.length kc, vv, .slice ia is.length ic]]) (fun k => k ≤ ks.length) (fun k => ks.length - k) 0 ⟨rfl, int_eq (by simp [csum]), rfl, trivial⟩ rfl (Nat.zero_le _) ?_
  intro k ρ hk
  have h1 := hm k hk
  by_cases h : k < ks.length
  · have h2 := hm (k + 1) h
    simp only [csum] at h1 h2 hb
    (apply w_sq; apply w_sq; apply w_reg; apply w_mvi; rfl; apply w_fld; rfl; apply w_ld; rfl; exact hc_i 0 rfl rfl; apply w_len; rfl; apply w_lss; rfl; rfl; apply w_done0; refine w_ifdT rfl (by omega) ?_; apply w_skip; apply w_sq; apply w_block; apply w_reg; apply w_mvi; rfl; apply w_ldb 0; rfl; rfl; rfl; apply w_mvi; rfl)
    refine w_pure rfl (hc hn' k h) ?_
    (apply w_add; rfl; rfl; omega; omega; apply w_mvi; rfl; apply w_done0; apply w_reg; apply w_mvi; rfl; apply w_add; rfl; rfl; omega; omega; apply w_mvi; rfl; apply w_done0)
    exact ⟨k + 1, by omega, ⟨rfl, int_eq (by simp [csum]; omega), int_eq (by omega), trivial⟩, rfl, rfl, h⟩
  · have e : k = ks.length := by omega
    subst e
    cases lf
    · (apply w_sq; apply w_sq; apply w_reg; apply w_mvi; rfl; apply w_fld; rfl; apply w_ld; rfl; exact hc_i 0 rfl rfl; apply w_len; rfl; apply w_lss; rfl; rfl; apply w_done0; refine w_ifdF rfl (by omega) ?_; apply w_exit; apply w_sq; apply w_sq; apply w_reg; apply w_fld; rfl; apply w_ld; rfl; exact hc_i 0 rfl rfl; apply w_not; rfl; apply w_done0; apply w_ifT; rfl; apply w_reg; apply w_mvi; rfl; apply w_fld; rfl; apply w_ld; rfl; exact hc_i 0 rfl rfl; apply w_len; rfl; apply w_mul; rfl; rfl; omega; omega; apply w_add; rfl; rfl; omega; omega; apply w_mvi; rfl; apply w_done0; apply w_sq; apply w_reg; apply w_mvi; rfl; apply w_mvi; rfl; apply w_done0; apply w_ret)
      (apply finPi; rfl)
      simp; omega
    · (apply w_sq; apply w_sq; apply w_reg; apply w_mvi; rfl; apply w_fld; rfl; apply w_ld; rfl; exact hc_i 0 rfl rfl; apply w_len; rfl; apply w_lss; rfl; rfl; apply w_done0; refine w_ifdF rfl (by omega) ?_; apply w_exit; apply w_sq; apply w_sq; apply w_reg; apply w_fld; rfl; apply w_ld; rfl; exact hc_i 0 rfl rfl; apply w_not; rfl; apply w_done0; apply w_ifF; rfl; apply w_skip; apply w_sq; apply w_reg; apply w_mvi; rfl; apply w_mvi; rfl; apply w_done0; apply w_ret)
      (apply finPi; rfl)
      simp

/-- The keys' or the values' bytes, and one each. -/
def bsum (l : List (List UInt8)) : Nat → Nat
  | 0 => 0
  | k + 1 => bsum l k + 1 + (l.getD k []).length
theorem bsum_mono (l : List (List UInt8)) : ∀ {k m : Nat}, k ≤ m → bsum l k ≤ bsum l m := by
  intro k m h
  induction h with
  | refl => exact Nat.le_refl _
  | step _ ih => simp only [bsum]; omega
theorem bsum_end (l : List (List UInt8)) : ∀ {m : Nat}, l.length ≤ m → bsum l m ≤ bsum l l.length + m - l.length := by
  intro m h
  induction h with
  | refl => omega
  | @step m hm ih =>
    have : (l.getD m []).length = 0 := by simp [List.getElem?_eq_none hm]
    simp only [bsum, this]
    have : l.length ≤ m := hm
    omega
def bulkD (n : NodeD) : Nat := n.kids.length + bsum n.keys n.keys.length + bsum n.vals n.vals.length
theorem csum_bsum (n : NodeD) : ∀ k, csum n k ≤ k + bsum n.keys k + bsum n.vals k := by
  intro k
  induction k with
  | zero => simp [csum]
  | succ k ih => simp only [csum, bsum, cellD, klen, vlen]; split <;> omega
theorem len_bsum (l : List (List UInt8)) : ∀ k, k ≤ bsum l k := by
  intro k
  induction k with
  | zero => simp
  | succ k ih => simp only [bsum]; omega
theorem sizeD_bulk (n : NodeD) (h : bulkD n ≤ 3000) : sizeD n ≤ 1000000000000 := by
  unfold bulkD at h
  unfold sizeD
  have h1 := csum_bsum n n.keys.length
  have h2 := len_bsum n.keys n.keys.length
  have h3 : bsum n.vals n.keys.length ≤ bsum n.vals n.vals.length + n.keys.length := by
    rcases Nat.le_total n.keys.length n.vals.length with h | h
    · have := bsum_mono n.vals h; omega
    · have := bsum_end n.vals h; omega
  split <;> omega

def rightB (n : NodeD) : Bool := soundB n && decide (sizeD n ≤ 256)
def RightOk (P : Program) (f : FuncId) : Prop := ∀ {d : PHeap} {cs : List Value} {n : NodeD}, RNode d cs n → sizeD n ≤ 1000000000000 → GPure P f [.agg cs.toArray] d (.bool (rightB n))
def g_thimbleref20_Right (f_thimbleref20_Sound f_thimbleref20_Size : Nat) : GFun :=
 ⟨10, [(.tmp 2)],
 (.seq
 (.reg false (.op false ⟨(some 1), none, (.box (.tmp 0))⟩
  (.op false ⟨(some 2), none, (.mv (.const (.bool false)))⟩ .done)))
 (.seq
 (.reg false (.op false ⟨(some 3), none, (.ld (some 4) (.tmp 1))⟩
  (.op false ⟨(some 4), none, (.call f_thimbleref20_Sound [(.tmp 3)])⟩
  (.op false ⟨(some 5), none, (.mv (.tmp 4))⟩
  (.op false ⟨(some 6), (some (5, true)), (.ld (some 4) (.tmp 1))⟩
  (.op false ⟨(some 7), (some (5, true)), (.call f_thimbleref20_Size [(.tmp 6)])⟩
  (.op false ⟨(some 8), (some (5, true)), (.bin .leq (.tmp 7) (.const (.int .i64 256)))⟩
  (.op false ⟨(some 9), none, (.pick (.tmp 5) (.tmp 8) (.const (.bool false)))⟩
  (.op false ⟨(some 2), none, (.mv (.tmp 9))⟩ .done))))))))) .ret))⟩

theorem right_thimbleref20_Right {P : Program} {f f1 f2 : FuncId} (hd : dec P f = some (g_thimbleref20_Right f1 f2)) (h1 : SoundOk P f1) (h2 : SizeOk P f2) : RightOk P f := by
  intro d cs n hn hb
  refine GCall_of hd (Nat.le_of_ble_eq_true rfl) ?_
  have hn' := hn
  obtain ⟨kv, vv, iv, rfl, hk, hv, hiv⟩ : ∃ kv vv iv, cs = [.bool n.leaf, kv, vv, iv] ∧ RBss d kv n.keys ∧ RBss d vv n.vals ∧ RInts d iv n.kids := hn
  show gwp P _ _ _ _ _
  (apply w_sq; apply w_reg; apply w_boxa; rfl; intro _ _; apply w_mvb; rfl; apply w_done0; apply w_sq; apply w_reg; apply w_ldb 0; rfl; rfl; rfl)
  refine w_pure rfl (h1 hn') ?_
  cases hs : soundB n with
  | false =>
    (apply w_mvb; rfl; apply w_gF; rfl; apply w_gF; rfl; apply w_gF; rfl; apply w_pickFb; rfl; rfl; apply w_mvb; rfl; apply w_done0; apply w_ret)
    (apply finPb; rfl)
    simp [rightB, hs]
  | true =>
    (apply w_mvb; rfl; apply w_gT; rfl; apply w_ldb 0; rfl; rfl; rfl; apply w_gT; rfl)
    refine w_pure rfl (h2 hn' hb) ?_
    (apply w_gT; rfl; apply w_leq; rfl; rfl; apply w_pickTb; rfl; rfl; apply w_mvb; rfl; apply w_done0; apply w_ret)
    (apply finPb; rfl)
    (rw [Bool.eq_iff_iff]; simp [rightB, hs]; omega)
def g_node_Right (f_node_sound f_node_Size : Nat) : GFun :=
 ⟨10, [(.tmp 2)],
 (.seq
 (.reg false (.op false ⟨(some 1), none, (.box (.tmp 0))⟩
  (.op false ⟨(some 2), none, (.mv (.const (.bool false)))⟩ .done)))
 (.seq
 (.reg false (.op false ⟨(some 3), none, (.ld (some 4) (.tmp 1))⟩
  (.op false ⟨(some 4), none, (.call f_node_sound [(.tmp 3)])⟩
  (.op false ⟨(some 5), none, (.mv (.tmp 4))⟩
  (.op false ⟨(some 6), (some (5, true)), (.ld (some 4) (.tmp 1))⟩
  (.op false ⟨(some 7), (some (5, true)), (.call f_node_Size [(.tmp 6)])⟩
  (.op false ⟨(some 8), (some (5, true)), (.bin .leq (.tmp 7) (.const (.int .i64 256)))⟩
  (.op false ⟨(some 9), none, (.pick (.tmp 5) (.tmp 8) (.const (.bool false)))⟩
  (.op false ⟨(some 2), none, (.mv (.tmp 9))⟩ .done))))))))) .ret))⟩

theorem right_node_Right {P : Program} {f f1 f2 : FuncId} (hd : dec P f = some (g_node_Right f1 f2)) (h1 : SoundOk P f1) (h2 : SizeOk P f2) : RightOk P f := by
  intro d cs n hn hb
  refine GCall_of hd (Nat.le_of_ble_eq_true rfl) ?_
  have hn' := hn
  obtain ⟨kv, vv, iv, rfl, hk, hv, hiv⟩ : ∃ kv vv iv, cs = [.bool n.leaf, kv, vv, iv] ∧ RBss d kv n.keys ∧ RBss d vv n.vals ∧ RInts d iv n.kids := hn
  show gwp P _ _ _ _ _
  (apply w_sq; apply w_reg; apply w_boxa; rfl; intro _ _; apply w_mvb; rfl; apply w_done0; apply w_sq; apply w_reg; apply w_ldb 0; rfl; rfl; rfl)
  refine w_pure rfl (h1 hn') ?_
  cases hs : soundB n with
  | false =>
    (apply w_mvb; rfl; apply w_gF; rfl; apply w_gF; rfl; apply w_gF; rfl; apply w_pickFb; rfl; rfl; apply w_mvb; rfl; apply w_done0; apply w_ret)
    (apply finPb; rfl)
    simp [rightB, hs]
  | true =>
    (apply w_mvb; rfl; apply w_gT; rfl; apply w_ldb 0; rfl; rfl; rfl; apply w_gT; rfl)
    refine w_pure rfl (h2 hn' hb) ?_
    (apply w_gT; rfl; apply w_leq; rfl; rfl; apply w_pickTb; rfl; rfl; apply w_mvb; rfl; apply w_done0; apply w_ret)
    (apply finPb; rfl)
    (rw [Bool.eq_iff_iff]; simp [rightB, hs]; omega)

def BulkOk (P : Program) (f : FuncId) : Prop := ∀ {d : PHeap} {cs : List Value} {n : NodeD}, RNode d cs n →
  GCall P f [.agg cs.toArray, .int .i64 3000] d [] (Ret fun r d' L' => ∃ z : Int, r = .int .i64 z ∧ (z ≤ 3000 → bulkD n ≤ 3000) ∧ d' = d ∧ L' = [])
def g_thimbleref20_Bulk : GFun :=
 ⟨75, [(.tmp 4)],
 (.seq
 (.reg false (.op false ⟨(some 2), none, (.box (.tmp 0))⟩
  (.op false ⟨(some 4), none, (.mv (.const (.int .i64 0)))⟩ .done)))
 (.seq (.seq
 (.reg false (.op false ⟨(some 8), none, (.fld 1 (.tmp 2))⟩
  (.op false ⟨(some 9), none, (.ld none (.tmp 8))⟩
  (.op false ⟨(some 10), none, (.len (.tmp 9))⟩
  (.op false ⟨(some 11), none, (.mv (.tmp 1))⟩
  (.op false ⟨(some 12), none, (.bin .gtr (.tmp 10) (.tmp 11))⟩
  (.op false ⟨(some 13), none, (.mv (.tmp 12))⟩
  (.op false ⟨(some 14), (some (13, false)), (.fld 2 (.tmp 2))⟩
  (.op false ⟨(some 15), (some (13, false)), (.ld none (.tmp 14))⟩
  (.op false ⟨(some 16), (some (13, false)), (.len (.tmp 15))⟩
  (.op false ⟨(some 17), (some (13, false)), (.mv (.tmp 1))⟩
  (.op false ⟨(some 18), (some (13, false)), (.bin .gtr (.tmp 16) (.tmp 17))⟩
  (.op false ⟨(some 19), none, (.pick (.tmp 13) (.const (.bool true)) (.tmp 18))⟩
  (.op false ⟨(some 20), none, (.mv (.tmp 19))⟩
  (.op false ⟨(some 21), (some (20, false)), (.fld 3 (.tmp 2))⟩
  (.op false ⟨(some 22), (some (20, false)), (.ld none (.tmp 21))⟩
  (.op false ⟨(some 23), (some (20, false)), (.len (.tmp 22))⟩
  (.op false ⟨(some 24), (some (20, false)), (.mv (.tmp 1))⟩
  (.op false ⟨(some 25), (some (20, false)), (.bin .gtr (.tmp 23) (.tmp 24))⟩
  (.op false ⟨(some 26), none, (.pick (.tmp 20) (.const (.bool true)) (.tmp 25))⟩ .done)))))))))))))))))))) (.cond (.tmp 26)
 (.seq
 (.reg false (.op false ⟨(some 27), none, (.mv (.tmp 1))⟩
  (.op false ⟨(some 28), none, (.bin .add (.tmp 27) (.const (.int .i64 1)))⟩
  (.op false ⟨(some 4), none, (.mv (.tmp 28))⟩ .done)))) .ret) .skip))
 (.seq
 (.reg false (.op false ⟨(some 29), none, (.fld 3 (.tmp 2))⟩
  (.op false ⟨(some 30), none, (.ld none (.tmp 29))⟩
  (.op false ⟨(some 31), none, (.len (.tmp 30))⟩
  (.op false ⟨(some 5), none, (.mv (.tmp 31))⟩ .done)))))
 (.seq (.seq
 (.reg false (.op false ⟨(some 6), none, (.mv (.const (.int .i64 0)))⟩ .done)) (.block 0 (.loop
 (.seq (.seq
 (.reg false (.op false ⟨(some 32), none, (.mv (.tmp 6))⟩
  (.op false ⟨(some 33), none, (.fld 1 (.tmp 2))⟩
  (.op false ⟨(some 34), none, (.ld none (.tmp 33))⟩
  (.op false ⟨(some 35), none, (.len (.tmp 34))⟩
  (.op false ⟨(some 36), none, (.bin .lss (.tmp 32) (.tmp 35))⟩
  (.op false ⟨(some 37), none, (.mv (.tmp 36))⟩
  (.op false ⟨(some 38), (some (37, true)), (.mv (.tmp 5))⟩
  (.op false ⟨(some 39), (some (37, true)), (.mv (.tmp 1))⟩
  (.op false ⟨(some 40), (some (37, true)), (.bin .leq (.tmp 38) (.tmp 39))⟩
  (.op false ⟨(some 41), none, (.pick (.tmp 37) (.tmp 40) (.const (.bool false)))⟩ .done))))))))))) (.cond (.tmp 41) .skip (.exit 0)))
 (.seq (.block 1
 (.reg false (.op false ⟨(some 44), none, (.mv (.tmp 5))⟩
  (.op false ⟨(some 45), none, (.bin .add (.tmp 44) (.const (.int .i64 1)))⟩
  (.op false ⟨(some 46), none, (.fld 1 (.tmp 2))⟩
  (.op false ⟨(some 47), none, (.ld none (.tmp 46))⟩
  (.op false ⟨(some 48), none, (.mv (.tmp 6))⟩
  (.op false ⟨(some 49), none, (.idx 1 (.tmp 47) (.tmp 48))⟩
  (.op false ⟨(some 50), none, (.ld none (.tmp 49))⟩
  (.op false ⟨(some 51), none, (.len (.tmp 50))⟩
  (.op false ⟨(some 52), none, (.bin .add (.tmp 45) (.tmp 51))⟩
  (.op false ⟨(some 5), none, (.mv (.tmp 52))⟩ .done))))))))))))
 (.reg false (.op false ⟨(some 42), none, (.mv (.tmp 6))⟩
  (.op false ⟨(some 43), none, (.bin .add (.tmp 42) (.const (.int .i64 1)))⟩
  (.op false ⟨(some 6), none, (.mv (.tmp 43))⟩ .done)))))))))
 (.seq (.seq
 (.reg false (.op false ⟨(some 7), none, (.mv (.const (.int .i64 0)))⟩ .done)) (.block 2 (.loop
 (.seq (.seq
 (.reg false (.op false ⟨(some 53), none, (.mv (.tmp 7))⟩
  (.op false ⟨(some 54), none, (.fld 2 (.tmp 2))⟩
  (.op false ⟨(some 55), none, (.ld none (.tmp 54))⟩
  (.op false ⟨(some 56), none, (.len (.tmp 55))⟩
  (.op false ⟨(some 57), none, (.bin .lss (.tmp 53) (.tmp 56))⟩
  (.op false ⟨(some 58), none, (.mv (.tmp 57))⟩
  (.op false ⟨(some 59), (some (58, true)), (.mv (.tmp 5))⟩
  (.op false ⟨(some 60), (some (58, true)), (.mv (.tmp 1))⟩
  (.op false ⟨(some 61), (some (58, true)), (.bin .leq (.tmp 59) (.tmp 60))⟩
  (.op false ⟨(some 62), none, (.pick (.tmp 58) (.tmp 61) (.const (.bool false)))⟩ .done))))))))))) (.cond (.tmp 62) .skip (.exit 2)))
 (.seq (.block 3
 (.reg false (.op false ⟨(some 65), none, (.mv (.tmp 5))⟩
  (.op false ⟨(some 66), none, (.bin .add (.tmp 65) (.const (.int .i64 1)))⟩
  (.op false ⟨(some 67), none, (.fld 2 (.tmp 2))⟩
  (.op false ⟨(some 68), none, (.ld none (.tmp 67))⟩
  (.op false ⟨(some 69), none, (.mv (.tmp 7))⟩
  (.op false ⟨(some 70), none, (.idx 1 (.tmp 68) (.tmp 69))⟩
  (.op false ⟨(some 71), none, (.ld none (.tmp 70))⟩
  (.op false ⟨(some 72), none, (.len (.tmp 71))⟩
  (.op false ⟨(some 73), none, (.bin .add (.tmp 66) (.tmp 72))⟩
  (.op false ⟨(some 5), none, (.mv (.tmp 73))⟩ .done))))))))))))
 (.reg false (.op false ⟨(some 63), none, (.mv (.tmp 7))⟩
  (.op false ⟨(some 64), none, (.bin .add (.tmp 63) (.const (.int .i64 1)))⟩
  (.op false ⟨(some 7), none, (.mv (.tmp 64))⟩ .done)))))))))
 (.seq
 (.reg false (.op false ⟨(some 74), none, (.mv (.tmp 5))⟩
  (.op false ⟨(some 4), none, (.mv (.tmp 74))⟩ .done))) .ret))))))⟩

theorem bulk_ok {P : Program} {f : FuncId} (hd : dec P f = some g_thimbleref20_Bulk) : BulkOk P f := by
  intro d cs n hn
  obtain ⟨lf, ks, vs, is⟩ := n
  obtain ⟨kv, vv, iv, rfl, hk, hv, hiv⟩ : ∃ kv vv iv, cs = [.bool lf, kv, vv, iv] ∧ RBss d kv ks ∧ RBss d vv vs ∧ RInts d iv is := hn
  refine GCall_of hd (Nat.le_of_ble_eq_true rfl) ?_
  obtain ⟨ka, kc, kb, ko, rfl, kA, kS, kN, kl, km, kB, kx⟩ := hk
  obtain ⟨va, vc, vb, vo, rfl, vA, vS, vN, vl, vm, vB, vx⟩ := hv
  obtain ⟨ia, ic, ib, io, rfl, iA, iS, iN, il, im, iB, ix⟩ := hiv
  show gwp P _ _ _ _ _
  by_cases h1 : ks.length > 3000
  · (apply w_sq; apply w_reg; apply w_boxa; rfl; intro _ _; apply w_mvi; rfl; apply w_done0; apply w_sq; apply w_sq; apply w_reg; apply w_fld; rfl; apply w_ld; rfl; exact hc_i 0 rfl rfl; apply w_len; rfl; apply w_mvi; rfl; apply w_gtr; rfl; rfl; apply w_mvb; rfl; refine w_gdT rfl (by omega) ?_; apply w_gF; rfl; apply w_gF; rfl; apply w_gF; rfl; apply w_gF; rfl; apply w_gF; rfl; apply w_pickTb; rfl; rfl; apply w_mvb; rfl; apply w_gF; rfl; apply w_gF; rfl; apply w_gF; rfl; apply w_gF; rfl; apply w_gF; rfl; apply w_pickTb; rfl; rfl; apply w_done0; apply w_ifT; rfl; apply w_sq; apply w_reg; apply w_mvi; rfl; apply w_add; rfl; rfl; omega; omega; apply w_mvi; rfl; apply w_done0; apply w_ret)
    exact fin1n rfl ⟨_, rfl, by omega, rfl, rfl⟩
  by_cases h2 : vs.length > 3000
  · (apply w_sq; apply w_reg; apply w_boxa; rfl; intro _ _; apply w_mvi; rfl; apply w_done0; apply w_sq; apply w_sq; apply w_reg; apply w_fld; rfl; apply w_ld; rfl; exact hc_i 0 rfl rfl; apply w_len; rfl; apply w_mvi; rfl; apply w_gtr; rfl; rfl; apply w_mvb; rfl; refine w_gdF rfl (by omega) ?_; apply w_gT; rfl; apply w_fld; rfl; apply w_gT; rfl; apply w_ld; rfl; exact hc_i 0 rfl rfl; apply w_gT; rfl; apply w_len; rfl; apply w_gT; rfl; apply w_mvi; rfl; apply w_gT; rfl; apply w_gtr; rfl; rfl; apply w_pickFb; rfl; rfl; apply w_mvb; rfl; refine w_gdT rfl (by omega) ?_; apply w_gF; rfl; apply w_gF; rfl; apply w_gF; rfl; apply w_gF; rfl; apply w_gF; rfl; apply w_pickTb; rfl; rfl; apply w_done0; apply w_ifT; rfl; apply w_sq; apply w_reg; apply w_mvi; rfl; apply w_add; rfl; rfl; omega; omega; apply w_mvi; rfl; apply w_done0; apply w_ret)
    exact fin1n rfl ⟨_, rfl, by omega, rfl, rfl⟩
  by_cases h3 : is.length > 3000
  · (apply w_sq; apply w_reg; apply w_boxa; rfl; intro _ _; apply w_mvi; rfl; apply w_done0; apply w_sq; apply w_sq; apply w_reg; apply w_fld; rfl; apply w_ld; rfl; exact hc_i 0 rfl rfl; apply w_len; rfl; apply w_mvi; rfl; apply w_gtr; rfl; rfl; apply w_mvb; rfl; refine w_gdF rfl (by omega) ?_; apply w_gT; rfl; apply w_fld; rfl; apply w_gT; rfl; apply w_ld; rfl; exact hc_i 0 rfl rfl; apply w_gT; rfl; apply w_len; rfl; apply w_gT; rfl; apply w_mvi; rfl; apply w_gT; rfl; apply w_gtr; rfl; rfl; apply w_pickFb; rfl; rfl; apply w_mvb; rfl; refine w_gdF rfl (by omega) ?_; apply w_gT; rfl; apply w_fld; rfl; apply w_gT; rfl; apply w_ld; rfl; exact hc_i 0 rfl rfl; apply w_gT; rfl; apply w_len; rfl; apply w_gT; rfl; apply w_mvi; rfl; apply w_gT; rfl; apply w_gtr; rfl; rfl; apply w_pickFb; rfl; rfl; apply w_done0; refine w_ifdT rfl (by omega) ?_; apply w_sq; apply w_reg; apply w_mvi; rfl; apply w_add; rfl; rfl; omega; omega; apply w_mvi; rfl; apply w_done0; apply w_ret)
    exact fin1n rfl ⟨_, rfl, by omega, rfl, rfl⟩
  (apply w_sq; apply w_reg; apply w_boxa; rfl; intro _ _; apply w_mvi; rfl; apply w_done0; apply w_sq; apply w_sq; apply w_reg; apply w_fld; rfl; apply w_ld; rfl; exact hc_i 0 rfl rfl; apply w_len; rfl; apply w_mvi; rfl; apply w_gtr; rfl; rfl; apply w_mvb; rfl; refine w_gdF rfl (by omega) ?_; apply w_gT; rfl; apply w_fld; rfl; apply w_gT; rfl; apply w_ld; rfl; exact hc_i 0 rfl rfl; apply w_gT; rfl; apply w_len; rfl; apply w_gT; rfl; apply w_mvi; rfl; apply w_gT; rfl; apply w_gtr; rfl; rfl; apply w_pickFb; rfl; rfl; apply w_mvb; rfl; refine w_gdF rfl (by omega) ?_; apply w_gT; rfl; apply w_fld; rfl; apply w_gT; rfl; apply w_ld; rfl; exact hc_i 0 rfl rfl; apply w_gT; rfl; apply w_len; rfl; apply w_gT; rfl; apply w_mvi; rfl; apply w_gT; rfl; apply w_gtr; rfl; rfl; apply w_pickFb; rfl; rfl; apply w_done0; refine w_ifdF rfl (by omega) ?_; apply w_skip; apply w_sq; apply w_reg; apply w_fld; rfl; apply w_ld; rfl; exact hc_i 0 rfl rfl; apply w_len; rfl; apply w_mvi; rfl; apply w_done0; apply w_sq; apply w_sq; apply w_reg; apply w_mvi; rfl; apply w_done0; apply w_block)
  rename_i b T
  refine w_loopN (α := Nat) (fun k => [(1, .int .i64 3000), (2, .pointer (some ⟨b, 0, none⟩)), (5, .int .i64 (is.length + bsum ks k : Nat)), (6, .int .i64 k)])
    (fun _ => [bx b T [.bool lf, .slice ka ks.length kc, .slice va vs.length vc, .slice ia is.length ic]]) (fun k => k ≤ ks.length) (fun k => ks.length - k) 0 ⟨rfl, rfl, int_eq (by simp [bsum]), rfl, trivial⟩ rfl (Nat.zero_le _) ?_
  intro k ρ hk
  by_cases h : k < ks.length ∧ is.length + bsum ks k ≤ 3000
  · obtain ⟨h, h4⟩ := h
    obtain ⟨c0, hc0, hD0, ⟨u0, rfl, hu0⟩⟩ := kx k h
    replace hD0 := hD0.one
    have hul : ks[k].length ≤ 140737488355328 := hu0.len_le
    have hkl : ks.getD k [] = ks[k] := by simp [h]
    (apply w_sq; apply w_sq; apply w_reg; apply w_mvi; rfl; apply w_fld; rfl; apply w_ld; rfl; exact hc_i 0 rfl rfl; apply w_len; rfl; apply w_lss; rfl; rfl; apply w_mvb; rfl; refine w_gdT rfl (by omega) ?_; apply w_gT; rfl; apply w_mvi; rfl; apply w_gT; rfl; apply w_mvi; rfl; apply w_gT; rfl; apply w_leq; rfl; rfl; apply w_pickTb; rfl; rfl; apply w_done0; refine w_ifdT rfl (by omega) ?_; apply w_skip; apply w_sq; apply w_block; apply w_reg; apply w_mvi; rfl; apply w_add; rfl; rfl; omega; omega; apply w_fld; rfl; apply w_ld; rfl; exact hc_i 0 rfl rfl; apply w_mvi; rfl; apply w_idx; rfl; rfl; rfl; omega; assumption; apply w_ld; rfl; exact hc_d (by assumption); apply w_lenR; rfl; assumption; apply w_add; rfl; rfl; omega; omega; apply w_mvi; rfl; apply w_done0; apply w_reg; apply w_mvi; rfl; apply w_add; rfl; rfl; omega; omega; apply w_mvi; rfl; apply w_done0)
    exact ⟨k + 1, by omega, ⟨rfl, rfl, int_eq (by simp only [bsum, hkl]; omega), int_eq (by omega), trivial⟩, rfl, rfl, h⟩
  · have hA : ∀ A : Nat, A = is.length + bsum ks k → (A ≤ 3000 → k = ks.length) := fun A e h0 => by omega
    by_cases h5 : k < ks.length
    · have h6 : is.length + bsum ks k > 3000 := by omega
      by_cases h7 : 0 < vs.length
      · (apply w_sq; apply w_sq; apply w_reg; apply w_mvi; rfl; apply w_fld; rfl; apply w_ld; rfl; exact hc_i 0 rfl rfl; apply w_len; rfl; apply w_lss; rfl; rfl; apply w_mvb; rfl; refine w_gdT rfl (by omega) ?_; apply w_gT; rfl; apply w_mvi; rfl; apply w_gT; rfl; apply w_mvi; rfl; apply w_gT; rfl; apply w_leq; rfl; rfl; apply w_pickTb; rfl; rfl; apply w_done0; refine w_ifdF rfl (by omega) ?_; apply w_exit; apply w_sq; apply w_sq; apply w_reg; apply w_mvi; rfl; apply w_done0; apply w_block)
        refine w_loopN (α := Unit) (fun _ => [(1, .int .i64 3000), (2, .pointer (some ⟨b, 0, none⟩)), (5, .int .i64 (is.length + bsum ks k : Nat)), (7, .int .i64 0)])
          (fun _ => [bx b T [.bool lf, .slice ka ks.length kc, .slice va vs.length vc, .slice ia is.length ic]]) (fun _ => True) (fun _ => 0) () ⟨rfl, rfl, rfl, rfl, trivial⟩ rfl trivial ?_
        intro _ ρ _
        (apply w_sq; apply w_sq; apply w_reg; apply w_mvi; rfl; apply w_fld; rfl; apply w_ld; rfl; exact hc_i 0 rfl rfl; apply w_len; rfl; apply w_lss; rfl; rfl; apply w_mvb; rfl; refine w_gdT rfl (by omega) ?_; apply w_gT; rfl; apply w_mvi; rfl; apply w_gT; rfl; apply w_mvi; rfl; apply w_gT; rfl; apply w_leq; rfl; rfl; apply w_pickTb; rfl; rfl; apply w_done0; refine w_ifdF rfl (by omega) ?_; apply w_exit; apply w_sq; apply w_reg; apply w_mvi; rfl; apply w_mvi; rfl; apply w_done0; apply w_ret)
        exact fin1n rfl ⟨_, rfl, by omega, rfl, rfl⟩
      · (apply w_sq; apply w_sq; apply w_reg; apply w_mvi; rfl; apply w_fld; rfl; apply w_ld; rfl; exact hc_i 0 rfl rfl; apply w_len; rfl; apply w_lss; rfl; rfl; apply w_mvb; rfl; refine w_gdT rfl (by omega) ?_; apply w_gT; rfl; apply w_mvi; rfl; apply w_gT; rfl; apply w_mvi; rfl; apply w_gT; rfl; apply w_leq; rfl; rfl; apply w_pickTb; rfl; rfl; apply w_done0; refine w_ifdF rfl (by omega) ?_; apply w_exit; apply w_sq; apply w_sq; apply w_reg; apply w_mvi; rfl; apply w_done0; apply w_block)
        refine w_loopN (α := Unit) (fun _ => [(1, .int .i64 3000), (2, .pointer (some ⟨b, 0, none⟩)), (5, .int .i64 (is.length + bsum ks k : Nat)), (7, .int .i64 0)])
          (fun _ => [bx b T [.bool lf, .slice ka ks.length kc, .slice va vs.length vc, .slice ia is.length ic]]) (fun _ => True) (fun _ => 0) () ⟨rfl, rfl, rfl, rfl, trivial⟩ rfl trivial ?_
        intro _ ρ _
        (apply w_sq; apply w_sq; apply w_reg; apply w_mvi; rfl; apply w_fld; rfl; apply w_ld; rfl; exact hc_i 0 rfl rfl; apply w_len; rfl; apply w_lss; rfl; rfl; apply w_mvb; rfl; refine w_gdF rfl (by omega) ?_; apply w_gF; rfl; apply w_gF; rfl; apply w_gF; rfl; apply w_pickFb; rfl; rfl; apply w_done0; apply w_ifF; rfl; apply w_exit; apply w_sq; apply w_reg; apply w_mvi; rfl; apply w_mvi; rfl; apply w_done0; apply w_ret)
        exact fin1n rfl ⟨_, rfl, by omega, rfl, rfl⟩
    · have e : k = ks.length := by omega
      subst e
      (apply w_sq; apply w_sq; apply w_reg; apply w_mvi; rfl; apply w_fld; rfl; apply w_ld; rfl; exact hc_i 0 rfl rfl; apply w_len; rfl; apply w_lss; rfl; rfl; apply w_mvb; rfl; refine w_gdF rfl (by omega) ?_; apply w_gF; rfl; apply w_gF; rfl; apply w_gF; rfl; apply w_pickFb; rfl; rfl; apply w_done0; apply w_ifF; rfl; apply w_exit; apply w_sq; apply w_sq; apply w_reg; apply w_mvi; rfl; apply w_done0; apply w_block)
      refine w_loopN (α := Nat) (fun k => [(1, .int .i64 3000), (2, .pointer (some ⟨b, 0, none⟩)), (5, .int .i64 (is.length + bsum ks ks.length + bsum vs k : Nat)), (7, .int .i64 k)])
        (fun _ => [bx b T [.bool lf, .slice ka ks.length kc, .slice va vs.length vc, .slice ia is.length ic]]) (fun k => k ≤ vs.length) (fun k => vs.length - k) 0 ⟨rfl, rfl, int_eq (by simp [bsum]), rfl, trivial⟩ rfl (Nat.zero_le _) ?_
      intro k ρ hk
      by_cases h7 : k < vs.length
      · by_cases h8 : is.length + bsum ks ks.length + bsum vs k ≤ 3000
        · obtain ⟨c0, hc0, hD0, ⟨u0, rfl, hu0⟩⟩ := vx k h7
          replace hD0 := hD0.one
          have hul : vs[k].length ≤ 140737488355328 := hu0.len_le
          have hkl : vs.getD k [] = vs[k] := by simp [h7]
          (apply w_sq; apply w_sq; apply w_reg; apply w_mvi; rfl; apply w_fld; rfl; apply w_ld; rfl; exact hc_i 0 rfl rfl; apply w_len; rfl; apply w_lss; rfl; rfl; apply w_mvb; rfl; refine w_gdT rfl (by omega) ?_; apply w_gT; rfl; apply w_mvi; rfl; apply w_gT; rfl; apply w_mvi; rfl; apply w_gT; rfl; apply w_leq; rfl; rfl; apply w_pickTb; rfl; rfl; apply w_done0; refine w_ifdT rfl (by omega) ?_; apply w_skip; apply w_sq; apply w_block; apply w_reg; apply w_mvi; rfl; apply w_add; rfl; rfl; omega; omega; apply w_fld; rfl; apply w_ld; rfl; exact hc_i 0 rfl rfl; apply w_mvi; rfl; apply w_idx; rfl; rfl; rfl; omega; assumption; apply w_ld; rfl; exact hc_d (by assumption); apply w_lenR; rfl; assumption; apply w_add; rfl; rfl; omega; omega; apply w_mvi; rfl; apply w_done0; apply w_reg; apply w_mvi; rfl; apply w_add; rfl; rfl; omega; omega; apply w_mvi; rfl; apply w_done0)
          exact ⟨k + 1, by omega, ⟨rfl, rfl, int_eq (by simp only [bsum, hkl]; omega), int_eq (by omega), trivial⟩, rfl, rfl, h7⟩
        · (apply w_sq; apply w_sq; apply w_reg; apply w_mvi; rfl; apply w_fld; rfl; apply w_ld; rfl; exact hc_i 0 rfl rfl; apply w_len; rfl; apply w_lss; rfl; rfl; apply w_mvb; rfl; refine w_gdT rfl (by omega) ?_; apply w_gT; rfl; apply w_mvi; rfl; apply w_gT; rfl; apply w_mvi; rfl; apply w_gT; rfl; apply w_leq; rfl; rfl; apply w_pickTb; rfl; rfl; apply w_done0; refine w_ifdF rfl (by omega) ?_; apply w_exit; apply w_sq; apply w_reg; apply w_mvi; rfl; apply w_mvi; rfl; apply w_done0; apply w_ret)
          exact fin1n rfl ⟨_, rfl, by omega, rfl, rfl⟩
      · have e : k = vs.length := by omega
        subst e
        (apply w_sq; apply w_sq; apply w_reg; apply w_mvi; rfl; apply w_fld; rfl; apply w_ld; rfl; exact hc_i 0 rfl rfl; apply w_len; rfl; apply w_lss; rfl; rfl; apply w_mvb; rfl; refine w_gdF rfl (by omega) ?_; apply w_gF; rfl; apply w_gF; rfl; apply w_gF; rfl; apply w_pickFb; rfl; rfl; apply w_done0; apply w_ifF; rfl; apply w_exit; apply w_sq; apply w_reg; apply w_mvi; rfl; apply w_mvi; rfl; apply w_done0; apply w_ret)
        exact fin1n rfl ⟨_, rfl, by simp only [bulkD]; omega, rfl, rfl⟩
end Go.Gk.Node
