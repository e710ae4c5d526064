/-
  Nodes: the reference's page of one; when two are alike; a copy of one.
-/
import Derived.Test.YtjbpdhljjhpeeaaGkNode8
import Derived.Test.YtjbpdhljjhpeeaaGk13
namespace Go.Gk.Node
open Go Go.Gk
attribute [local irreducible] gwp gws

def ListsOk (P : Program) (f : FuncId) : Prop := ∀ {d : PHeap} {v w : Value} {xs ys : List (List UInt8)}, RBss d v xs → RBss d w ys → GPure P f [v, w] d (.bool (decide (xs = ys)))

theorem list_ne {α : Type} {xs ys : List α} {k : Nat} (h1 : k < xs.length) (h2 : k < ys.length) (h : ¬ xs[k] = ys[k]) : ¬ xs = ys := by
  rintro rfl; exact h rfl
theorem list_take {α : Type} {xs ys : List α} {k : Nat} (h1 : k < xs.length) (h2 : k < ys.length) (h : xs[k] = ys[k]) (ht : xs.take k = ys.take k) : xs.take (k + 1) = ys.take (k + 1) := by
  rw [List.take_succ_eq_append_getElem h1, List.take_succ_eq_append_getElem h2, ht, h]

def g_thimbleref20_Lists : GFun :=
 ⟨28, [(.tmp 4)],
 (.seq
 (.reg false (.op false ⟨(some 4), none, (.mv (.const (.bool false)))⟩ .done))
 (.seq (.seq
 (.reg false (.op false ⟨(some 6), none, (.mv (.tmp 0))⟩
  (.op false ⟨(some 7), none, (.len (.tmp 6))⟩
  (.op false ⟨(some 8), none, (.mv (.tmp 1))⟩
  (.op false ⟨(some 9), none, (.len (.tmp 8))⟩
  (.op false ⟨(some 10), none, (.bin .neq (.tmp 7) (.tmp 9))⟩ .done)))))) (.cond (.tmp 10)
 (.seq
 (.reg false (.op false ⟨(some 4), none, (.mv (.const (.bool false)))⟩ .done)) .ret) .skip))
 (.seq (.seq
 (.reg false (.op false ⟨(some 5), none, (.mv (.const (.int .i64 0)))⟩ .done)) (.block 0 (.loop
 (.seq (.seq
 (.reg false (.op false ⟨(some 11), none, (.mv (.tmp 5))⟩
  (.op false ⟨(some 12), none, (.mv (.tmp 0))⟩
  (.op false ⟨(some 13), none, (.len (.tmp 12))⟩
  (.op false ⟨(some 14), none, (.bin .lss (.tmp 11) (.tmp 13))⟩ .done))))) (.cond (.tmp 14) .skip (.exit 0)))
 (.seq (.block 1
 (.seq
 (.reg true (.op true ⟨(some 17), none, (.mv (.tmp 0))⟩
  (.op true ⟨(some 18), none, (.mv (.tmp 5))⟩
  (.op true ⟨(some 19), none, (.idx 1 (.tmp 17) (.tmp 18))⟩
  (.op true ⟨(some 20), none, (.ld none (.tmp 19))⟩
  (.op true ⟨(some 21), none, (.b2s (.tmp 20))⟩
  (.op true ⟨(some 22), none, (.mv (.tmp 1))⟩
  (.op true ⟨(some 23), none, (.mv (.tmp 5))⟩
  (.op true ⟨(some 24), none, (.idx 1 (.tmp 22) (.tmp 23))⟩
  (.op true ⟨(some 25), none, (.ld none (.tmp 24))⟩
  (.op true ⟨(some 26), none, (.b2s (.tmp 25))⟩
  (.op true ⟨(some 27), none, (.bin .neq (.tmp 21) (.tmp 26))⟩ .done)))))))))))) (.cond (.tmp 27)
 (.seq
 (.reg false (.op false ⟨(some 4), none, (.mv (.const (.bool false)))⟩ .done)) .ret) .skip)))
 (.reg false (.op false ⟨(some 15), none, (.mv (.tmp 5))⟩
  (.op false ⟨(some 16), none, (.bin .add (.tmp 15) (.const (.int .i64 1)))⟩
  (.op false ⟨(some 5), none, (.mv (.tmp 16))⟩ .done)))))))))
 (.seq
 (.reg false (.op false ⟨(some 4), none, (.mv (.const (.bool true)))⟩ .done)) .ret))))⟩

theorem lists_ok {P : Program} {f : FuncId} (hd : dec P f = some g_thimbleref20_Lists) : ListsOk P f := by
  intro d v w xs ys hx hy
  refine GCall_of hd (Nat.le_of_ble_eq_true rfl) ?_
  have hxl := RSl.len_le hx
  show gwp P _ _ _ _ _
  (apply w_sq; apply w_reg; apply w_mvb; rfl; apply w_done0; apply w_sq; apply w_sq; apply w_reg; apply w_mv; apply w_lenR; rfl; assumption; apply w_mv; apply w_lenR; rfl; assumption; apply w_neq; rfl; rfl; apply w_done0)
  first | refine w_ifd rfl (fun h => ?_) (fun h => ?_) | refine w_if rfl (fun h => ?_) (fun h => ?_)
  · (apply w_sq; apply w_reg; apply w_mvb; rfl; apply w_done0; apply w_ret)
    (apply finPb; rfl)
    simp; intro e; subst e; exact absurd rfl h
  · (apply w_skip; apply w_sq; apply w_sq; apply w_reg; apply w_mvi; rfl; apply w_done0; apply w_block)
    refine w_loopN (α := Nat) (fun k => [(0, v), (1, w), (5, .int .i64 k)]) (fun _ => []) (fun k => k ≤ xs.length ∧ xs.take k = ys.take k) (fun k => xs.length - k) 0 ⟨rfl, rfl, rfl, trivial⟩ rfl ⟨Nat.zero_le _, rfl⟩ ?_
    rintro k ρ ⟨hk, he⟩
    have hl : xs.length = ys.length := by omega
    (apply w_sq; apply w_sq; apply w_reg; apply w_mvi; rfl; apply w_mv; apply w_lenR; rfl; assumption; apply w_lss; rfl; rfl; apply w_done0)
    first | refine w_ifd rfl (fun h1 => ?_) (fun h1 => ?_) | refine w_if rfl (fun h1 => ?_) (fun h1 => ?_)
    · have hk1 : k < xs.length := by omega
      (apply w_skip; apply w_sq; apply w_block; apply w_sq; apply w_drawn; apply w_mv; apply w_mvi; rfl; refine w_idxR (sz := 1) (R := RBs) (by rfl) (by assumption) (by rfl) rfl (by omega) ?_; rintro _ _ _ _ _ ⟨_, rfl, _⟩; apply w_ld; rfl; exact hc_ds0 (by assumption) rfl; apply w_b2sR; rfl; assumption; apply w_mv; apply w_mvi; rfl; refine w_idxR (sz := 1) (R := RBs) (by rfl) (by assumption) (by rfl) rfl (by omega) ?_; rintro _ _ _ _ _ ⟨_, rfl, _⟩; apply w_ld; rfl; exact hc_ds0 (by assumption) rfl; apply w_b2sR; rfl; assumption; apply w_sne; rfl; rfl; apply w_done0)
      first | refine w_ifd rfl (fun h2 => ?_) (fun h2 => ?_) | refine w_if rfl (fun h2 => ?_) (fun h2 => ?_)
      · (apply w_sq; apply w_reg; apply w_mvb; rfl; apply w_done0; apply w_ret)
        (apply finPb; rfl)
        simpa using list_ne hk1 (by omega) h2
      · (apply w_skip; apply w_reg; apply w_mvi; rfl; apply w_add; rfl; rfl; omega; omega; apply w_mvi; rfl; apply w_done0)
        exact ⟨k + 1, by omega, ⟨rfl, rfl, int_eq (by omega), trivial⟩, rfl, rfl, by omega, list_take hk1 (by omega) (by simpa using h2) he⟩
    · (apply w_exit; apply w_sq; apply w_reg; apply w_mvb; rfl; apply w_done0; apply w_ret)
      (apply finPb; rfl)
      rw [List.take_of_length_le (by omega), List.take_of_length_le (by omega)] at he
      simp [he]

instance : DecidableEq NodeD := fun a b => by
  obtain ⟨a1, a2, a3, a4⟩ := a
  obtain ⟨b1, b2, b3, b4⟩ := b
  simp only [NodeD.mk.injEq]
  exact inferInstance
def SameOk (P : Program) (f : FuncId) : Prop := ∀ {d : PHeap} {cs ds : List Value} {n m : NodeD}, RNode d cs n → RNode d ds m → GPure P f [.agg cs.toArray, .agg ds.toArray] d (.bool (decide (n = m)))
def g_thimbleref20_Same (f_thimbleref20_Lists : Nat) : GFun :=
 ⟨54, [(.tmp 4)],
 (.seq
 (.reg false (.op false ⟨(some 2), none, (.box (.tmp 0))⟩
  (.op false ⟨(some 3), none, (.box (.tmp 1))⟩
  (.op false ⟨(some 4), none, (.mv (.const (.bool false)))⟩ .done))))
 (.seq (.seq
 (.reg false (.op false ⟨(some 6), none, (.fld 0 (.tmp 2))⟩
  (.op false ⟨(some 7), none, (.ld none (.tmp 6))⟩
  (.op false ⟨(some 8), none, (.fld 0 (.tmp 3))⟩
  (.op false ⟨(some 9), none, (.ld none (.tmp 8))⟩
  (.op false ⟨(some 10), none, (.eqb true (.tmp 7) (.tmp 9))⟩
  (.op false ⟨(some 11), none, (.mv (.tmp 10))⟩
  (.op false ⟨(some 12), (some (11, false)), (.fld 1 (.tmp 2))⟩
  (.op false ⟨(some 13), (some (11, false)), (.ld none (.tmp 12))⟩
  (.op false ⟨(some 14), (some (11, false)), (.fld 1 (.tmp 3))⟩
  (.op false ⟨(some 15), (some (11, false)), (.ld none (.tmp 14))⟩
  (.op false ⟨(some 16), (some (11, false)), (.call f_thimbleref20_Lists [(.tmp 13), (.tmp 15)])⟩
  (.op false ⟨(some 17), (some (11, false)), (.un .not (.tmp 16))⟩
  (.op false ⟨(some 18), none, (.pick (.tmp 11) (.const (.bool true)) (.tmp 17))⟩
  (.op false ⟨(some 19), none, (.mv (.tmp 18))⟩
  (.op false ⟨(some 20), (some (19, false)), (.fld 2 (.tmp 2))⟩
  (.op false ⟨(some 21), (some (19, false)), (.ld none (.tmp 20))⟩
  (.op false ⟨(some 22), (some (19, false)), (.fld 2 (.tmp 3))⟩
  (.op false ⟨(some 23), (some (19, false)), (.ld none (.tmp 22))⟩
  (.op false ⟨(some 24), (some (19, false)), (.call f_thimbleref20_Lists [(.tmp 21), (.tmp 23)])⟩
  (.op false ⟨(some 25), (some (19, false)), (.un .not (.tmp 24))⟩
  (.op false ⟨(some 26), none, (.pick (.tmp 19) (.const (.bool true)) (.tmp 25))⟩
  (.op false ⟨(some 27), none, (.mv (.tmp 26))⟩
  (.op false ⟨(some 28), (some (27, false)), (.fld 3 (.tmp 2))⟩
  (.op false ⟨(some 29), (some (27, false)), (.ld none (.tmp 28))⟩
  (.op false ⟨(some 30), (some (27, false)), (.len (.tmp 29))⟩
  (.op false ⟨(some 31), (some (27, false)), (.fld 3 (.tmp 3))⟩
  (.op false ⟨(some 32), (some (27, false)), (.ld none (.tmp 31))⟩
  (.op false ⟨(some 33), (some (27, false)), (.len (.tmp 32))⟩
  (.op false ⟨(some 34), (some (27, false)), (.bin .neq (.tmp 30) (.tmp 33))⟩
  (.op false ⟨(some 35), none, (.pick (.tmp 27) (.const (.bool true)) (.tmp 34))⟩ .done))))))))))))))))))))))))))))))) (.cond (.tmp 35)
 (.seq
 (.reg false (.op false ⟨(some 4), none, (.mv (.const (.bool false)))⟩ .done)) .ret) .skip))
 (.seq (.seq
 (.reg false (.op false ⟨(some 5), none, (.mv (.const (.int .i64 0)))⟩ .done)) (.block 0 (.loop
 (.seq (.seq
 (.reg false (.op false ⟨(some 36), none, (.mv (.tmp 5))⟩
  (.op false ⟨(some 37), none, (.fld 3 (.tmp 2))⟩
  (.op false ⟨(some 38), none, (.ld none (.tmp 37))⟩
  (.op false ⟨(some 39), none, (.len (.tmp 38))⟩
  (.op false ⟨(some 40), none, (.bin .lss (.tmp 36) (.tmp 39))⟩ .done)))))) (.cond (.tmp 40) .skip (.exit 0)))
 (.seq (.block 1
 (.seq
 (.reg true (.op true ⟨(some 43), none, (.fld 3 (.tmp 2))⟩
  (.op true ⟨(some 44), none, (.ld none (.tmp 43))⟩
  (.op true ⟨(some 45), none, (.mv (.tmp 5))⟩
  (.op true ⟨(some 46), none, (.idx 1 (.tmp 44) (.tmp 45))⟩
  (.op true ⟨(some 47), none, (.ld none (.tmp 46))⟩
  (.op true ⟨(some 48), none, (.fld 3 (.tmp 3))⟩
  (.op true ⟨(some 49), none, (.ld none (.tmp 48))⟩
  (.op true ⟨(some 50), none, (.mv (.tmp 5))⟩
  (.op true ⟨(some 51), none, (.idx 1 (.tmp 49) (.tmp 50))⟩
  (.op true ⟨(some 52), none, (.ld none (.tmp 51))⟩
  (.op true ⟨(some 53), none, (.bin .neq (.tmp 47) (.tmp 52))⟩ .done)))))))))))) (.cond (.tmp 53)
 (.seq
 (.reg false (.op false ⟨(some 4), none, (.mv (.const (.bool false)))⟩ .done)) .ret) .skip)))
 (.reg false (.op false ⟨(some 41), none, (.mv (.tmp 5))⟩
  (.op false ⟨(some 42), none, (.bin .add (.tmp 41) (.const (.int .i64 1)))⟩
  (.op false ⟨(some 5), none, (.mv (.tmp 42))⟩ .done)))))))))
 (.seq
 (.reg false (.op false ⟨(some 4), none, (.mv (.const (.bool true)))⟩ .done)) .ret))))⟩

theorem same_ok {P : Program} {f f1 : FuncId} (hd : dec P f = some (g_thimbleref20_Same f1)) (h1 : ListsOk P f1) : SameOk P f := by
  intro d cs ds n m hn hm
  obtain ⟨la, ks, vs, is⟩ := n
  obtain ⟨lb, ks', vs', is'⟩ := m
  obtain ⟨kv, vv, iv, rfl, hk, hv, hi⟩ : ∃ kv vv iv, cs = [.bool la, kv, vv, iv] ∧ RBss d kv ks ∧ RBss d vv vs ∧ RInts d iv is := hn
  obtain ⟨kv', vv', iv', rfl, hk', hv', hi'⟩ : ∃ kv vv iv, ds = [.bool lb, kv, vv, iv] ∧ RBss d kv ks' ∧ RBss d vv vs' ∧ RInts d iv is' := hm
  refine GCall_of hd (Nat.le_of_ble_eq_true rfl) ?_
  have hil := RSl.len_le hi
  show gwp P _ _ _ _ _
  (apply w_sq; apply w_reg; apply w_boxa; rfl; intro _ _; apply w_boxa; rfl; intro _ _; apply w_mvb; rfl; apply w_done0; apply w_sq; apply w_sq; apply w_reg; apply w_fld; rfl; apply w_ld; rfl; exact hc_i 1 rfl rfl; apply w_fld; rfl; apply w_ld; rfl; exact hc_i 0 rfl rfl; apply w_eqb; rfl; rfl; apply w_mvb; rfl)
  rename_i b T b' T'
  by_cases e1 : la = lb
  · have e1' : (true ^^ la == lb) = false := by simp [e1]
    (apply w_gbF; rfl; (with_reducible assumption); apply w_gT; rfl; apply w_fld; rfl; apply w_gT; rfl; apply w_ld; rfl; exact hc_i 1 rfl rfl; apply w_gT; rfl; apply w_fld; rfl; apply w_gT; rfl; apply w_ld; rfl; exact hc_i 0 rfl rfl; apply w_gT; rfl)
    refine w_pure rfl (h1 hk hk') ?_
    (apply w_gT; rfl; apply w_not; rfl; apply w_pickFb; rfl; rfl; apply w_mvb; rfl)
    by_cases e2 : ks = ks'
    · have e2' : (!decide (ks = ks')) = false := by simp [e2]
      (apply w_gbF; rfl; (with_reducible assumption); apply w_gT; rfl; apply w_fld; rfl; apply w_gT; rfl; apply w_ld; rfl; exact hc_i 1 rfl rfl; apply w_gT; rfl; apply w_fld; rfl; apply w_gT; rfl; apply w_ld; rfl; exact hc_i 0 rfl rfl; apply w_gT; rfl)
      refine w_pure rfl (h1 hv hv') ?_
      (apply w_gT; rfl; apply w_not; rfl; apply w_pickFb; rfl; rfl; apply w_mvb; rfl)
      by_cases e3 : vs = vs'
      · have e3' : (!decide (vs = vs')) = false := by simp [e3]
        (apply w_gbF; rfl; (with_reducible assumption); apply w_gT; rfl; apply w_fld; rfl; apply w_gT; rfl; apply w_ld; rfl; exact hc_i 1 rfl rfl; apply w_gT; rfl; apply w_lenR; rfl; assumption; apply w_gT; rfl; apply w_fld; rfl; apply w_gT; rfl; apply w_ld; rfl; exact hc_i 0 rfl rfl; apply w_gT; rfl; apply w_lenR; rfl; assumption; apply w_gT; rfl; apply w_neq; rfl; rfl; apply w_pickFb; rfl; rfl; apply w_done0)
        first | refine w_ifd rfl (fun h => ?_) (fun h => ?_) | refine w_if rfl (fun h => ?_) (fun h => ?_)
        · (apply w_sq; apply w_reg; apply w_mvb; rfl; apply w_done0; apply w_ret)
          (apply finPb; rfl)
          simp [e1, e2, e3]; intro e; subst e; exact h rfl
        · (apply w_skip; apply w_sq; apply w_sq; apply w_reg; apply w_mvi; rfl; apply w_done0; apply w_block)
          refine w_loopN (α := Nat) (fun k => [(2, .pointer (some ⟨b, 0, none⟩)), (3, .pointer (some ⟨b', 0, none⟩)), (5, .int .i64 k)])
            (fun _ => [bx b' T' [.bool lb, kv', vv', iv'], bx b T [.bool la, kv, vv, iv]]) (fun k => k ≤ is.length ∧ is.take k = is'.take k) (fun k => is.length - k) 0 ⟨rfl, rfl, rfl, trivial⟩ rfl ⟨Nat.zero_le _, rfl⟩ ?_
          rintro k ρ ⟨hkl, he⟩
          (apply w_sq; apply w_sq; apply w_reg; apply w_mvi; rfl; apply w_fld; rfl; apply w_ld; rfl; exact hc_i 1 rfl rfl; apply w_lenR; rfl; assumption; apply w_lss; rfl; rfl; apply w_done0)
          first | refine w_ifd rfl (fun h4 => ?_) (fun h4 => ?_) | refine w_if rfl (fun h4 => ?_) (fun h4 => ?_)
          · have hk1 : k < is.length := by omega
            (apply w_skip; apply w_sq; apply w_block; apply w_sq; apply w_drawn; apply w_fld; rfl; apply w_ld; rfl; exact hc_i 1 rfl rfl; apply w_mvi; rfl; refine w_idxR (sz := 1) (R := RInt) (by rfl) (by assumption) (by rfl) rfl (by omega) ?_; rintro _ _ _ _ _ ⟨rfl, _, _⟩; apply w_ld; rfl; exact hc_ds0 (by assumption) rfl; apply w_fld; rfl; apply w_ld; rfl; exact hc_i 0 rfl rfl; apply w_mvi; rfl; refine w_idxR (sz := 1) (R := RInt) (by rfl) (by assumption) (by rfl) rfl (by omega) ?_; rintro _ _ _ _ _ ⟨rfl, _, _⟩; apply w_ld; rfl; exact hc_ds0 (by assumption) rfl; apply w_neq; rfl; rfl; apply w_done)
            first | refine w_ifd rfl (fun h5 => ?_) (fun h5 => ?_) | refine w_if rfl (fun h5 => ?_) (fun h5 => ?_)
            · (apply w_sq; apply w_reg; apply w_mvb; rfl; apply w_done0; apply w_ret)
              (apply finPb; rfl)
              simp [e1, e2, e3]; exact list_ne hk1 (by omega) h5
            · (apply w_skip; apply w_reg; apply w_mvi; rfl; apply w_add; rfl; rfl; omega; omega; apply w_mvi; rfl; apply w_done0)
              exact ⟨k + 1, by omega, ⟨rfl, rfl, int_eq (by omega), trivial⟩, rfl, rfl, by omega, list_take hk1 (by omega) (by simpa using h5) he⟩
          · (apply w_exit; apply w_sq; apply w_reg; apply w_mvb; rfl; apply w_done0; apply w_ret)
            (apply finPb; rfl)
            rw [List.take_of_length_le (by omega), List.take_of_length_le (by omega)] at he
            simp [e1, e2, e3, he]
      · have e3' : (!decide (vs = vs')) = true := by simp [e3]
        (apply w_gbT; rfl; (with_reducible assumption); apply w_gF; rfl; apply w_gF; rfl; apply w_gF; rfl; apply w_gF; rfl; apply w_gF; rfl; apply w_gF; rfl; apply w_gF; rfl; apply w_pickTb; rfl; rfl; apply w_done0; apply w_ifT; rfl; apply w_sq; apply w_reg; apply w_mvb; rfl; apply w_done0; apply w_ret)
        (apply finPb; rfl)
        simp [e3]
    · have e2' : (!decide (ks = ks')) = true := by simp [e2]
      (apply w_gbT; rfl; (with_reducible assumption); apply w_gF; rfl; apply w_gF; rfl; apply w_gF; rfl; apply w_gF; rfl; apply w_gF; rfl; apply w_gF; rfl; apply w_pickTb; rfl; rfl; apply w_mvb; rfl; apply w_gF; rfl; apply w_gF; rfl; apply w_gF; rfl; apply w_gF; rfl; apply w_gF; rfl; apply w_gF; rfl; apply w_gF; rfl; apply w_pickTb; rfl; rfl; apply w_done0; apply w_ifT; rfl; apply w_sq; apply w_reg; apply w_mvb; rfl; apply w_done0; apply w_ret)
      (apply finPb; rfl)
      simp [e2]
  · have e1' : (true ^^ la == lb) = true := by cases la <;> cases lb <;> simp_all
    (apply w_gbT; rfl; (with_reducible assumption); apply w_gF; rfl; apply w_gF; rfl; apply w_gF; rfl; apply w_gF; rfl; apply w_gF; rfl; apply w_gF; rfl; apply w_pickTb; rfl; rfl; apply w_mvb; rfl; apply w_gF; rfl; apply w_gF; rfl; apply w_gF; rfl; apply w_gF; rfl; apply w_gF; rfl; apply w_gF; rfl; apply w_pickTb; rfl; rfl; apply w_mvb; rfl; apply w_gF; rfl; apply w_gF; rfl; apply w_gF; rfl; apply w_gF; rfl; apply w_gF; rfl; apply w_gF; rfl; apply w_gF; rfl; apply w_pickTb; rfl; rfl; apply w_done0; apply w_ifT; rfl; apply w_sq; apply w_reg; apply w_mvb; rfl; apply w_done0; apply w_ret)
    (apply finPb; rfl)
    simp [e1]

/-! ### the reference's page -/
def NumberOk (P : Program) (f : FuncId) : Prop := ∀ {d : PHeap} {k : Int}, 0 ≤ k → k ≤ 65535 → GCall P f [.int .i64 k] d [] (Ret fun r d' L' => d' = d ∧ ∃ h, L' = [h] ∧ GRow 1 RByte d r (numB k) h)
def g_thimbleref20_number : GFun :=
 ⟨10, [(.tmp 2)],
 (.seq
 (.reg false (.op false ⟨(some 2), none, (.mv (.const (.slice none 0 0)))⟩ .done))
 (.seq
 (.reg false (.op false ⟨(some 3), none, (.mv (.tmp 0))⟩
  (.op false ⟨(some 4), none, (.bin .quo (.tmp 3) (.const (.int .i64 256)))⟩
  (.op false ⟨(some 5), none, (.cvi .u8 (.tmp 4))⟩
  (.op false ⟨(some 6), none, (.mv (.tmp 0))⟩
  (.op false ⟨(some 7), none, (.bin .rem (.tmp 6) (.const (.int .i64 256)))⟩
  (.op false ⟨(some 8), none, (.cvi .u8 (.tmp 7))⟩
  (.op false ⟨(some 9), none, (.bsl 2 1 [(.int .u8 0)] [(0, (.tmp 5)), (1, (.tmp 8))])⟩
  (.op false ⟨(some 2), none, (.mv (.tmp 9))⟩ .done))))))))) .ret))⟩

theorem number_ok {P : Program} {f : FuncId} (hd : dec P f = some g_thimbleref20_number) : NumberOk P f := by
  intro d k h1 h2
  refine GCall_of hd (Nat.le_of_ble_eq_true rfl) ?_
  show gwp P _ _ _ _ _
  (apply w_sq; apply w_reg; apply w_mvs; rfl; apply w_done0; apply w_sq; apply w_reg; apply w_mvi; rfl; apply w_quo; rfl; rfl; omega; omega; omega; apply w_cvb; rfl; apply w_mvi; rfl; apply w_rem; rfl; rfl; omega; omega; apply w_cvb; rfl)
  refine w_bsl (cs := (numB k).map byteV) (by omega) (by simp [numB]; rfl) (fun b T => ?_)
  (apply w_mvs; rfl; apply w_done0; apply w_ret)
  exact fin1 (L' := [_]) rfl (List.Sublist.refl _) ⟨rfl, _, rfl, GRow.litB rfl rfl (by simp [numB])⟩

def RPageOk (P : Program) (f : FuncId) : Prop := ∀ {d : PHeap} {cs : List Value} {n : NodeD}, RNode d cs n → soundB n = true → sizeD n ≤ 256 → GPure P f [.agg cs.toArray] d (strV (pageD n))
theorem body_le {n : NodeD} (hs : soundB n = true) (hz : sizeD n ≤ 256) : ∀ k, k ≤ n.keys.length → (bodyD n k).length ≤ 256 := by
  intro k hk
  have h1 := bodyD_len n k
  have h2 := csum_mono n hk
  simp only [sizeD] at hz
  simp only [soundB, Bool.and_eq_true] at hs
  cases h : n.leaf
  · simp only [h, Bool.false_eq_true, if_false, Bool.and_eq_true, decide_eq_true_eq] at hs h1 hz; omega
  · simp only [h, if_true] at hs h1 hz; omega
theorem patch_head {α : Type} {x y : α} {l : List α} : (x :: l).set 0 y = y :: l := rfl
attribute [local irreducible] bodyD
def g_thimbleref20_Page (f_thimbleref20_number : Nat) : GFun :=
 ⟨82, [(.tmp 2)],
 (.seq
 (.reg false (.op false ⟨(some 1), none, (.box (.tmp 0))⟩
  (.op false ⟨(some 2), none, (.mv (.const (strV [])))⟩ .done)))
 (.seq
 (.reg false (.op false ⟨(some 5), none, (.fld 1 (.tmp 1))⟩
  (.op false ⟨(some 6), none, (.ld none (.tmp 5))⟩
  (.op false ⟨(some 7), none, (.len (.tmp 6))⟩
  (.op false ⟨(some 8), none, (.cvi .u8 (.tmp 7))⟩
  (.op false ⟨(some 9), none, (.bsl 2 1 [(.int .u8 0)] [(0, (.const (.int .u8 1))), (1, (.tmp 8))])⟩
  (.op false ⟨(some 3), none, (.mv (.tmp 9))⟩ .done)))))))
 (.seq (.seq
 (.reg false (.op false ⟨(some 10), none, (.fld 0 (.tmp 1))⟩
  (.op false ⟨(some 11), none, (.ld none (.tmp 10))⟩
  (.op false ⟨(some 12), none, (.un .not (.tmp 11))⟩ .done)))) (.cond (.tmp 12)
 (.seq
 (.reg false (.op false ⟨(some 13), none, (.mv (.tmp 3))⟩
  (.op false ⟨(some 14), none, (.idx 1 (.tmp 13) (.const (.int .i64 0)))⟩
  (.op false ⟨none, none, (.st 1 (.tmp 14) (.const (.int .u8 2)))⟩ .done))))
 (.reg false (.op false ⟨(some 15), none, (.mv (.tmp 3))⟩
  (.op false ⟨(some 16), none, (.fld 3 (.tmp 1))⟩
  (.op false ⟨(some 17), none, (.ld none (.tmp 16))⟩
  (.op false ⟨(some 18), none, (.idx 1 (.tmp 17) (.const (.int .i64 0)))⟩
  (.op false ⟨(some 19), none, (.ld none (.tmp 18))⟩
  (.op false ⟨(some 20), none, (.call f_thimbleref20_number [(.tmp 19)])⟩
  (.op false ⟨(some 21), none, (.app 1 1 [(.int .u8 0)] (.tmp 15) (.tmp 20))⟩
  (.op false ⟨(some 3), none, (.mv (.tmp 21))⟩ .done)))))))))) .skip))
 (.seq (.seq
 (.reg false (.op false ⟨(some 4), none, (.mv (.const (.int .i64 0)))⟩ .done)) (.block 0 (.loop
 (.seq (.seq
 (.reg false (.op false ⟨(some 22), none, (.mv (.tmp 4))⟩
  (.op false ⟨(some 23), none, (.fld 1 (.tmp 1))⟩
  (.op false ⟨(some 24), none, (.ld none (.tmp 23))⟩
  (.op false ⟨(some 25), none, (.len (.tmp 24))⟩
  (.op false ⟨(some 26), none, (.bin .lss (.tmp 22) (.tmp 25))⟩ .done)))))) (.cond (.tmp 26) .skip (.exit 0)))
 (.seq (.block 1
 (.seq
 (.reg false (.op false ⟨(some 29), none, (.mv (.tmp 3))⟩
  (.op false ⟨(some 30), none, (.fld 1 (.tmp 1))⟩
  (.op false ⟨(some 31), none, (.ld none (.tmp 30))⟩
  (.op false ⟨(some 32), none, (.mv (.tmp 4))⟩
  (.op false ⟨(some 33), none, (.idx 1 (.tmp 31) (.tmp 32))⟩
  (.op false ⟨(some 34), none, (.ld none (.tmp 33))⟩
  (.op false ⟨(some 35), none, (.len (.tmp 34))⟩
  (.op false ⟨(some 36), none, (.cvi .u8 (.tmp 35))⟩
  (.op false ⟨(some 37), none, (.bsl 1 1 [(.int .u8 0)] [(0, (.tmp 36))])⟩
  (.op false ⟨(some 38), none, (.app 1 1 [(.int .u8 0)] (.tmp 29) (.tmp 37))⟩
  (.op false ⟨(some 3), none, (.mv (.tmp 38))⟩ .done))))))))))))
 (.seq
 (.reg false (.op false ⟨(some 39), none, (.mv (.tmp 3))⟩
  (.op false ⟨(some 40), none, (.fld 1 (.tmp 1))⟩
  (.op false ⟨(some 41), none, (.ld none (.tmp 40))⟩
  (.op false ⟨(some 42), none, (.mv (.tmp 4))⟩
  (.op false ⟨(some 43), none, (.idx 1 (.tmp 41) (.tmp 42))⟩
  (.op false ⟨(some 44), none, (.ld none (.tmp 43))⟩
  (.op false ⟨(some 45), none, (.app 1 1 [(.int .u8 0)] (.tmp 39) (.tmp 44))⟩
  (.op false ⟨(some 3), none, (.mv (.tmp 45))⟩ .done)))))))))
 (.seq
 (.reg false (.op false ⟨(some 46), none, (.fld 0 (.tmp 1))⟩
  (.op false ⟨(some 47), none, (.ld none (.tmp 46))⟩ .done))) (.cond (.tmp 47)
 (.seq
 (.reg false (.op false ⟨(some 48), none, (.mv (.tmp 3))⟩
  (.op false ⟨(some 49), none, (.fld 2 (.tmp 1))⟩
  (.op false ⟨(some 50), none, (.ld none (.tmp 49))⟩
  (.op false ⟨(some 51), none, (.mv (.tmp 4))⟩
  (.op false ⟨(some 52), none, (.idx 1 (.tmp 50) (.tmp 51))⟩
  (.op false ⟨(some 53), none, (.ld none (.tmp 52))⟩
  (.op false ⟨(some 54), none, (.len (.tmp 53))⟩
  (.op false ⟨(some 55), none, (.cvi .u8 (.tmp 54))⟩
  (.op false ⟨(some 56), none, (.bsl 1 1 [(.int .u8 0)] [(0, (.tmp 55))])⟩
  (.op false ⟨(some 57), none, (.app 1 1 [(.int .u8 0)] (.tmp 48) (.tmp 56))⟩
  (.op false ⟨(some 3), none, (.mv (.tmp 57))⟩ .done))))))))))))
 (.reg false (.op false ⟨(some 58), none, (.mv (.tmp 3))⟩
  (.op false ⟨(some 59), none, (.fld 2 (.tmp 1))⟩
  (.op false ⟨(some 60), none, (.ld none (.tmp 59))⟩
  (.op false ⟨(some 61), none, (.mv (.tmp 4))⟩
  (.op false ⟨(some 62), none, (.idx 1 (.tmp 60) (.tmp 61))⟩
  (.op false ⟨(some 63), none, (.ld none (.tmp 62))⟩
  (.op false ⟨(some 64), none, (.app 1 1 [(.int .u8 0)] (.tmp 58) (.tmp 63))⟩
  (.op false ⟨(some 3), none, (.mv (.tmp 64))⟩ .done))))))))))
 (.reg false (.op false ⟨(some 65), none, (.mv (.tmp 3))⟩
  (.op false ⟨(some 66), none, (.fld 3 (.tmp 1))⟩
  (.op false ⟨(some 67), none, (.ld none (.tmp 66))⟩
  (.op false ⟨(some 68), none, (.mv (.tmp 4))⟩
  (.op false ⟨(some 69), none, (.bin .add (.tmp 68) (.const (.int .i64 1)))⟩
  (.op false ⟨(some 70), none, (.idx 1 (.tmp 67) (.tmp 69))⟩
  (.op false ⟨(some 71), none, (.ld none (.tmp 70))⟩
  (.op false ⟨(some 72), none, (.call f_thimbleref20_number [(.tmp 71)])⟩
  (.op false ⟨(some 73), none, (.app 1 1 [(.int .u8 0)] (.tmp 65) (.tmp 72))⟩
  (.op false ⟨(some 3), none, (.mv (.tmp 73))⟩ .done))))))))))))))))
 (.reg false (.op false ⟨(some 27), none, (.mv (.tmp 4))⟩
  (.op false ⟨(some 28), none, (.bin .add (.tmp 27) (.const (.int .i64 1)))⟩
  (.op false ⟨(some 4), none, (.mv (.tmp 28))⟩ .done)))))))))
 (.seq (.block 2 (.loop
 (.seq (.seq
 (.reg false (.op false ⟨(some 74), none, (.mv (.tmp 3))⟩
  (.op false ⟨(some 75), none, (.len (.tmp 74))⟩
  (.op false ⟨(some 76), none, (.bin .lss (.tmp 75) (.const (.int .i64 256)))⟩ .done)))) (.cond (.tmp 76) .skip (.exit 2))) (.block 3
 (.reg false (.op false ⟨(some 77), none, (.mv (.tmp 3))⟩
  (.op false ⟨(some 78), none, (.bsl 1 1 [(.int .u8 0)] [(0, (.const (.int .u8 0)))])⟩
  (.op false ⟨(some 79), none, (.app 1 1 [(.int .u8 0)] (.tmp 77) (.tmp 78))⟩
  (.op false ⟨(some 3), none, (.mv (.tmp 79))⟩ .done)))))))))
 (.seq
 (.reg false (.op false ⟨(some 80), none, (.mv (.tmp 3))⟩
  (.op false ⟨(some 81), none, (.b2s (.tmp 80))⟩
  (.op false ⟨(some 2), none, (.mv (.tmp 81))⟩ .done)))) .ret))))))⟩

theorem rpage_ok {P : Program} {f f1 : FuncId} (hd : dec P f = some (g_thimbleref20_Page f1)) (h1 : NumberOk P f1) : RPageOk P f := by
  intro d cs n hn hs hz
  have hlen := body_le hs hz
  obtain ⟨lf, ks, vs, is⟩ := n
  obtain ⟨kv, vv, iv, rfl, hk, hv, hiv⟩ : ∃ kv vv iv, cs = [.bool lf, kv, vv, iv] ∧ RBss d kv ks ∧ RBss d vv vs ∧ RInts d iv is := hn
  have hkl : ks.length ≤ 140737488355328 := RSl.len_le hk
  have hsl : lf = true → vs.length = ks.length := fun e => by subst e; simp only [soundB, Bool.and_eq_true, if_true, decide_eq_true_eq] at hs; exact hs.2.1.1
  have hsi : lf = false → is.length = ks.length + 1 ∧ ∀ i (h : i < is.length), 0 ≤ is[i] ∧ is[i] ≤ 8191 := fun e => by
    subst e; simp only [soundB, Bool.and_eq_true, Bool.false_eq_true, if_false, decide_eq_true_eq] at hs
    exact ⟨hs.2.1.2, fun i h => by have := List.all_eq_true.1 hs.2.2 _ (List.getElem_mem h); simpa [kidOk] using this⟩
  refine GCall_of hd (Nat.le_of_ble_eq_true rfl) ?_
  show gwp P _ _ _ _ _
  apply w_sq; apply w_reg
  (apply w_boxa; rfl; intro _ _; apply w_mvt; rfl; apply w_done0)
  rename_i b T
  apply w_sq; apply w_reg
  (apply w_fld; rfl; apply w_ld; rfl; exact hc_i 0 rfl rfl; apply w_lenR; rfl; assumption; apply w_cvb; rfl)
  refine w_bsl (cs := [.int .u8 1, byteV (u8n ks.length)]) (by omega) rfl (fun b2 T2 => ?_)
  (apply w_mvs; rfl; apply w_done0)
  refine w_mid (fun ρ d' L' => d' = d ∧ ∃ v h, ρ 1 = .pointer (some ⟨b, 0, none⟩) ∧ ρ 3 = v ∧ L' = [h, bx b T [.bool lf, kv, vv, iv]] ∧ GRow 1 RByte d v (bodyD ⟨lf, ks, vs, is⟩ 0) h) ?_ ?_
  · (apply w_sq; apply w_reg; apply w_fld; rfl; apply w_ld; rfl; exact hc_i 1 rfl rfl; apply w_not; rfl; apply w_done0)
    first | refine w_ifd rfl (fun hl => ?_) (fun hl => ?_) | refine w_if rfl (fun hl => ?_) (fun hl => ?_)
    · have hlf : lf = false := by simpa using hl
      obtain ⟨hi1, hi2⟩ := hsi hlf
      have hi0 := hi2 0 (by omega)
      subst hlf
      (apply w_sq; apply w_reg; apply w_mvs; rfl)
      refine w_idx (b := b2) (o := 0) 0 rfl rfl rfl (by omega) (SAd.some _ b2 0) ?_
      refine w_st (v := .int .u8 2) 0 rfl rfl rfl rfl (by simp [Value.cells]) rfl ?_
      (apply w_done0; apply w_reg; apply w_mvs; rfl; apply w_fld; rfl; apply w_ld; rfl; exact hc_i 1 rfl rfl; refine w_idxR (m := 0) (sz := 1) (R := RInt) (by rfl) (by assumption) (by rfl) rfl (by omega) ?_; rintro _ _ _ _ _ ⟨rfl, _, _⟩; apply w_ld; rfl; exact hc_ds0 (by assumption) rfl)
      refine w_call0 rfl (h1 hi0.1 (by omega)) (fun r d' L' _ ⟨hdd, g, hL, hg⟩ => ?_)
      subst hdd; subst hL
      have hrow : GRow 1 RByte d' (.slice (some ⟨b2, 0, none⟩) 2 2) [2, u8n ks.length] (bx b2 T2 (patch [.int .u8 1, byteV (u8n ks.length)] (0 + 0 * 1) (Value.int .u8 2).cells.toList)) := GRow.litB rfl rfl (by simp)
      refine w_appL 0 rfl rfl hrow rfl hg cell1_byte (by omega) (by simp [numB]) (by simp [numB]) (fun v' h' hrow' => ?_)
      (apply w_mv; apply w_done0)
      refine ⟨rfl, _, _, rfl, rfl, rfl, ?_⟩
      have e : bodyD ⟨false, ks, vs, is⟩ 0 = [2, u8n ks.length] ++ numB (is[0]'(by omega)) := by simp [bodyD, headD, show 0 < is.length by omega]
      rw [e]; exact hrow'
    · have hlf : lf = true := by simpa using hl
      subst hlf
      (apply w_skip)
      exact ⟨rfl, _, _, rfl, rfl, rfl, GRow.litB (by simp [bodyD, headD, byteV]) (by simp [bodyD, headD]) (by simp [bodyD, headD])⟩
  rintro ρ d' L' ⟨hdd, v, h, e1, e3, hL, hrow⟩
  subst hdd; subst hL
  (apply w_sq; apply w_sq; apply w_reg; apply w_mvi; rfl; apply w_done0; apply w_block)
  refine w_loopV (α := Nat) (fun k v => [(1, .pointer (some ⟨b, 0, none⟩)), (3, v), (4, .int .i64 k)])
    (fun k v h d1 L1 => d1 = d' ∧ L1 = [h, bx b T [.bool lf, kv, vv, iv]] ∧ k ≤ ks.length ∧ GRow 1 RByte d' v (bodyD ⟨lf, ks, vs, is⟩ k) h) (fun k => ks.length - k) 0 v h
    ⟨e1, e3, rfl, trivial⟩ ⟨rfl, rfl, Nat.zero_le _, hrow⟩ ?_
  rintro k v3 h3 ρ d1 L1 ⟨hdd, hLL, hle, hrow3⟩
  subst hdd; subst hLL
  have hlk := hlen k hle
  (apply w_sq; apply w_sq; apply w_reg; apply w_mvi; rfl; apply w_fld; rfl; apply w_ld; rfl; exact hc_i 1 rfl rfl; apply w_lenR; rfl; assumption; apply w_lss; rfl; rfl; apply w_done0)
  first | refine w_ifd rfl (fun hk1 => ?_) (fun hk1 => ?_) | refine w_if rfl (fun hk1 => ?_) (fun hk1 => ?_)
  · have hk2 : k < ks.length := by omega
    have hlk' := hlen (k + 1) hk2
    have hgk : ks.getD k [] = ks[k] := by simp [hk2]
    have hkk : ks[k].length ≤ 256 := by simp [bodyD, hk2] at hlk'; omega
    (apply w_skip; apply w_sq; apply w_block; apply w_sq; apply w_reg; apply w_mv; apply w_fld; rfl; apply w_ld; rfl; exact hc_i 1 rfl rfl; apply w_mvi; rfl; refine w_idxR (sz := 1) (R := RBs) (by rfl) (by assumption) (by rfl) rfl (by omega) ?_; rintro _ _ _ _ _ ⟨_, rfl, _⟩; apply w_ld; rfl; exact hc_ds0 (by assumption) rfl; apply w_lenR; rfl; assumption; apply w_cvb; rfl)
    refine w_bsl (cs := [byteV (u8n ks[k].length)]) (by omega) rfl (fun b4 T4 => ?_)
    refine w_appL 0 rfl rfl hrow3 rfl (GRow.litB (l := [u8n ks[k].length]) rfl rfl (by simp)) cell1_byte (by omega) (by simp; omega) (by simp; omega) (fun v4 h4 hrow4 => ?_)
    (apply w_mv; apply w_done0; apply w_sq; apply w_reg; apply w_mv; apply w_fld; rfl; apply w_ld; rfl; exact hc_i 1 rfl rfl; apply w_mvi; rfl; refine w_idxR (sz := 1) (R := RBs) (by rfl) (by assumption) (by rfl) rfl (by omega) ?_; rintro _ _ _ _ _ ⟨_, rfl, _⟩; apply w_ld; rfl; exact hc_ds0 (by assumption) rfl)
    refine w_appG 0 rfl rfl hrow4 rfl (RSl.src (R := RByte) (xs := ks[k]) (by assumption) cell1_byte (by omega) _) (by omega) (by simp; omega) (by simp; omega) (fun v5 h5 hrow5 => ?_)
    (apply w_mv; apply w_done0; apply w_sq; apply w_reg; apply w_fld; rfl; apply w_ld; rfl; exact hc_i 1 rfl rfl; apply w_done0)
    first | refine w_ifd rfl (fun hl => ?_) (fun hl => ?_) | refine w_if rfl (fun hl => ?_) (fun hl => ?_)
    · subst hl
      have hvl := hsl rfl
      have hgv : vs.getD k [] = vs[k] := by simp [show k < vs.length by omega]
      have hvk : vs[k].length ≤ 256 := by simp [bodyD, tailD, hk2, show k < vs.length by omega] at hlk'; omega
      have hbe : bodyD ⟨true, ks, vs, is⟩ (k + 1) = bodyD ⟨true, ks, vs, is⟩ k ++ [u8n ks[k].length] ++ ks[k] ++ [u8n (vs[k]'(by omega)).length] ++ vs[k]'(by omega) := by simp [bodyD, tailD, klen, vlen, hk2, show k < vs.length by omega]
      (apply w_sq; apply w_reg; apply w_mv; apply w_fld; rfl; apply w_ld; rfl; exact hc_i 1 rfl rfl; apply w_mvi; rfl; refine w_idxR (sz := 1) (R := RBs) (by rfl) (by assumption) (by rfl) rfl (by omega) ?_; rintro _ _ _ _ _ ⟨_, rfl, _⟩; apply w_ld; rfl; exact hc_ds0 (by assumption) rfl; apply w_lenR; rfl; assumption; apply w_cvb; rfl)
      refine w_bsl (cs := [byteV (u8n (vs[k]'(by omega)).length)]) (by omega) rfl (fun b6 T6 => ?_)
      refine w_appL 0 rfl rfl hrow5 rfl (GRow.litB (l := [u8n (vs[k]'(by omega)).length]) rfl rfl (by simp)) cell1_byte (by omega) (by simp; omega) (by simp; omega) (fun v6 h6 hrow6 => ?_)
      (apply w_mv; apply w_done0; apply w_reg; apply w_mv; apply w_fld; rfl; apply w_ld; rfl; exact hc_i 1 rfl rfl; apply w_mvi; rfl; refine w_idxR (sz := 1) (R := RBs) (by rfl) (by assumption) (by rfl) rfl (by omega) ?_; rintro _ _ _ _ _ ⟨_, rfl, _⟩; apply w_ld; rfl; exact hc_ds0 (by assumption) rfl)
      refine w_appG 0 rfl rfl hrow6 rfl (RSl.src (R := RByte) (xs := vs[k]'(by omega)) (by assumption) cell1_byte (by omega) _) (by omega) (by simp; omega) (by simp; omega) (fun v7 h7 hrow7 => ?_)
      (apply w_mv; apply w_done0; apply w_reg; apply w_mvi; rfl; apply w_add; rfl; rfl; omega; omega; apply w_mvi; rfl; apply w_done0)
      exact ⟨k + 1, v7, h7, by omega, ⟨rfl, rfl, int_eq (by omega), trivial⟩, rfl, rfl, hk2, by rw [hbe]; exact hrow7⟩
    · subst hl
      obtain ⟨hi1, hi2⟩ := hsi rfl
      have hi0 := hi2 (k + 1) (by omega)
      have hbe : bodyD ⟨false, ks, vs, is⟩ (k + 1) = bodyD ⟨false, ks, vs, is⟩ k ++ [u8n ks[k].length] ++ ks[k] ++ numB (is[k + 1]'(by omega)) := by simp [bodyD, tailD, klen, hk2, show k + 1 < is.length by omega]
      (apply w_reg; apply w_mv; apply w_fld; rfl; apply w_ld; rfl; exact hc_i 1 rfl rfl; apply w_mvi; rfl; apply w_add; rfl; rfl; omega; omega; refine w_idxR (sz := 1) (R := RInt) (by rfl) (by assumption) (by rfl) (Int.natCast_add _ 1).symm (by omega) ?_; rintro _ _ _ _ _ ⟨rfl, _, _⟩; apply w_ld; rfl; exact hc_ds0 (by assumption) rfl)
      refine w_call0 rfl (h1 hi0.1 (by omega)) (fun r d2 L2 _ ⟨hdd, g, hL, hg⟩ => ?_)
      subst hdd; subst hL
      refine w_appL 0 rfl rfl hrow5 rfl hg cell1_byte (by omega) (by simp [numB]; omega) (by simp [numB]; omega) (fun v7 h7 hrow7 => ?_)
      (apply w_mv; apply w_done0; apply w_reg; apply w_mvi; rfl; apply w_add; rfl; rfl; omega; omega; apply w_mvi; rfl; apply w_done0)
      exact ⟨k + 1, v7, h7, by omega, ⟨rfl, rfl, int_eq (by omega), trivial⟩, rfl, rfl, hk2, by rw [hbe]; exact hrow7⟩
  · obtain rfl : k = ks.length := by omega
    (apply w_exit; apply w_sq; apply w_block)
    refine w_loopV (α := Nat) (fun _ v => [(3, v)])
      (fun j v h d2 L1 => d2 = d1 ∧ L1 = [h, bx b T [.bool lf, kv, vv, iv]] ∧ (bodyD ⟨lf, ks, vs, is⟩ ks.length).length + j ≤ 256 ∧ GRow 1 RByte d1 v (bodyD ⟨lf, ks, vs, is⟩ ks.length ++ List.replicate j 0) h) (fun j => 256 - j) 0 v3 h3
      ⟨rfl, trivial⟩ ⟨rfl, rfl, by omega, by simpa using hrow3⟩ ?_
    rintro j v4 h4 ρ d1 L1 ⟨hdd, hLL, hle4, hrow4⟩
    subst hdd; subst hLL
    have hjl : (bodyD ⟨lf, ks, vs, is⟩ ks.length ++ List.replicate j (0 : UInt8)).length = (bodyD ⟨lf, ks, vs, is⟩ ks.length).length + j := by simp
    (apply w_sq; apply w_sq; apply w_reg; apply w_mv; apply w_lenG; rfl; assumption; apply w_lss; rfl; rfl; apply w_done0)
    first | refine w_ifd rfl (fun hj => ?_) (fun hj => ?_) | refine w_if rfl (fun hj => ?_) (fun hj => ?_)
    · have hj' : (bodyD ⟨lf, ks, vs, is⟩ ks.length).length + j < 256 := by rw [← hjl]; omega
      (apply w_skip; apply w_block; apply w_reg; apply w_mv)
      refine w_bsl (cs := [.int .u8 0]) (by omega) rfl (fun b4 T4 => ?_)
      refine w_appL 0 rfl rfl hrow4 rfl (GRow.litB (l := [0]) rfl rfl (by simp)) cell1_byte (by omega) (by simp; omega) (by simp; omega) (fun v5 h5 hrow5 => ?_)
      (apply w_mv; apply w_done0)
      exact ⟨j + 1, v5, h5, by omega, ⟨rfl, trivial⟩, rfl, rfl, by omega, by rw [List.replicate_succ', ← List.append_assoc]; exact hrow5⟩
    · have hj' : 256 - (bodyD ⟨lf, ks, vs, is⟩ ks.length).length = j := by rw [hjl] at hj; omega
      (apply w_exit; apply w_sq; apply w_reg; apply w_mv; refine w_b2sG (by rfl) (by assumption) (by simp [lk]) ?_; apply w_mvt; rfl; apply w_done0; apply w_ret)
      refine fin1n (v := strV (bodyD ⟨lf, ks, vs, is⟩ ks.length ++ List.replicate j 0)) rfl ⟨?_, rfl, rfl⟩
      simp only [pageD, hj']
end Go.Gk.Node
