/-
  Nodes: where a key lies.
-/
import Derived.Test.YtjbpdhljjhpeeaaGkNode4
namespace Go.Gk.Node
open Go Go.Gk
attribute [local irreducible] gwp gws

theorem tw_len {α : Type} {p : α → Bool} : ∀ {l : List α} {i : Nat}, i ≤ l.length → (∀ j (h : j < l.length), j < i → p l[j] = true) → (∀ h : i < l.length, p l[i] = false) → (l.takeWhile p).length = i
  | [], i, hi, _, _ => by simp at hi; subst hi; rfl
  | a :: l, 0, _, _, h => by
    have := h (by simp)
    simp at this
    simp [List.takeWhile, this]
  | a :: l, i + 1, hi, h1, h2 => by
    have ha : p a = true := h1 0 (by simp) (by omega)
    have := tw_len (p := p) (l := l) (i := i) (by simpa using hi) (fun j h hj => by have := h1 (j + 1) (by simpa using h) (by omega); simpa using this) (fun h => by have := h2 (by simpa using h); simpa using this)
    simp [List.takeWhile, ha, this]
theorem tw_lt {α : Type} {p : α → Bool} : ∀ {l : List α} {j : Nat} (hj : j < l.length), j < (l.takeWhile p).length → p l[j] = true
  | [], j, hj, _ => by simp at hj
  | a :: l, j, hj, h => by
    simp only [List.takeWhile_cons] at h
    by_cases ha : p a = true
    · cases j with
      | zero => exact ha
      | succ j => simp only [ha, if_true, List.length_cons] at h; exact tw_lt (l := l) (by simpa using hj) (by omega)
    · simp [ha] at h
theorem tw_stop {α : Type} {p : α → Bool} : ∀ {l : List α} {i : Nat} (_ : i = (l.takeWhile p).length) (hi : i < l.length), p l[i] = false
  | [], i, _, hi => by simp at hi
  | a :: l, i, e, hi => by
    simp only [List.takeWhile_cons] at e
    by_cases ha : p a = true
    · simp only [ha, if_true, List.length_cons] at e
      subst e
      exact tw_stop (l := l) rfl (by simpa using hi)
    · simp [ha] at e
      subst e
      simpa using ha
theorem tw_le {α : Type} {p : α → Bool} : ∀ (l : List α), (l.takeWhile p).length ≤ l.length
  | [] => by simp
  | a :: l => by
    simp only [List.takeWhile]
    split
    · have := tw_le (p := p) l; simp; omega
    · simp
/-- One element more. -/
theorem tw_snoc {α : Type} {p : α → Bool} (x : α) : ∀ (l : List α), ((l ++ [x]).takeWhile p).length = if (l.takeWhile p).length = l.length ∧ p x = true then l.length + 1 else (l.takeWhile p).length
  | [] => by cases h : p x <;> simp [List.takeWhile, h]
  | a :: l => by
    have ih := tw_snoc (p := p) x l
    simp only [List.cons_append, List.takeWhile_cons]
    by_cases h : p a = true
    · simp only [h, if_true, List.length_cons, ih, Nat.add_right_cancel_iff]
      split <;> rfl
    · simp [h]

def leB (a b : List UInt8) : Bool := Op.bytesLess a b || decide (a = b)
def EqualOk (P : Program) (f : FuncId) : Prop := ∀ {d : PHeap} {u v : Value} {a b : List UInt8}, RBytes d u a → RBytes d v b → GPure P f [u, v] d (.bool (decide (a = b)))
def g_bytes_Equal : GFun :=
 ⟨10, [(.tmp 4)],
 (.seq
 (.reg false (.op false ⟨(some 4), none, (.mv (.const (.bool false)))⟩ .done))
 (.seq
 (.reg false (.op false ⟨(some 5), none, (.mv (.tmp 0))⟩
  (.op false ⟨(some 6), none, (.b2s (.tmp 5))⟩
  (.op false ⟨(some 7), none, (.mv (.tmp 1))⟩
  (.op false ⟨(some 8), none, (.b2s (.tmp 7))⟩
  (.op false ⟨(some 9), none, (.bin .eql (.tmp 6) (.tmp 8))⟩
  (.op false ⟨(some 4), none, (.mv (.tmp 9))⟩ .done))))))) .ret))⟩

theorem equal_ok {P : Program} {f : FuncId} (hd : dec P f = some g_bytes_Equal) : EqualOk P f := by
  intro d u v a b hu hv
  refine GCall_of hd (Nat.le_of_ble_eq_true rfl) ?_
  show gwp P _ _ _ _ _
  (apply w_sq; apply w_reg; apply w_mvb; rfl; apply w_done0; apply w_sq; apply w_reg; apply w_mv; apply w_b2sR; rfl; assumption; apply w_mv; apply w_b2sR; rfl; assumption; apply w_seq; rfl; rfl; apply w_mvb; rfl; apply w_done0; apply w_ret)
  (apply finPb; rfl)
  rfl

/-- Where the first key that is not below lies. -/
def low (n : NodeD) (key : List UInt8) : Nat := (n.keys.takeWhile (Op.bytesLess · key)).length
/-- The program's answer. -/
def findD (n : NodeD) (key : List UInt8) : Nat × Bool :=
  if n.leaf then (low n key, decide (low n key < n.keys.length) && decide (n.keys.getD (low n key) [] = key)) else (low n key + ((n.keys.drop (low n key)).takeWhile (fun k => decide (k = key))).length, false)
/-- The reference's. -/
def rfindD (n : NodeD) (key : List UInt8) : Nat × Bool :=
  if n.leaf then (low n key, decide (low n key < n.keys.length) && decide (n.keys.getD (low n key) [] = key)) else ((n.keys.takeWhile (leB · key)).length, false)

def FindOk (P : Program) (f : FuncId) (F : NodeD → List UInt8 → Nat × Bool) : Prop := ∀ {d : PHeap} {cs : List Value} {n : NodeD} {v : Value} {key : List UInt8}, RNode d cs n → RBytes d v key →
  GPure P f [.agg cs.toArray, v] d (.tuple #[.int .i64 (F n key).1, .bool (F n key).2])

def g_node_Find (f_bytes_Compare f_bytes_Equal : Nat) : GFun :=
 ⟨60, [(.tmp 4), (.tmp 5)],
 (.seq
 (.reg false (.op false ⟨(some 2), none, (.box (.tmp 0))⟩
  (.op false ⟨(some 4), none, (.mv (.const (.int .i64 0)))⟩
  (.op false ⟨(some 5), none, (.mv (.const (.bool false)))⟩ .done))))
 (.seq
 (.reg false (.op false ⟨(some 6), none, (.mv (.const (.int .i64 0)))⟩ .done))
 (.seq (.block 0 (.loop
 (.seq (.seq
 (.reg false (.op false ⟨(some 8), none, (.mv (.tmp 6))⟩
  (.op false ⟨(some 9), none, (.fld 1 (.tmp 2))⟩
  (.op false ⟨(some 10), none, (.ld none (.tmp 9))⟩
  (.op false ⟨(some 11), none, (.len (.tmp 10))⟩
  (.op false ⟨(some 12), none, (.bin .lss (.tmp 8) (.tmp 11))⟩
  (.op false ⟨(some 13), none, (.mv (.tmp 12))⟩
  (.op false ⟨(some 14), (some (13, true)), (.fld 1 (.tmp 2))⟩
  (.op false ⟨(some 15), (some (13, true)), (.ld none (.tmp 14))⟩
  (.op false ⟨(some 16), (some (13, true)), (.mv (.tmp 6))⟩
  (.op false ⟨(some 17), (some (13, true)), (.idx 1 (.tmp 15) (.tmp 16))⟩
  (.op false ⟨(some 18), (some (13, true)), (.ld none (.tmp 17))⟩
  (.op false ⟨(some 19), (some (13, true)), (.mv (.tmp 1))⟩
  (.op false ⟨(some 20), (some (13, true)), (.call f_bytes_Compare [(.tmp 18), (.tmp 19)])⟩
  (.op false ⟨(some 21), (some (13, true)), (.bin .lss (.tmp 20) (.const (.int .i64 0)))⟩
  (.op false ⟨(some 22), none, (.pick (.tmp 13) (.tmp 21) (.const (.bool false)))⟩ .done)))))))))))))))) (.cond (.tmp 22) .skip (.exit 0))) (.block 1
 (.reg false (.op false ⟨(some 23), none, (.mv (.tmp 6))⟩
  (.op false ⟨(some 24), none, (.bin .add (.tmp 23) (.const (.int .i64 1)))⟩
  (.op false ⟨(some 6), none, (.mv (.tmp 24))⟩ .done))))))))
 (.seq
 (.reg false (.op false ⟨(some 25), none, (.mv (.tmp 6))⟩
  (.op false ⟨(some 26), none, (.fld 1 (.tmp 2))⟩
  (.op false ⟨(some 27), none, (.ld none (.tmp 26))⟩
  (.op false ⟨(some 28), none, (.len (.tmp 27))⟩
  (.op false ⟨(some 29), none, (.bin .lss (.tmp 25) (.tmp 28))⟩
  (.op false ⟨(some 30), none, (.mv (.tmp 29))⟩
  (.op false ⟨(some 31), (some (30, true)), (.fld 1 (.tmp 2))⟩
  (.op false ⟨(some 32), (some (30, true)), (.ld none (.tmp 31))⟩
  (.op false ⟨(some 33), (some (30, true)), (.mv (.tmp 6))⟩
  (.op false ⟨(some 34), (some (30, true)), (.idx 1 (.tmp 32) (.tmp 33))⟩
  (.op false ⟨(some 35), (some (30, true)), (.ld none (.tmp 34))⟩
  (.op false ⟨(some 36), (some (30, true)), (.mv (.tmp 1))⟩
  (.op false ⟨(some 37), (some (30, true)), (.call f_bytes_Equal [(.tmp 35), (.tmp 36)])⟩
  (.op false ⟨(some 38), none, (.pick (.tmp 30) (.tmp 37) (.const (.bool false)))⟩
  (.op false ⟨(some 7), none, (.mv (.tmp 38))⟩ .done))))))))))))))))
 (.seq (.seq
 (.reg false (.op false ⟨(some 39), none, (.fld 0 (.tmp 2))⟩
  (.op false ⟨(some 40), none, (.ld none (.tmp 39))⟩ .done))) (.cond (.tmp 40)
 (.seq
 (.reg false (.op false ⟨(some 41), none, (.mv (.tmp 6))⟩
  (.op false ⟨(some 42), none, (.mv (.tmp 7))⟩
  (.op false ⟨(some 4), none, (.mv (.tmp 41))⟩
  (.op false ⟨(some 5), none, (.mv (.tmp 42))⟩ .done))))) .ret) .skip))
 (.seq (.block 2 (.loop
 (.seq (.seq
 (.reg false (.op false ⟨(some 43), none, (.mv (.tmp 6))⟩
  (.op false ⟨(some 44), none, (.fld 1 (.tmp 2))⟩
  (.op false ⟨(some 45), none, (.ld none (.tmp 44))⟩
  (.op false ⟨(some 46), none, (.len (.tmp 45))⟩
  (.op false ⟨(some 47), none, (.bin .lss (.tmp 43) (.tmp 46))⟩
  (.op false ⟨(some 48), none, (.mv (.tmp 47))⟩
  (.op false ⟨(some 49), (some (48, true)), (.fld 1 (.tmp 2))⟩
  (.op false ⟨(some 50), (some (48, true)), (.ld none (.tmp 49))⟩
  (.op false ⟨(some 51), (some (48, true)), (.mv (.tmp 6))⟩
  (.op false ⟨(some 52), (some (48, true)), (.idx 1 (.tmp 50) (.tmp 51))⟩
  (.op false ⟨(some 53), (some (48, true)), (.ld none (.tmp 52))⟩
  (.op false ⟨(some 54), (some (48, true)), (.mv (.tmp 1))⟩
  (.op false ⟨(some 55), (some (48, true)), (.call f_bytes_Equal [(.tmp 53), (.tmp 54)])⟩
  (.op false ⟨(some 56), none, (.pick (.tmp 48) (.tmp 55) (.const (.bool false)))⟩ .done))))))))))))))) (.cond (.tmp 56) .skip (.exit 2))) (.block 3
 (.reg false (.op false ⟨(some 57), none, (.mv (.tmp 6))⟩
  (.op false ⟨(some 58), none, (.bin .add (.tmp 57) (.const (.int .i64 1)))⟩
  (.op false ⟨(some 6), none, (.mv (.tmp 58))⟩ .done))))))))
 (.seq
 (.reg false (.op false ⟨(some 59), none, (.mv (.tmp 6))⟩
  (.op false ⟨(some 4), none, (.mv (.tmp 59))⟩
  (.op false ⟨(some 5), none, (.mv (.const (.bool false)))⟩ .done)))) .ret)))))))⟩

theorem find_ok {P : Program} {f f1 f2 : FuncId} (hd : dec P f = some (g_node_Find f1 f2)) (h1 : CompareOk P f1) (h2 : EqualOk P f2) : FindOk P f findD := by
  intro d cs n v key hn hkey
  obtain ⟨lf, ks, vs, is⟩ := n
  obtain ⟨kv, vv, iv, rfl, hk, hv, hiv⟩ : ∃ kv vv iv, cs = [.bool lf, kv, vv, iv] ∧ RBss d kv ks ∧ RBss d vv vs ∧ RInts d iv is := hn
  refine GCall_of hd (Nat.le_of_ble_eq_true rfl) ?_
  obtain ⟨ka, kc, kb, ko, rfl, kA, kS, kN, kl, km, kB, kx⟩ := hk
  show gwp P _ _ _ _ _
  (apply w_sq; apply w_reg; apply w_boxa; rfl; intro _ _; apply w_mvi; rfl; apply w_mvb; rfl; apply w_done0; apply w_sq; apply w_reg; apply w_mvi; rfl; apply w_done0; apply w_sq; apply w_block)
  rename_i b T
  refine w_loopN (α := Nat) (fun k => [(1, v), (2, .pointer (some ⟨b, 0, none⟩)), (6, .int .i64 k)])
    (fun _ => [bx b T [.bool lf, .slice ka ks.length kc, vv, iv]]) (fun k => k ≤ ks.length ∧ ∀ j (h : j < ks.length), j < k → Op.bytesLess ks[j] key = true) (fun k => ks.length - k) 0 ⟨rfl, rfl, rfl, trivial⟩ rfl ⟨Nat.zero_le _, fun j _ h => by omega⟩ ?_
  rintro k ρ ⟨hle, hlt⟩
  have hstop : (∀ h : k < ks.length, Op.bytesLess ks[k] key = false) → low ⟨lf, ks, vs, is⟩ key = k := fun h => tw_len hle hlt h
  by_cases h : k < ks.length
  · obtain ⟨c0, hc0, hD0, ⟨u0, rfl, hu0⟩⟩ := kx k h
    replace hD0 := hD0.one
    have hc := cmp_lt ks[k] key
    cases hb : Op.bytesLess ks[k] key with
    | true =>
      have hb' : Lib.compareBytes ks[k] key < 0 := hc.2 hb
      (apply w_sq; apply w_sq; apply w_reg; apply w_mvi; rfl; apply w_fld; rfl; apply w_ld; rfl; exact hc_i 0 rfl rfl; apply w_len; rfl; apply w_lss; rfl; rfl; apply w_mvb; rfl; refine w_gdT rfl (by omega) ?_; apply w_gT; rfl; apply w_fld; rfl; apply w_gT; rfl; apply w_ld; rfl; exact hc_i 0 rfl rfl; apply w_gT; rfl; apply w_mvi; rfl; apply w_gT; rfl; apply w_idx; rfl; rfl; rfl; omega; assumption; apply w_gT; rfl; apply w_ld; rfl; exact hc_d (by assumption); apply w_gT; rfl; apply w_mv; apply w_gT; rfl)
      refine w_pure rfl (h1 hu0 hkey) ?_
      (apply w_gT; rfl; apply w_lss; rfl; rfl; apply w_pickTb; rfl; rfl; apply w_done0; refine w_ifdT rfl (by omega) ?_; apply w_skip; apply w_block; apply w_reg; apply w_mvi; rfl; apply w_add; rfl; rfl; omega; omega; apply w_mvi; rfl; apply w_done0)
      refine ⟨k + 1, by omega, ⟨rfl, rfl, int_eq (by omega), trivial⟩, rfl, rfl, by omega, fun j hj hjk => ?_⟩
      by_cases e : j = k
      · subst e; exact hb
      · exact hlt j hj (by omega)
    | false =>
      have hb' : ¬ Lib.compareBytes ks[k] key < 0 := fun h0 => by rw [hc.1 h0] at hb; cases hb
      have hl := hstop (fun _ => hb)
      cases lf
      · (apply w_sq; apply w_sq; apply w_reg; apply w_mvi; rfl; apply w_fld; rfl; apply w_ld; rfl; exact hc_i 0 rfl rfl; apply w_len; rfl; apply w_lss; rfl; rfl; apply w_mvb; rfl; refine w_gdT rfl (by omega) ?_; apply w_gT; rfl; apply w_fld; rfl; apply w_gT; rfl; apply w_ld; rfl; exact hc_i 0 rfl rfl; apply w_gT; rfl; apply w_mvi; rfl; apply w_gT; rfl; apply w_idx; rfl; rfl; rfl; omega; assumption; apply w_gT; rfl; apply w_ld; rfl; exact hc_d (by assumption); apply w_gT; rfl; apply w_mv; apply w_gT; rfl)
        refine w_pure rfl (h1 hu0 hkey) ?_
        (apply w_gT; rfl; apply w_lss; rfl; rfl; apply w_pickTb; rfl; rfl; apply w_done0; refine w_ifdF rfl (by omega) ?_; apply w_exit; apply w_sq; apply w_reg; apply w_mvi; rfl; apply w_fld; rfl; apply w_ld; rfl; exact hc_i 0 rfl rfl; apply w_len; rfl; apply w_lss; rfl; rfl; apply w_mvb; rfl; refine w_gdT rfl (by omega) ?_; apply w_gT; rfl; apply w_fld; rfl; apply w_gT; rfl; apply w_ld; rfl; exact hc_i 0 rfl rfl; apply w_gT; rfl; apply w_mvi; rfl; apply w_gT; rfl; apply w_idx; rfl; rfl; rfl; omega; assumption; apply w_gT; rfl; apply w_ld; rfl; exact hc_d (by assumption); apply w_gT; rfl; apply w_mv; apply w_gT; rfl)
        refine w_pure rfl (h2 hu0 hkey) ?_
        (apply w_pickTb; rfl; rfl; apply w_mvb; rfl; apply w_done0; apply w_sq; apply w_sq; apply w_reg; apply w_fld; rfl; apply w_ld; rfl; exact hc_i 0 rfl rfl; apply w_done0; apply w_ifF; rfl; apply w_skip; apply w_sq; apply w_block)
        refine w_loopN (α := Nat) (fun j => [(1, v), (2, .pointer (some ⟨b, 0, none⟩)), (6, .int .i64 j)])
          (fun _ => [bx b T [.bool false, .slice ka ks.length kc, vv, iv]]) (fun j => k ≤ j ∧ j ≤ ks.length ∧ ∀ m (h : m < ks.length), k ≤ m → m < j → ks[m] = key) (fun j => ks.length - j) k ⟨rfl, rfl, int_eq (by omega), trivial⟩ rfl ⟨Nat.le_refl _, by omega, fun m _ h1 h2 => by omega⟩ ?_
        rintro j ρ ⟨hkj, hjl, hje⟩
        have hfin : (∀ h : j < ks.length, ¬ ks[j] = key) → findD ⟨false, ks, vs, is⟩ key = (j, false) := fun hs => by
          have : ((ks.drop k).takeWhile (fun k => decide (k = key))).length = j - k := tw_len (by simp; omega) (fun m hm hmj => by
            have := hje (k + m) (by simp at hm; omega) (by omega) (by omega)
            simpa using this) (fun hm => by
            have := hs (by simp at hm; omega)
            simp only [List.getElem_drop, show k + (j - k) = j by omega]
            simpa using this)
          simp only [findD, hl, Bool.false_eq_true, if_false, this]
          rw [show k + (j - k) = j by omega]
        by_cases h7 : j < ks.length
        · obtain ⟨c1, hc1, hD1, ⟨u1, rfl, hu1⟩⟩ := kx j h7
          replace hD1 := hD1.one
          by_cases h8 : ks[j] = key
          · have h9 : decide (ks[j] = key) = true := by simp [h8]
            (apply w_sq; apply w_sq; apply w_reg; apply w_mvi; rfl; apply w_fld; rfl; apply w_ld; rfl; exact hc_i 0 rfl rfl; apply w_len; rfl; apply w_lss; rfl; rfl; apply w_mvb; rfl; refine w_gdT rfl (by omega) ?_; apply w_gT; rfl; apply w_fld; rfl; apply w_gT; rfl; apply w_ld; rfl; exact hc_i 0 rfl rfl; apply w_gT; rfl; apply w_mvi; rfl; apply w_gT; rfl; apply w_idx; rfl; rfl; rfl; omega; assumption; apply w_gT; rfl; apply w_ld; rfl; exact hc_d (by assumption); apply w_gT; rfl; apply w_mv; apply w_gT; rfl)
            refine w_pure rfl (h2 hu1 hkey) ?_
            (apply w_pickTb; rfl; rfl; apply w_done0; refine w_ifdT rfl (by omega) ?_; apply w_skip; apply w_block; apply w_reg; apply w_mvi; rfl; apply w_add; rfl; rfl; omega; omega; apply w_mvi; rfl; apply w_done0)
            refine ⟨j + 1, by omega, ⟨rfl, rfl, int_eq (by omega), trivial⟩, rfl, rfl, by omega, by omega, fun m hm h1' h2' => ?_⟩
            by_cases e : m = j
            · subst e; exact h8
            · exact hje m hm h1' (by omega)
          · have h9 : decide (ks[j] = key) = false := by simp [h8]
            (apply w_sq; apply w_sq; apply w_reg; apply w_mvi; rfl; apply w_fld; rfl; apply w_ld; rfl; exact hc_i 0 rfl rfl; apply w_len; rfl; apply w_lss; rfl; rfl; apply w_mvb; rfl; refine w_gdT rfl (by omega) ?_; apply w_gT; rfl; apply w_fld; rfl; apply w_gT; rfl; apply w_ld; rfl; exact hc_i 0 rfl rfl; apply w_gT; rfl; apply w_mvi; rfl; apply w_gT; rfl; apply w_idx; rfl; rfl; rfl; omega; assumption; apply w_gT; rfl; apply w_ld; rfl; exact hc_d (by assumption); apply w_gT; rfl; apply w_mv; apply w_gT; rfl)
            refine w_pure rfl (h2 hu1 hkey) ?_
            (apply w_pickTb; rfl; rfl; apply w_done0; refine w_ifdF rfl (by omega) ?_; apply w_exit; apply w_sq; apply w_reg; apply w_mvi; rfl; apply w_mvi; rfl; apply w_mvb; rfl; apply w_done0; apply w_ret)
            refine fin2n rfl rfl ⟨?_, rfl, rfl⟩
            (rw [hfin (fun _ => h8)]; rfl)
        · have e' : j = ks.length := by omega
          subst e'
          (apply w_sq; apply w_sq; apply w_reg; apply w_mvi; rfl; apply w_fld; rfl; apply w_ld; rfl; exact hc_i 0 rfl rfl; apply w_len; rfl; apply w_lss; rfl; rfl; apply w_mvb; rfl; refine w_gdF rfl (by omega) ?_; apply w_gF; rfl; apply w_gF; rfl; apply w_gF; rfl; apply w_gF; rfl; apply w_gF; rfl; apply w_gF; rfl; apply w_gF; rfl; apply w_pickFb; rfl; rfl; apply w_done0; apply w_ifF; rfl; apply w_exit; apply w_sq; apply w_reg; apply w_mvi; rfl; apply w_mvi; rfl; apply w_mvb; rfl; apply w_done0; apply w_ret)
          refine fin2n rfl rfl ⟨?_, rfl, rfl⟩
          (rw [hfin (fun h => absurd h (Nat.lt_irrefl _))]; rfl)
      · (apply w_sq; apply w_sq; apply w_reg; apply w_mvi; rfl; apply w_fld; rfl; apply w_ld; rfl; exact hc_i 0 rfl rfl; apply w_len; rfl; apply w_lss; rfl; rfl; apply w_mvb; rfl; refine w_gdT rfl (by omega) ?_; apply w_gT; rfl; apply w_fld; rfl; apply w_gT; rfl; apply w_ld; rfl; exact hc_i 0 rfl rfl; apply w_gT; rfl; apply w_mvi; rfl; apply w_gT; rfl; apply w_idx; rfl; rfl; rfl; omega; assumption; apply w_gT; rfl; apply w_ld; rfl; exact hc_d (by assumption); apply w_gT; rfl; apply w_mv; apply w_gT; rfl)
        refine w_pure rfl (h1 hu0 hkey) ?_
        (apply w_gT; rfl; apply w_lss; rfl; rfl; apply w_pickTb; rfl; rfl; apply w_done0; refine w_ifdF rfl (by omega) ?_; apply w_exit; apply w_sq; apply w_reg; apply w_mvi; rfl; apply w_fld; rfl; apply w_ld; rfl; exact hc_i 0 rfl rfl; apply w_len; rfl; apply w_lss; rfl; rfl; apply w_mvb; rfl; refine w_gdT rfl (by omega) ?_; apply w_gT; rfl; apply w_fld; rfl; apply w_gT; rfl; apply w_ld; rfl; exact hc_i 0 rfl rfl; apply w_gT; rfl; apply w_mvi; rfl; apply w_gT; rfl; apply w_idx; rfl; rfl; rfl; omega; assumption; apply w_gT; rfl; apply w_ld; rfl; exact hc_d (by assumption); apply w_gT; rfl; apply w_mv; apply w_gT; rfl)
        refine w_pure rfl (h2 hu0 hkey) ?_
        (apply w_pickTb; rfl; rfl; apply w_mvb; rfl; apply w_done0; apply w_sq; apply w_sq; apply w_reg; apply w_fld; rfl; apply w_ld; rfl; exact hc_i 0 rfl rfl; apply w_done0; apply w_ifT; rfl; apply w_sq; apply w_reg; apply w_mvi; rfl; apply w_mvb; rfl; apply w_mvi; rfl; apply w_mvb; rfl; apply w_done0; apply w_ret)
        apply finPib
        rfl
        rfl
        · simp [findD, hl]
        · simp [findD, hl, h]
  · have e : k = ks.length := by omega
    subst e
    have hl := hstop (fun h => absurd h (Nat.lt_irrefl _))
    cases lf
    · (apply w_sq; apply w_sq; apply w_reg; apply w_mvi; rfl; apply w_fld; rfl; apply w_ld; rfl; exact hc_i 0 rfl rfl; apply w_len; rfl; apply w_lss; rfl; rfl; apply w_mvb; rfl; refine w_gdF rfl (by omega) ?_; apply w_gF; rfl; apply w_gF; rfl; apply w_gF; rfl; apply w_gF; rfl; apply w_gF; rfl; apply w_gF; rfl; apply w_gF; rfl; apply w_gF; rfl; apply w_pickFb; rfl; rfl; apply w_done0; apply w_ifF; rfl; apply w_exit; apply w_sq; apply w_reg; apply w_mvi; rfl; apply w_fld; rfl; apply w_ld; rfl; exact hc_i 0 rfl rfl; apply w_len; rfl; apply w_lss; rfl; rfl; apply w_mvb; rfl; refine w_gdF rfl (by omega) ?_; apply w_gF; rfl; apply w_gF; rfl; apply w_gF; rfl; apply w_gF; rfl; apply w_gF; rfl; apply w_gF; rfl; apply w_gF; rfl; apply w_pickFb; rfl; rfl; apply w_mvb; rfl; apply w_done0; apply w_sq; apply w_sq; apply w_reg; apply w_fld; rfl; apply w_ld; rfl; exact hc_i 0 rfl rfl; apply w_done0; apply w_ifF; rfl; apply w_skip; apply w_sq; apply w_block)
      refine w_loopN (α := Unit) (fun j => [(1, v), (2, .pointer (some ⟨b, 0, none⟩)), (6, .int .i64 ks.length)])
        (fun _ => [bx b T [.bool false, .slice ka ks.length kc, vv, iv]]) (fun _ => True) (fun _ => 0) () ⟨rfl, rfl, rfl, trivial⟩ rfl trivial ?_
      intro _ ρ _
      (apply w_sq; apply w_sq; apply w_reg; apply w_mvi; rfl; apply w_fld; rfl; apply w_ld; rfl; exact hc_i 0 rfl rfl; apply w_len; rfl; apply w_lss; rfl; rfl; apply w_mvb; rfl; refine w_gdF rfl (by omega) ?_; apply w_gF; rfl; apply w_gF; rfl; apply w_gF; rfl; apply w_gF; rfl; apply w_gF; rfl; apply w_gF; rfl; apply w_gF; rfl; apply w_pickFb; rfl; rfl; apply w_done0; apply w_ifF; rfl; apply w_exit; apply w_sq; apply w_reg; apply w_mvi; rfl; apply w_mvi; rfl; apply w_mvb; rfl; apply w_done0; apply w_ret)
      apply finPib
      rfl
      rfl
      · simp [findD, hl]
      · simp [findD, hl]
    · (apply w_sq; apply w_sq; apply w_reg; apply w_mvi; rfl; apply w_fld; rfl; apply w_ld; rfl; exact hc_i 0 rfl rfl; apply w_len; rfl; apply w_lss; rfl; rfl; apply w_mvb; rfl; refine w_gdF rfl (by omega) ?_; apply w_gF; rfl; apply w_gF; rfl; apply w_gF; rfl; apply w_gF; rfl; apply w_gF; rfl; apply w_gF; rfl; apply w_gF; rfl; apply w_gF; rfl; apply w_pickFb; rfl; rfl; apply w_done0; apply w_ifF; rfl; apply w_exit; apply w_sq; apply w_reg; apply w_mvi; rfl; apply w_fld; rfl; apply w_ld; rfl; exact hc_i 0 rfl rfl; apply w_len; rfl; apply w_lss; rfl; rfl; apply w_mvb; rfl; refine w_gdF rfl (by omega) ?_; apply w_gF; rfl; apply w_gF; rfl; apply w_gF; rfl; apply w_gF; rfl; apply w_gF; rfl; apply w_gF; rfl; apply w_gF; rfl; apply w_pickFb; rfl; rfl; apply w_mvb; rfl; apply w_done0; apply w_sq; apply w_sq; apply w_reg; apply w_fld; rfl; apply w_ld; rfl; exact hc_i 0 rfl rfl; apply w_done0; apply w_ifT; rfl; apply w_sq; apply w_reg; apply w_mvi; rfl; apply w_mvb; rfl; apply w_mvi; rfl; apply w_mvb; rfl; apply w_done0; apply w_ret)
      apply finPib
      rfl
      rfl
      · simp [findD, hl]
      · simp [findD, hl]

/-! ### the reference's -/
def g_thimbleref20_Find : GFun :=
 ⟨70, [(.tmp 4), (.tmp 5)],
 (.seq
 (.reg false (.op false ⟨(some 2), none, (.box (.tmp 0))⟩
  (.op false ⟨(some 4), none, (.mv (.const (.int .i64 0)))⟩
  (.op false ⟨(some 5), none, (.mv (.const (.bool false)))⟩ .done))))
 (.seq
 (.reg false (.op false ⟨(some 6), none, (.mv (.const (.int .i64 0)))⟩ .done))
 (.seq
 (.reg false (.op false ⟨(some 7), none, (.mv (.const (.int .i64 0)))⟩ .done))
 (.seq
 (.reg false (.op false ⟨(some 8), none, (.mv (.const (.bool false)))⟩ .done))
 (.seq (.seq
 (.reg false (.op false ⟨(some 9), none, (.mv (.const (.int .i64 0)))⟩ .done)) (.block 0 (.loop
 (.seq (.seq
 (.reg false (.op false ⟨(some 10), none, (.mv (.tmp 9))⟩
  (.op false ⟨(some 11), none, (.fld 1 (.tmp 2))⟩
  (.op false ⟨(some 12), none, (.ld none (.tmp 11))⟩
  (.op false ⟨(some 13), none, (.len (.tmp 12))⟩
  (.op false ⟨(some 14), none, (.bin .lss (.tmp 10) (.tmp 13))⟩ .done)))))) (.cond (.tmp 14) .skip (.exit 0)))
 (.seq (.block 1
 (.seq (.seq
 (.reg true (.op true ⟨(some 17), none, (.fld 1 (.tmp 2))⟩
  (.op true ⟨(some 18), none, (.ld none (.tmp 17))⟩
  (.op true ⟨(some 19), none, (.mv (.tmp 9))⟩
  (.op true ⟨(some 20), none, (.idx 1 (.tmp 18) (.tmp 19))⟩
  (.op true ⟨(some 21), none, (.ld none (.tmp 20))⟩
  (.op true ⟨(some 22), none, (.b2s (.tmp 21))⟩
  (.op true ⟨(some 23), none, (.mv (.tmp 1))⟩
  (.op true ⟨(some 24), none, (.b2s (.tmp 23))⟩
  (.op true ⟨(some 25), none, (.bin .lss (.tmp 22) (.tmp 24))⟩
  (.op true ⟨(some 26), none, (.mv (.tmp 25))⟩
  (.op true ⟨(some 27), (some (26, true)), (.mv (.tmp 6))⟩
  (.op true ⟨(some 28), (some (26, true)), (.mv (.tmp 9))⟩
  (.op true ⟨(some 29), (some (26, true)), (.bin .eql (.tmp 27) (.tmp 28))⟩
  (.op true ⟨(some 30), none, (.pick (.tmp 26) (.tmp 29) (.const (.bool false)))⟩ .done))))))))))))))) (.cond (.tmp 30)
 (.reg false (.op false ⟨(some 31), none, (.mv (.tmp 6))⟩
  (.op false ⟨(some 32), none, (.bin .add (.tmp 31) (.const (.int .i64 1)))⟩
  (.op false ⟨(some 6), none, (.mv (.tmp 32))⟩ .done)))) .skip))
 (.seq
 (.reg true (.op true ⟨(some 33), none, (.fld 1 (.tmp 2))⟩
  (.op true ⟨(some 34), none, (.ld none (.tmp 33))⟩
  (.op true ⟨(some 35), none, (.mv (.tmp 9))⟩
  (.op true ⟨(some 36), none, (.idx 1 (.tmp 34) (.tmp 35))⟩
  (.op true ⟨(some 37), none, (.ld none (.tmp 36))⟩
  (.op true ⟨(some 38), none, (.b2s (.tmp 37))⟩
  (.op true ⟨(some 39), none, (.mv (.tmp 1))⟩
  (.op true ⟨(some 40), none, (.b2s (.tmp 39))⟩
  (.op true ⟨(some 41), none, (.bin .leq (.tmp 38) (.tmp 40))⟩
  (.op true ⟨(some 42), none, (.mv (.tmp 41))⟩
  (.op true ⟨(some 43), (some (42, true)), (.mv (.tmp 7))⟩
  (.op true ⟨(some 44), (some (42, true)), (.mv (.tmp 9))⟩
  (.op true ⟨(some 45), (some (42, true)), (.bin .eql (.tmp 43) (.tmp 44))⟩
  (.op true ⟨(some 46), none, (.pick (.tmp 42) (.tmp 45) (.const (.bool false)))⟩ .done))))))))))))))) (.cond (.tmp 46)
 (.reg false (.op false ⟨(some 47), none, (.mv (.tmp 7))⟩
  (.op false ⟨(some 48), none, (.bin .add (.tmp 47) (.const (.int .i64 1)))⟩
  (.op false ⟨(some 7), none, (.mv (.tmp 48))⟩ .done)))) .skip))))
 (.reg false (.op false ⟨(some 15), none, (.mv (.tmp 9))⟩
  (.op false ⟨(some 16), none, (.bin .add (.tmp 15) (.const (.int .i64 1)))⟩
  (.op false ⟨(some 9), none, (.mv (.tmp 16))⟩ .done)))))))))
 (.seq (.seq
 (.reg false (.op false ⟨(some 49), none, (.fld 0 (.tmp 2))⟩
  (.op false ⟨(some 50), none, (.ld none (.tmp 49))⟩ .done))) (.cond (.tmp 50)
 (.seq
 (.reg true (.op true ⟨(some 51), none, (.mv (.tmp 6))⟩
  (.op true ⟨(some 52), none, (.fld 1 (.tmp 2))⟩
  (.op true ⟨(some 53), none, (.ld none (.tmp 52))⟩
  (.op true ⟨(some 54), none, (.len (.tmp 53))⟩
  (.op true ⟨(some 55), none, (.bin .lss (.tmp 51) (.tmp 54))⟩
  (.op true ⟨(some 56), none, (.mv (.tmp 55))⟩
  (.op true ⟨(some 57), (some (56, true)), (.fld 1 (.tmp 2))⟩
  (.op true ⟨(some 58), (some (56, true)), (.ld none (.tmp 57))⟩
  (.op true ⟨(some 59), (some (56, true)), (.mv (.tmp 6))⟩
  (.op true ⟨(some 60), (some (56, true)), (.idx 1 (.tmp 58) (.tmp 59))⟩
  (.op true ⟨(some 61), (some (56, true)), (.ld none (.tmp 60))⟩
  (.op true ⟨(some 62), (some (56, true)), (.b2s (.tmp 61))⟩
  (.op true ⟨(some 63), (some (56, true)), (.mv (.tmp 1))⟩
  (.op true ⟨(some 64), (some (56, true)), (.b2s (.tmp 63))⟩
  (.op true ⟨(some 65), (some (56, true)), (.bin .eql (.tmp 62) (.tmp 64))⟩
  (.op true ⟨(some 66), none, (.pick (.tmp 56) (.tmp 65) (.const (.bool false)))⟩
  (.bar (.op true ⟨(some 8), none, (.mv (.tmp 66))⟩ .done)))))))))))))))))))
 (.seq
 (.reg false (.op false ⟨(some 67), none, (.mv (.tmp 6))⟩
  (.op false ⟨(some 68), none, (.mv (.tmp 8))⟩
  (.op false ⟨(some 4), none, (.mv (.tmp 67))⟩
  (.op false ⟨(some 5), none, (.mv (.tmp 68))⟩ .done))))) .ret)) .skip))
 (.seq
 (.reg false (.op false ⟨(some 69), none, (.mv (.tmp 7))⟩
  (.op false ⟨(some 4), none, (.mv (.tmp 69))⟩
  (.op false ⟨(some 5), none, (.mv (.const (.bool false)))⟩ .done)))) .ret)))))))⟩

set_option maxHeartbeats 2000000 in
theorem rfind_ok {P : Program} {f : FuncId} (hd : dec P f = some g_thimbleref20_Find) : FindOk P f rfindD := by
  intro d cs n v key hn hkey
  obtain ⟨lf, ks, vs, is⟩ := n
  obtain ⟨kv, vv, iv, rfl, hk, hv, hiv⟩ : ∃ kv vv iv, cs = [.bool lf, kv, vv, iv] ∧ RBss d kv ks ∧ RBss d vv vs ∧ RInts d iv is := hn
  refine GCall_of hd (Nat.le_of_ble_eq_true rfl) ?_
  obtain ⟨ka, kc, kb, ko, rfl, kA, kS, kN, kl, km, kB, kx⟩ := hk
  show gwp P _ _ _ _ _
  (apply w_sq; apply w_reg; apply w_boxa; rfl; intro _ _; apply w_mvi; rfl; apply w_mvb; rfl; apply w_done0; apply w_sq; apply w_reg; apply w_mvi; rfl; apply w_done0; apply w_sq; apply w_reg; apply w_mvi; rfl; apply w_done0; apply w_sq; apply w_reg; apply w_mvb; rfl; apply w_done0; apply w_sq; apply w_sq; apply w_reg; apply w_mvi; rfl; apply w_done0; apply w_block)
  rename_i b T
  have hlow : ∀ k, k ≤ ks.length → ((ks.take k).takeWhile (Op.bytesLess · key)).length ≤ k := fun k hk => by have := tw_le (p := (Op.bytesLess · key)) (ks.take k); simp at this; omega
  have hnot : ∀ k, k ≤ ks.length → ((ks.take k).takeWhile (leB · key)).length ≤ k := fun k hk => by have := tw_le (p := (leB · key)) (ks.take k); simp at this; omega
  refine w_loopN (α := Nat) (fun k => [(1, v), (2, .pointer (some ⟨b, 0, none⟩)), (6, .int .i64 ((ks.take k).takeWhile (Op.bytesLess · key)).length), (7, .int .i64 ((ks.take k).takeWhile (leB · key)).length), (8, .bool false), (9, .int .i64 k)])
    (fun _ => [bx b T [.bool lf, .slice ka ks.length kc, vv, iv]]) (fun k => k ≤ ks.length) (fun k => ks.length - k) 0 ⟨rfl, rfl, rfl, rfl, rfl, rfl, trivial⟩ rfl (Nat.zero_le _) ?_
  intro k ρ hle
  by_cases h : k < ks.length
  · obtain ⟨c0, hc0, hD0, ⟨u0, rfl, hu0⟩⟩ := kx k h
    replace hD0 := hD0.one
    have e1 := tw_snoc (p := (Op.bytesLess · key)) ks[k] (ks.take k)
    have e2 := tw_snoc (p := (leB · key)) ks[k] (ks.take k)
    rw [← List.take_succ_eq_append_getElem h] at e1 e2
    have hl1 := hlow k (by omega)
    have hl2 := hnot k (by omega)
    have htl : (ks.take k).length = k := by simp; omega
    rw [htl] at e1 e2
    obtain ⟨A, hA⟩ : ∃ A, A = ((ks.take k).takeWhile (Op.bytesLess · key)).length := ⟨_, rfl⟩
    obtain ⟨B, hB⟩ : ∃ B, B = ((ks.take k).takeWhile (leB · key)).length := ⟨_, rfl⟩
    rw [← hA] at e1 hl1 ⊢
    rw [← hB] at e2 hl2 ⊢
    have done : ∀ (x y z : Int) (A' B' : Nat), x = A' → y = B' → A' = (if A = k ∧ Op.bytesLess ks[k] key = true then k + 1 else A) → B' = (if B = k ∧ leB ks[k] key = true then k + 1 else B) →
        x = ((ks.take (k + 1)).takeWhile (Op.bytesLess · key)).length ∧ y = ((ks.take (k + 1)).takeWhile (leB · key)).length := fun x y z A' B' hx hy h1 h2 => by rw [hx, hy, h1, h2, ← e1, ← e2]; exact ⟨rfl, rfl⟩
    cases hb : Op.bytesLess ks[k] key with
    | true =>
      have hl4 : (Op.bytesLess ks[k] key || decide (ks[k] = key)) = true := by simp [hb]
      have hl3 : leB ks[k] key = true := hl4
      by_cases hAk : A = k
      · by_cases hBk : B = k
        · (apply w_sq; apply w_sq; apply w_reg; apply w_mvi; rfl; apply w_fld; rfl; apply w_ld; rfl; exact hc_i 0 rfl rfl; apply w_len; rfl; apply w_lss; rfl; rfl; apply w_done0; refine w_ifdT rfl (by omega) ?_; apply w_skip; apply w_sq; apply w_block; apply w_sq; apply w_sq; apply w_drawn; apply w_fld; rfl; apply w_ld; rfl; exact hc_i 0 rfl rfl; apply w_mvi; rfl; apply w_idx; rfl; rfl; rfl; omega; assumption; apply w_ld; rfl; exact hc_d (by assumption); apply w_b2sR; rfl; assumption; apply w_mv; apply w_b2sR; rfl; assumption; apply w_slt; rfl; rfl; apply w_mvb; rfl; apply w_gbT; rfl; (with_reducible assumption); apply w_gT; rfl; apply w_mvi; rfl; apply w_gT; rfl; apply w_mvi; rfl; apply w_gT; rfl; apply w_eql; rfl; rfl; apply w_pickTb; rfl; rfl; apply w_done; refine w_ifdT rfl (by omega) ?_; apply w_reg; apply w_mvi; rfl; apply w_add; rfl; rfl; omega; omega; apply w_mvi; rfl; apply w_done0; apply w_sq; apply w_drawn; apply w_fld; rfl; apply w_ld; rfl; exact hc_i 0 rfl rfl; apply w_mvi; rfl; apply w_idx; rfl; rfl; rfl; omega; assumption; apply w_ld; rfl; exact hc_d (by assumption); apply w_b2sR; rfl; assumption; apply w_mv; apply w_b2sR; rfl; assumption; apply w_sle; rfl; rfl; apply w_mvb; rfl; apply w_gbT; rfl; (with_reducible assumption); apply w_gT; rfl; apply w_mvi; rfl; apply w_gT; rfl; apply w_mvi; rfl; apply w_gT; rfl; apply w_eql; rfl; rfl; apply w_pickTb; rfl; rfl; apply w_done; refine w_ifdT rfl (by omega) ?_; apply w_reg; apply w_mvi; rfl; apply w_add; rfl; rfl; omega; omega; apply w_mvi; rfl; apply w_done0; apply w_reg; apply w_mvi; rfl; apply w_add; rfl; rfl; omega; omega; apply w_mvi; rfl; apply w_done0)
          obtain ⟨f1, f2⟩ := done _ _ 0 (k + 1) (k + 1) rfl rfl (by simp [hAk, hb]) (by simp [hBk, hl3])
          exact ⟨k + 1, by omega, ⟨rfl, rfl, int_eq (by omega), int_eq (by omega), rfl, int_eq (by omega), trivial⟩, rfl, rfl, h⟩
        · (apply w_sq; apply w_sq; apply w_reg; apply w_mvi; rfl; apply w_fld; rfl; apply w_ld; rfl; exact hc_i 0 rfl rfl; apply w_len; rfl; apply w_lss; rfl; rfl; apply w_done0; refine w_ifdT rfl (by omega) ?_; apply w_skip; apply w_sq; apply w_block; apply w_sq; apply w_sq; apply w_drawn; apply w_fld; rfl; apply w_ld; rfl; exact hc_i 0 rfl rfl; apply w_mvi; rfl; apply w_idx; rfl; rfl; rfl; omega; assumption; apply w_ld; rfl; exact hc_d (by assumption); apply w_b2sR; rfl; assumption; apply w_mv; apply w_b2sR; rfl; assumption; apply w_slt; rfl; rfl; apply w_mvb; rfl; apply w_gbT; rfl; (with_reducible assumption); apply w_gT; rfl; apply w_mvi; rfl; apply w_gT; rfl; apply w_mvi; rfl; apply w_gT; rfl; apply w_eql; rfl; rfl; apply w_pickTb; rfl; rfl; apply w_done; refine w_ifdT rfl (by omega) ?_; apply w_reg; apply w_mvi; rfl; apply w_add; rfl; rfl; omega; omega; apply w_mvi; rfl; apply w_done0; apply w_sq; apply w_drawn; apply w_fld; rfl; apply w_ld; rfl; exact hc_i 0 rfl rfl; apply w_mvi; rfl; apply w_idx; rfl; rfl; rfl; omega; assumption; apply w_ld; rfl; exact hc_d (by assumption); apply w_b2sR; rfl; assumption; apply w_mv; apply w_b2sR; rfl; assumption; apply w_sle; rfl; rfl; apply w_mvb; rfl; apply w_gbT; rfl; (with_reducible assumption); apply w_gT; rfl; apply w_mvi; rfl; apply w_gT; rfl; apply w_mvi; rfl; apply w_gT; rfl; apply w_eql; rfl; rfl; apply w_pickTb; rfl; rfl; apply w_done; refine w_ifdF rfl (by omega) ?_; apply w_skip; apply w_reg; apply w_mvi; rfl; apply w_add; rfl; rfl; omega; omega; apply w_mvi; rfl; apply w_done0)
          obtain ⟨f1, f2⟩ := done _ _ 0 (k + 1) (B) rfl rfl (by simp [hAk, hb]) (by simp [hBk, hl3])
          exact ⟨k + 1, by omega, ⟨rfl, rfl, int_eq (by omega), int_eq (by omega), rfl, int_eq (by omega), trivial⟩, rfl, rfl, h⟩
      · by_cases hBk : B = k
        · (apply w_sq; apply w_sq; apply w_reg; apply w_mvi; rfl; apply w_fld; rfl; apply w_ld; rfl; exact hc_i 0 rfl rfl; apply w_len; rfl; apply w_lss; rfl; rfl; apply w_done0; refine w_ifdT rfl (by omega) ?_; apply w_skip; apply w_sq; apply w_block; apply w_sq; apply w_sq; apply w_drawn; apply w_fld; rfl; apply w_ld; rfl; exact hc_i 0 rfl rfl; apply w_mvi; rfl; apply w_idx; rfl; rfl; rfl; omega; assumption; apply w_ld; rfl; exact hc_d (by assumption); apply w_b2sR; rfl; assumption; apply w_mv; apply w_b2sR; rfl; assumption; apply w_slt; rfl; rfl; apply w_mvb; rfl; apply w_gbT; rfl; (with_reducible assumption); apply w_gT; rfl; apply w_mvi; rfl; apply w_gT; rfl; apply w_mvi; rfl; apply w_gT; rfl; apply w_eql; rfl; rfl; apply w_pickTb; rfl; rfl; apply w_done; refine w_ifdF rfl (by omega) ?_; apply w_skip; apply w_sq; apply w_drawn; apply w_fld; rfl; apply w_ld; rfl; exact hc_i 0 rfl rfl; apply w_mvi; rfl; apply w_idx; rfl; rfl; rfl; omega; assumption; apply w_ld; rfl; exact hc_d (by assumption); apply w_b2sR; rfl; assumption; apply w_mv; apply w_b2sR; rfl; assumption; apply w_sle; rfl; rfl; apply w_mvb; rfl; apply w_gbT; rfl; (with_reducible assumption); apply w_gT; rfl; apply w_mvi; rfl; apply w_gT; rfl; apply w_mvi; rfl; apply w_gT; rfl; apply w_eql; rfl; rfl; apply w_pickTb; rfl; rfl; apply w_done; refine w_ifdT rfl (by omega) ?_; apply w_reg; apply w_mvi; rfl; apply w_add; rfl; rfl; omega; omega; apply w_mvi; rfl; apply w_done0; apply w_reg; apply w_mvi; rfl; apply w_add; rfl; rfl; omega; omega; apply w_mvi; rfl; apply w_done0)
          obtain ⟨f1, f2⟩ := done _ _ 0 (A) (k + 1) rfl rfl (by simp [hAk, hb]) (by simp [hBk, hl3])
          exact ⟨k + 1, by omega, ⟨rfl, rfl, int_eq (by omega), int_eq (by omega), rfl, int_eq (by omega), trivial⟩, rfl, rfl, h⟩
        · (apply w_sq; apply w_sq; apply w_reg; apply w_mvi; rfl; apply w_fld; rfl; apply w_ld; rfl; exact hc_i 0 rfl rfl; apply w_len; rfl; apply w_lss; rfl; rfl; apply w_done0; refine w_ifdT rfl (by omega) ?_; apply w_skip; apply w_sq; apply w_block; apply w_sq; apply w_sq; apply w_drawn; apply w_fld; rfl; apply w_ld; rfl; exact hc_i 0 rfl rfl; apply w_mvi; rfl; apply w_idx; rfl; rfl; rfl; omega; assumption; apply w_ld; rfl; exact hc_d (by assumption); apply w_b2sR; rfl; assumption; apply w_mv; apply w_b2sR; rfl; assumption; apply w_slt; rfl; rfl; apply w_mvb; rfl; apply w_gbT; rfl; (with_reducible assumption); apply w_gT; rfl; apply w_mvi; rfl; apply w_gT; rfl; apply w_mvi; rfl; apply w_gT; rfl; apply w_eql; rfl; rfl; apply w_pickTb; rfl; rfl; apply w_done; refine w_ifdF rfl (by omega) ?_; apply w_skip; apply w_sq; apply w_drawn; apply w_fld; rfl; apply w_ld; rfl; exact hc_i 0 rfl rfl; apply w_mvi; rfl; apply w_idx; rfl; rfl; rfl; omega; assumption; apply w_ld; rfl; exact hc_d (by assumption); apply w_b2sR; rfl; assumption; apply w_mv; apply w_b2sR; rfl; assumption; apply w_sle; rfl; rfl; apply w_mvb; rfl; apply w_gbT; rfl; (with_reducible assumption); apply w_gT; rfl; apply w_mvi; rfl; apply w_gT; rfl; apply w_mvi; rfl; apply w_gT; rfl; apply w_eql; rfl; rfl; apply w_pickTb; rfl; rfl; apply w_done; refine w_ifdF rfl (by omega) ?_; apply w_skip; apply w_reg; apply w_mvi; rfl; apply w_add; rfl; rfl; omega; omega; apply w_mvi; rfl; apply w_done0)
          obtain ⟨f1, f2⟩ := done _ _ 0 (A) (B) rfl rfl (by simp [hAk, hb]) (by simp [hBk, hl3])
          exact ⟨k + 1, by omega, ⟨rfl, rfl, int_eq (by omega), int_eq (by omega), rfl, int_eq (by omega), trivial⟩, rfl, rfl, h⟩
    | false =>
      by_cases he : ks[k] = key
      · have hl4 : (Op.bytesLess ks[k] key || decide (ks[k] = key)) = true := by simp [he]
        have hl3 : leB ks[k] key = true := hl4
        by_cases hAk : A = k
        · by_cases hBk : B = k
          · (apply w_sq; apply w_sq; apply w_reg; apply w_mvi; rfl; apply w_fld; rfl; apply w_ld; rfl; exact hc_i 0 rfl rfl; apply w_len; rfl; apply w_lss; rfl; rfl; apply w_done0; refine w_ifdT rfl (by omega) ?_; apply w_skip; apply w_sq; apply w_block; apply w_sq; apply w_sq; apply w_drawn; apply w_fld; rfl; apply w_ld; rfl; exact hc_i 0 rfl rfl; apply w_mvi; rfl; apply w_idx; rfl; rfl; rfl; omega; assumption; apply w_ld; rfl; exact hc_d (by assumption); apply w_b2sR; rfl; assumption; apply w_mv; apply w_b2sR; rfl; assumption; apply w_slt; rfl; rfl; apply w_mvb; rfl; apply w_gbF; rfl; (with_reducible assumption); apply w_gF; rfl; apply w_gF; rfl; apply w_gF; rfl; apply w_pickFb; rfl; rfl; apply w_done; apply w_ifF; rfl; apply w_skip; apply w_sq; apply w_drawn; apply w_fld; rfl; apply w_ld; rfl; exact hc_i 0 rfl rfl; apply w_mvi; rfl; apply w_idx; rfl; rfl; rfl; omega; assumption; apply w_ld; rfl; exact hc_d (by assumption); apply w_b2sR; rfl; assumption; apply w_mv; apply w_b2sR; rfl; assumption; apply w_sle; rfl; rfl; apply w_mvb; rfl; apply w_gbT; rfl; (with_reducible assumption); apply w_gT; rfl; apply w_mvi; rfl; apply w_gT; rfl; apply w_mvi; rfl; apply w_gT; rfl; apply w_eql; rfl; rfl; apply w_pickTb; rfl; rfl; apply w_done; refine w_ifdT rfl (by omega) ?_; apply w_reg; apply w_mvi; rfl; apply w_add; rfl; rfl; omega; omega; apply w_mvi; rfl; apply w_done0; apply w_reg; apply w_mvi; rfl; apply w_add; rfl; rfl; omega; omega; apply w_mvi; rfl; apply w_done0)
            obtain ⟨f1, f2⟩ := done _ _ 0 (A) (k + 1) rfl rfl (by simp [hAk, hb]) (by simp [hBk, hl3])
            exact ⟨k + 1, by omega, ⟨rfl, rfl, int_eq (by omega), int_eq (by omega), rfl, int_eq (by omega), trivial⟩, rfl, rfl, h⟩
          · (apply w_sq; apply w_sq; apply w_reg; apply w_mvi; rfl; apply w_fld; rfl; apply w_ld; rfl; exact hc_i 0 rfl rfl; apply w_len; rfl; apply w_lss; rfl; rfl; apply w_done0; refine w_ifdT rfl (by omega) ?_; apply w_skip; apply w_sq; apply w_block; apply w_sq; apply w_sq; apply w_drawn; apply w_fld; rfl; apply w_ld; rfl; exact hc_i 0 rfl rfl; apply w_mvi; rfl; apply w_idx; rfl; rfl; rfl; omega; assumption; apply w_ld; rfl; exact hc_d (by assumption); apply w_b2sR; rfl; assumption; apply w_mv; apply w_b2sR; rfl; assumption; apply w_slt; rfl; rfl; apply w_mvb; rfl; apply w_gbF; rfl; (with_reducible assumption); apply w_gF; rfl; apply w_gF; rfl; apply w_gF; rfl; apply w_pickFb; rfl; rfl; apply w_done; apply w_ifF; rfl; apply w_skip; apply w_sq; apply w_drawn; apply w_fld; rfl; apply w_ld; rfl; exact hc_i 0 rfl rfl; apply w_mvi; rfl; apply w_idx; rfl; rfl; rfl; omega; assumption; apply w_ld; rfl; exact hc_d (by assumption); apply w_b2sR; rfl; assumption; apply w_mv; apply w_b2sR; rfl; assumption; apply w_sle; rfl; rfl; apply w_mvb; rfl; apply w_gbT; rfl; (with_reducible assumption); apply w_gT; rfl; apply w_mvi; rfl; apply w_gT; rfl; apply w_mvi; rfl; apply w_gT; rfl; apply w_eql; rfl; rfl; apply w_pickTb; rfl; rfl; apply w_done; refine w_ifdF rfl (by omega) ?_; apply w_skip; apply w_reg; apply w_mvi; rfl; apply w_add; rfl; rfl; omega; omega; apply w_mvi; rfl; apply w_done0)
            obtain ⟨f1, f2⟩ := done _ _ 0 (A) (B) rfl rfl (by simp [hAk, hb]) (by simp [hBk, hl3])
            exact ⟨k + 1, by omega, ⟨rfl, rfl, int_eq (by omega), int_eq (by omega), rfl, int_eq (by omega), trivial⟩, rfl, rfl, h⟩
        · by_cases hBk : B = k
          · (apply w_sq; apply w_sq; apply w_reg; apply w_mvi; rfl; apply w_fld; rfl; apply w_ld; rfl; exact hc_i 0 rfl rfl; apply w_len; rfl; apply w_lss; rfl; rfl; apply w_done0; refine w_ifdT rfl (by omega) ?_; apply w_skip; apply w_sq; apply w_block; apply w_sq; apply w_sq; apply w_drawn; apply w_fld; rfl; apply w_ld; rfl; exact hc_i 0 rfl rfl; apply w_mvi; rfl; apply w_idx; rfl; rfl; rfl; omega; assumption; apply w_ld; rfl; exact hc_d (by assumption); apply w_b2sR; rfl; assumption; apply w_mv; apply w_b2sR; rfl; assumption; apply w_slt; rfl; rfl; apply w_mvb; rfl; apply w_gbF; rfl; (with_reducible assumption); apply w_gF; rfl; apply w_gF; rfl; apply w_gF; rfl; apply w_pickFb; rfl; rfl; apply w_done; apply w_ifF; rfl; apply w_skip; apply w_sq; apply w_drawn; apply w_fld; rfl; apply w_ld; rfl; exact hc_i 0 rfl rfl; apply w_mvi; rfl; apply w_idx; rfl; rfl; rfl; omega; assumption; apply w_ld; rfl; exact hc_d (by assumption); apply w_b2sR; rfl; assumption; apply w_mv; apply w_b2sR; rfl; assumption; apply w_sle; rfl; rfl; apply w_mvb; rfl; apply w_gbT; rfl; (with_reducible assumption); apply w_gT; rfl; apply w_mvi; rfl; apply w_gT; rfl; apply w_mvi; rfl; apply w_gT; rfl; apply w_eql; rfl; rfl; apply w_pickTb; rfl; rfl; apply w_done; refine w_ifdT rfl (by omega) ?_; apply w_reg; apply w_mvi; rfl; apply w_add; rfl; rfl; omega; omega; apply w_mvi; rfl; apply w_done0; apply w_reg; apply w_mvi; rfl; apply w_add; rfl; rfl; omega; omega; apply w_mvi; rfl; apply w_done0)
            obtain ⟨f1, f2⟩ := done _ _ 0 (A) (k + 1) rfl rfl (by simp [hAk, hb]) (by simp [hBk, hl3])
            exact ⟨k + 1, by omega, ⟨rfl, rfl, int_eq (by omega), int_eq (by omega), rfl, int_eq (by omega), trivial⟩, rfl, rfl, h⟩
          · (apply w_sq; apply w_sq; apply w_reg; apply w_mvi; rfl; apply w_fld; rfl; apply w_ld; rfl; exact hc_i 0 rfl rfl; apply w_len; rfl; apply w_lss; rfl; rfl; apply w_done0; refine w_ifdT rfl (by omega) ?_; apply w_skip; apply w_sq; apply w_block; apply w_sq; apply w_sq; apply w_drawn; apply w_fld; rfl; apply w_ld; rfl; exact hc_i 0 rfl rfl; apply w_mvi; rfl; apply w_idx; rfl; rfl; rfl; omega; assumption; apply w_ld; rfl; exact hc_d (by assumption); apply w_b2sR; rfl; assumption; apply w_mv; apply w_b2sR; rfl; assumption; apply w_slt; rfl; rfl; apply w_mvb; rfl; apply w_gbF; rfl; (with_reducible assumption); apply w_gF; rfl; apply w_gF; rfl; apply w_gF; rfl; apply w_pickFb; rfl; rfl; apply w_done; apply w_ifF; rfl; apply w_skip; apply w_sq; apply w_drawn; apply w_fld; rfl; apply w_ld; rfl; exact hc_i 0 rfl rfl; apply w_mvi; rfl; apply w_idx; rfl; rfl; rfl; omega; assumption; apply w_ld; rfl; exact hc_d (by assumption); apply w_b2sR; rfl; assumption; apply w_mv; apply w_b2sR; rfl; assumption; apply w_sle; rfl; rfl; apply w_mvb; rfl; apply w_gbT; rfl; (with_reducible assumption); apply w_gT; rfl; apply w_mvi; rfl; apply w_gT; rfl; apply w_mvi; rfl; apply w_gT; rfl; apply w_eql; rfl; rfl; apply w_pickTb; rfl; rfl; apply w_done; refine w_ifdF rfl (by omega) ?_; apply w_skip; apply w_reg; apply w_mvi; rfl; apply w_add; rfl; rfl; omega; omega; apply w_mvi; rfl; apply w_done0)
            obtain ⟨f1, f2⟩ := done _ _ 0 (A) (B) rfl rfl (by simp [hAk, hb]) (by simp [hBk, hl3])
            exact ⟨k + 1, by omega, ⟨rfl, rfl, int_eq (by omega), int_eq (by omega), rfl, int_eq (by omega), trivial⟩, rfl, rfl, h⟩
      · have hl4 : (Op.bytesLess ks[k] key || decide (ks[k] = key)) = false := by simp [he, hb]
        have hl3 : leB ks[k] key = false := hl4
        by_cases hAk : A = k
        · by_cases hBk : B = k
          · (apply w_sq; apply w_sq; apply w_reg; apply w_mvi; rfl; apply w_fld; rfl; apply w_ld; rfl; exact hc_i 0 rfl rfl; apply w_len; rfl; apply w_lss; rfl; rfl; apply w_done0; refine w_ifdT rfl (by omega) ?_; apply w_skip; apply w_sq; apply w_block; apply w_sq; apply w_sq; apply w_drawn; apply w_fld; rfl; apply w_ld; rfl; exact hc_i 0 rfl rfl; apply w_mvi; rfl; apply w_idx; rfl; rfl; rfl; omega; assumption; apply w_ld; rfl; exact hc_d (by assumption); apply w_b2sR; rfl; assumption; apply w_mv; apply w_b2sR; rfl; assumption; apply w_slt; rfl; rfl; apply w_mvb; rfl; apply w_gbF; rfl; (with_reducible assumption); apply w_gF; rfl; apply w_gF; rfl; apply w_gF; rfl; apply w_pickFb; rfl; rfl; apply w_done; apply w_ifF; rfl; apply w_skip; apply w_sq; apply w_drawn; apply w_fld; rfl; apply w_ld; rfl; exact hc_i 0 rfl rfl; apply w_mvi; rfl; apply w_idx; rfl; rfl; rfl; omega; assumption; apply w_ld; rfl; exact hc_d (by assumption); apply w_b2sR; rfl; assumption; apply w_mv; apply w_b2sR; rfl; assumption; apply w_sle; rfl; rfl; apply w_mvb; rfl; apply w_gbF; rfl; (with_reducible assumption); apply w_gF; rfl; apply w_gF; rfl; apply w_gF; rfl; apply w_pickFb; rfl; rfl; apply w_done; apply w_ifF; rfl; apply w_skip; apply w_reg; apply w_mvi; rfl; apply w_add; rfl; rfl; omega; omega; apply w_mvi; rfl; apply w_done0)
            obtain ⟨f1, f2⟩ := done _ _ 0 (A) (B) rfl rfl (by simp [hAk, hb]) (by simp [hBk, hl3])
            exact ⟨k + 1, by omega, ⟨rfl, rfl, int_eq (by omega), int_eq (by omega), rfl, int_eq (by omega), trivial⟩, rfl, rfl, h⟩
          · (apply w_sq; apply w_sq; apply w_reg; apply w_mvi; rfl; apply w_fld; rfl; apply w_ld; rfl; exact hc_i 0 rfl rfl; apply w_len; rfl; apply w_lss; rfl; rfl; apply w_done0; refine w_ifdT rfl (by omega) ?_; apply w_skip; apply w_sq; apply w_block; apply w_sq; apply w_sq; apply w_drawn; apply w_fld; rfl; apply w_ld; rfl; exact hc_i 0 rfl rfl; apply w_mvi; rfl; apply w_idx; rfl; rfl; rfl; omega; assumption; apply w_ld; rfl; exact hc_d (by assumption); apply w_b2sR; rfl; assumption; apply w_mv; apply w_b2sR; rfl; assumption; apply w_slt; rfl; rfl; apply w_mvb; rfl; apply w_gbF; rfl; (with_reducible assumption); apply w_gF; rfl; apply w_gF; rfl; apply w_gF; rfl; apply w_pickFb; rfl; rfl; apply w_done; apply w_ifF; rfl; apply w_skip; apply w_sq; apply w_drawn; apply w_fld; rfl; apply w_ld; rfl; exact hc_i 0 rfl rfl; apply w_mvi; rfl; apply w_idx; rfl; rfl; rfl; omega; assumption; apply w_ld; rfl; exact hc_d (by assumption); apply w_b2sR; rfl; assumption; apply w_mv; apply w_b2sR; rfl; assumption; apply w_sle; rfl; rfl; apply w_mvb; rfl; apply w_gbF; rfl; (with_reducible assumption); apply w_gF; rfl; apply w_gF; rfl; apply w_gF; rfl; apply w_pickFb; rfl; rfl; apply w_done; apply w_ifF; rfl; apply w_skip; apply w_reg; apply w_mvi; rfl; apply w_add; rfl; rfl; omega; omega; apply w_mvi; rfl; apply w_done0)
            obtain ⟨f1, f2⟩ := done _ _ 0 (A) (B) rfl rfl (by simp [hAk, hb]) (by simp [hBk, hl3])
            exact ⟨k + 1, by omega, ⟨rfl, rfl, int_eq (by omega), int_eq (by omega), rfl, int_eq (by omega), trivial⟩, rfl, rfl, h⟩
        · by_cases hBk : B = k
          · (apply w_sq; apply w_sq; apply w_reg; apply w_mvi; rfl; apply w_fld; rfl; apply w_ld; rfl; exact hc_i 0 rfl rfl; apply w_len; rfl; apply w_lss; rfl; rfl; apply w_done0; refine w_ifdT rfl (by omega) ?_; apply w_skip; apply w_sq; apply w_block; apply w_sq; apply w_sq; apply w_drawn; apply w_fld; rfl; apply w_ld; rfl; exact hc_i 0 rfl rfl; apply w_mvi; rfl; apply w_idx; rfl; rfl; rfl; omega; assumption; apply w_ld; rfl; exact hc_d (by assumption); apply w_b2sR; rfl; assumption; apply w_mv; apply w_b2sR; rfl; assumption; apply w_slt; rfl; rfl; apply w_mvb; rfl; apply w_gbF; rfl; (with_reducible assumption); apply w_gF; rfl; apply w_gF; rfl; apply w_gF; rfl; apply w_pickFb; rfl; rfl; apply w_done; apply w_ifF; rfl; apply w_skip; apply w_sq; apply w_drawn; apply w_fld; rfl; apply w_ld; rfl; exact hc_i 0 rfl rfl; apply w_mvi; rfl; apply w_idx; rfl; rfl; rfl; omega; assumption; apply w_ld; rfl; exact hc_d (by assumption); apply w_b2sR; rfl; assumption; apply w_mv; apply w_b2sR; rfl; assumption; apply w_sle; rfl; rfl; apply w_mvb; rfl; apply w_gbF; rfl; (with_reducible assumption); apply w_gF; rfl; apply w_gF; rfl; apply w_gF; rfl; apply w_pickFb; rfl; rfl; apply w_done; apply w_ifF; rfl; apply w_skip; apply w_reg; apply w_mvi; rfl; apply w_add; rfl; rfl; omega; omega; apply w_mvi; rfl; apply w_done0)
            obtain ⟨f1, f2⟩ := done _ _ 0 (A) (B) rfl rfl (by simp [hAk, hb]) (by simp [hBk, hl3])
            exact ⟨k + 1, by omega, ⟨rfl, rfl, int_eq (by omega), int_eq (by omega), rfl, int_eq (by omega), trivial⟩, rfl, rfl, h⟩
          · (apply w_sq; apply w_sq; apply w_reg; apply w_mvi; rfl; apply w_fld; rfl; apply w_ld; rfl; exact hc_i 0 rfl rfl; apply w_len; rfl; apply w_lss; rfl; rfl; apply w_done0; refine w_ifdT rfl (by omega) ?_; apply w_skip; apply w_sq; apply w_block; apply w_sq; apply w_sq; apply w_drawn; apply w_fld; rfl; apply w_ld; rfl; exact hc_i 0 rfl rfl; apply w_mvi; rfl; apply w_idx; rfl; rfl; rfl; omega; assumption; apply w_ld; rfl; exact hc_d (by assumption); apply w_b2sR; rfl; assumption; apply w_mv; apply w_b2sR; rfl; assumption; apply w_slt; rfl; rfl; apply w_mvb; rfl; apply w_gbF; rfl; (with_reducible assumption); apply w_gF; rfl; apply w_gF; rfl; apply w_gF; rfl; apply w_pickFb; rfl; rfl; apply w_done; apply w_ifF; rfl; apply w_skip; apply w_sq; apply w_drawn; apply w_fld; rfl; apply w_ld; rfl; exact hc_i 0 rfl rfl; apply w_mvi; rfl; apply w_idx; rfl; rfl; rfl; omega; assumption; apply w_ld; rfl; exact hc_d (by assumption); apply w_b2sR; rfl; assumption; apply w_mv; apply w_b2sR; rfl; assumption; apply w_sle; rfl; rfl; apply w_mvb; rfl; apply w_gbF; rfl; (with_reducible assumption); apply w_gF; rfl; apply w_gF; rfl; apply w_gF; rfl; apply w_pickFb; rfl; rfl; apply w_done; apply w_ifF; rfl; apply w_skip; apply w_reg; apply w_mvi; rfl; apply w_add; rfl; rfl; omega; omega; apply w_mvi; rfl; apply w_done0)
            obtain ⟨f1, f2⟩ := done _ _ 0 (A) (B) rfl rfl (by simp [hAk, hb]) (by simp [hBk, hl3])
            exact ⟨k + 1, by omega, ⟨rfl, rfl, int_eq (by omega), int_eq (by omega), rfl, int_eq (by omega), trivial⟩, rfl, rfl, h⟩
  · have e : k = ks.length := by omega
    subst e
    rw [List.take_length]
    have hl : ∃ A, A = low ⟨lf, ks, vs, is⟩ key := ⟨_, rfl⟩
    have hlk := hlow ks.length (Nat.le_refl _)
    rw [List.take_length] at hlk
    obtain ⟨A, hA⟩ : ∃ A, A = (ks.takeWhile (Op.bytesLess · key)).length := ⟨_, rfl⟩
    rw [← hA] at hlk ⊢
    have hA' : low ⟨lf, ks, vs, is⟩ key = A := hA.symm
    cases lf
    · (apply w_sq; apply w_sq; apply w_reg; apply w_mvi; rfl; apply w_fld; rfl; apply w_ld; rfl; exact hc_i 0 rfl rfl; apply w_len; rfl; apply w_lss; rfl; rfl; apply w_done0; refine w_ifdF rfl (by omega) ?_; apply w_exit; apply w_sq; apply w_sq; apply w_reg; apply w_fld; rfl; apply w_ld; rfl; exact hc_i 0 rfl rfl; apply w_done0; apply w_ifF; rfl; apply w_skip; apply w_sq; apply w_reg; apply w_mvi; rfl; apply w_mvi; rfl; apply w_mvb; rfl; apply w_done0; apply w_ret)
      apply finPib
      rfl
      rfl
      · simp [rfindD]
      · simp [rfindD]
    · by_cases h : A < ks.length
      · obtain ⟨c0, hc0, hD0, ⟨u0, rfl, hu0⟩⟩ := kx A h
        replace hD0 := hD0.one
        (apply w_sq; apply w_sq; apply w_reg; apply w_mvi; rfl; apply w_fld; rfl; apply w_ld; rfl; exact hc_i 0 rfl rfl; apply w_len; rfl; apply w_lss; rfl; rfl; apply w_done0; refine w_ifdF rfl (by omega) ?_; apply w_exit; apply w_sq; apply w_sq; apply w_reg; apply w_fld; rfl; apply w_ld; rfl; exact hc_i 0 rfl rfl; apply w_done0; apply w_ifT; rfl; apply w_sq; apply w_drawn; apply w_mvi; rfl; apply w_fld; rfl; apply w_ld; rfl; exact hc_i 0 rfl rfl; apply w_len; rfl; apply w_lss; rfl; rfl; apply w_mvb; rfl; refine w_gdT rfl (by omega) ?_; apply w_gT; rfl; apply w_fld; rfl; apply w_gT; rfl; apply w_ld; rfl; exact hc_i 0 rfl rfl; apply w_gT; rfl; apply w_mvi; rfl; apply w_gT; rfl; apply w_idx; rfl; rfl; rfl; omega; assumption; apply w_gT; rfl; apply w_ld; rfl; exact hc_d (by assumption); apply w_gT; rfl; apply w_b2sR; rfl; assumption; apply w_gT; rfl; apply w_mv; apply w_gT; rfl; apply w_b2sR; rfl; assumption; apply w_gT; rfl; apply w_seq; rfl; rfl; apply w_pickTb; rfl; rfl; apply w_bar; apply w_mvb; rfl; apply w_done0; apply w_sq; apply w_reg; apply w_mvi; rfl; apply w_mvb; rfl; apply w_mvi; rfl; apply w_mvb; rfl; apply w_done0; apply w_ret)
        apply finPib
        rfl
        rfl
        · simp [rfindD, hA']
        · simp [rfindD, hA', h]
      · (apply w_sq; apply w_sq; apply w_reg; apply w_mvi; rfl; apply w_fld; rfl; apply w_ld; rfl; exact hc_i 0 rfl rfl; apply w_len; rfl; apply w_lss; rfl; rfl; apply w_done0; refine w_ifdF rfl (by omega) ?_; apply w_exit; apply w_sq; apply w_sq; apply w_reg; apply w_fld; rfl; apply w_ld; rfl; exact hc_i 0 rfl rfl; apply w_done0; apply w_ifT; rfl; apply w_sq; apply w_drawn; apply w_mvi; rfl; apply w_fld; rfl; apply w_ld; rfl; exact hc_i 0 rfl rfl; apply w_len; rfl; apply w_lss; rfl; rfl; apply w_mvb; rfl; refine w_gdF rfl (by omega) ?_; apply w_gF; rfl; apply w_gF; rfl; apply w_gF; rfl; apply w_gF; rfl; apply w_gF; rfl; apply w_gF; rfl; apply w_gF; rfl; apply w_gF; rfl; apply w_gF; rfl; apply w_pickFb; rfl; rfl; apply w_bar; apply w_mvb; rfl; apply w_done0; apply w_sq; apply w_reg; apply w_mvi; rfl; apply w_mvb; rfl; apply w_mvi; rfl; apply w_mvb; rfl; apply w_done0; apply w_ret)
        apply finPib
        rfl
        rfl
        · simp [rfindD, hA']
        · (first | (simp [rfindD, hA', h]; done) | (simp [rfindD, hA', h]; omega))

/-! ### the two answers are one where the keys rise -/
theorem keysOk_at {ks : List (List UInt8)} : ∀ {m k : Nat}, keysOk ks m = true → k < m → kOk ks k = true
  | 0, _, _, h => by omega
  | m + 1, k, h, hk => by
    simp only [keysOk, Bool.and_eq_true] at h
    by_cases e : k = m
    · subst e; exact h.2
    · exact keysOk_at h.1 (by omega)
theorem keys_rise {ks : List (List UInt8)} (h : keysOk ks ks.length = true) : ∀ {j i : Nat} (hj : j < ks.length) (hi : i < j), Op.bytesLess (ks[i]'(by omega)) ks[j] = true := by
  intro j
  induction j with
  | zero => intro i _ hi; omega
  | succ j ih =>
    intro i hj hi
    have hk := keysOk_at h hj
    simp only [kOk, Bool.and_eq_true, Bool.or_eq_true, beq_iff_eq, Nat.add_sub_cancel] at hk
    have h1 : Op.bytesLess ks[j] ks[j + 1] = true := by
      rcases hk.2 with e | e
      · omega
      · simpa [show j < ks.length by omega, hj] using e
    by_cases e : i = j
    · subst e; exact h1
    · exact bl_trans (ih (by omega) (by omega)) h1
theorem find_eq (n : NodeD) (key : List UInt8) (h : soundB n = true) : findD n key = rfindD n key := by
  obtain ⟨lf, ks, vs, is⟩ := n
  unfold findD rfindD
  cases lf with
  | true => rfl
  | false =>
    simp only [Bool.false_eq_true, if_false, Prod.mk.injEq, and_true]
    have hk : keysOk ks ks.length = true := by simp only [soundB, Bool.and_eq_true] at h; exact h.1
    have rise := fun {j i : Nat} (hj : j < ks.length) (hi : i < j) => keys_rise hk hj hi
    have hl : low ⟨false, ks, vs, is⟩ key ≤ ks.length := tw_le ks
    obtain ⟨A, hA⟩ : ∃ A, A = low ⟨false, ks, vs, is⟩ key := ⟨_, rfl⟩
    rw [← hA] at hl ⊢
    have below : ∀ j (hj : j < ks.length), j < A → Op.bytesLess ks[j] key = true := fun j hj hjA => tw_lt (p := (Op.bytesLess · key)) hj (by rw [hA] at hjA; exact hjA)
    have stop : ∀ h : A < ks.length, Op.bytesLess ks[A] key = false := fun h => tw_stop (p := (Op.bytesLess · key)) hA h
    have les : ∀ {a b : List UInt8}, Op.bytesLess a b = true → leB a b = true := fun h => by simp [leB, h]
    by_cases he : ∃ h : A < ks.length, ks[A] = key
    · obtain ⟨h, he⟩ := he
      have h1 : ((ks.drop A).takeWhile (fun k => decide (k = key))).length = 1 := tw_len (by simp; omega) (fun m hm hm1 => by
        obtain rfl : m = 0 := by omega
        simpa using he) (fun hm => by
        have hm' : A + 1 < ks.length := by simp at hm; omega
        have := rise hm' (i := A) (by omega)
        rw [he] at this
        simp only [List.getElem_drop, decide_eq_false_iff_not]
        intro e
        rw [e, bl_irrefl] at this; cases this)
      have h2 : (ks.takeWhile (leB · key)).length = A + 1 := tw_len h (fun j hj hjA => by
        by_cases e : j = A
        · subst e; simp [leB, he]
        · exact les (below j hj (by omega))) (fun hm => by
        have := rise hm (i := A) (by omega)
        rw [he] at this
        have h3 := bl_asymm this
        simp only [leB, h3, Bool.false_or, decide_eq_false_iff_not]
        intro e
        rw [e, bl_irrefl] at this; cases this)
      rw [h1, h2]
    · have h1 : ((ks.drop A).takeWhile (fun k => decide (k = key))).length = 0 := tw_len (by omega) (fun m _ hm => by omega) (fun hm => by
        have hm' : A < ks.length := by simp at hm; omega
        simp only [List.getElem_drop, decide_eq_false_iff_not, Nat.add_zero]
        intro e; exact he ⟨hm', e⟩)
      have h2 : (ks.takeWhile (leB · key)).length = A := tw_len hl (fun j hj hjA => les (below j hj hjA)) (fun hm => by
        simp only [leB, stop hm, Bool.false_or, decide_eq_false_iff_not]
        intro e; exact he ⟨hm, e⟩)
      rw [h1, h2]; rfl
end Go.Gk.Node
