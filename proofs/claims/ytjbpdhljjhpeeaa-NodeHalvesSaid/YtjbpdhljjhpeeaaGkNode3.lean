/-
  Nodes: the program's own test of which may be; which are of a page's size.
-/
import Derived.Test.YtjbpdhljjhpeeaaGkNode2
namespace Go.Gk.Node
open Go Go.Gk
attribute [local irreducible] gwp gws

def IndexFuncOk (P : Program) (f : FuncId) : Prop := ∀ {α : Type} {R : PHeap → List Value → α → Prop} {d : PHeap} {v : Value} {xs : List α} {g : FuncId} {p : α → Bool}, RSl 1 R d v xs → (∀ u x, R d [u] x → GPure P g [u] d (.bool (p x))) →
  GCall P f [v, .func (.func g) #[] #[]] d [] (Ret fun r d' L' => ∃ z : Int, r = .int .i64 z ∧ (0 ≤ z ↔ xs.any p = true) ∧ d' = d ∧ L' = [])
def ContainsFuncOk (P : Program) (f : FuncId) : Prop := ∀ {α : Type} {R : PHeap → List Value → α → Prop} {d : PHeap} {v : Value} {xs : List α} {g : FuncId} {p : α → Bool}, RSl 1 R d v xs → (∀ u x, R d [u] x → GPure P g [u] d (.bool (p x))) →
  GPure P f [v, .func (.func g) #[] #[]] d (.bool (xs.any p))
def CompareOk (P : Program) (f : FuncId) : Prop := ∀ {d : PHeap} {u v : Value} {a b : List UInt8}, RBytes d u a → RBytes d v b → GPure P f [u, v] d (.int .i64 (Lib.compareBytes a b))

theorem any_take {α : Type} {p : α → Bool} {xs : List α} {i : Nat} (hi : i < xs.length) (h : (xs.take i).any p = false) (hx : p xs[i] = false) : (xs.take (i + 1)).any p = false := by
  rw [List.take_succ_eq_append_getElem hi, List.any_append, h]; simp [hx]
theorem any_at {α : Type} {p : α → Bool} {xs : List α} {i : Nat} (hi : i < xs.length) (hx : p xs[i] = true) : xs.any p = true := List.any_eq_true.2 ⟨xs[i], List.getElem_mem hi, hx⟩

def g_slices_IndexFunc_byte_byte : GFun :=
 ⟨19, [(.tmp 4)],
 (.seq
 (.reg false (.op false ⟨(some 4), none, (.mv (.const (.int .i64 0)))⟩ .done))
 (.seq (.seq
 (.reg false (.op false ⟨(some 6), none, (.mv (.tmp 0))⟩
  (.op false ⟨(some 7), none, (.len (.tmp 6))⟩
  (.op false ⟨(some 8), none, (.mv (.const (.int .i64 0)))⟩ .done)))) (.block 0 (.loop
 (.seq
 (.reg false (.op false ⟨(some 9), none, (.bin .lss (.tmp 8) (.tmp 7))⟩ .done))
 (.seq (.cond (.tmp 9) .skip (.exit 0))
 (.seq (.block 1
 (.seq
 (.reg false (.op false ⟨(some 10), none, (.mv (.tmp 8))⟩
  (.op false ⟨(some 5), none, (.mv (.tmp 10))⟩ .done)))
 (.seq
 (.reg false (.op false ⟨(some 11), none, (.mv (.tmp 1))⟩
  (.op false ⟨(some 12), none, (.mv (.tmp 0))⟩
  (.op false ⟨(some 13), none, (.mv (.tmp 5))⟩
  (.op false ⟨(some 14), none, (.idx 1 (.tmp 12) (.tmp 13))⟩
  (.op false ⟨(some 15), none, (.ld none (.tmp 14))⟩
  (.op false ⟨(some 16), none, (.callv (.tmp 11) [(.tmp 15)])⟩ .done))))))) (.cond (.tmp 16)
 (.seq
 (.reg false (.op false ⟨(some 17), none, (.mv (.tmp 5))⟩
  (.op false ⟨(some 4), none, (.mv (.tmp 17))⟩ .done))) .ret) .skip))))
 (.reg false (.op false ⟨(some 18), none, (.bin .add (.tmp 8) (.const (.int .i64 1)))⟩
  (.op false ⟨(some 8), none, (.mv (.tmp 18))⟩ .done)))))))))
 (.seq
 (.reg false (.op false ⟨(some 4), none, (.mv (.const (.int .i64 (-1))))⟩ .done)) .ret)))⟩

theorem indexFunc_byte_byte {P : Program} {f : FuncId} (hd : dec P f = some g_slices_IndexFunc_byte_byte) : IndexFuncOk P f := by
  intro α R d v xs g p hv hp
  refine GCall_of hd (Nat.le_of_ble_eq_true rfl) ?_
  obtain ⟨xa, xc, xb, xo, rfl, xA, xS, xN, xl, xm, xB, xx⟩ := hv
  show gwp P _ _ _ _ _
  (apply w_sq; apply w_reg; apply w_mvi; rfl; apply w_done0; apply w_sq; apply w_sq; apply w_reg; apply w_mvs; rfl; apply w_len; rfl; apply w_mvi; rfl; apply w_done0; apply w_block)
  refine w_loopN (α := Nat) (fun k => [(0, .slice xa xs.length xc), (1, .func (.func g) #[] #[]), (7, .int .i64 xs.length), (8, .int .i64 k)])
    (fun _ => []) (fun k => k ≤ xs.length ∧ (xs.take k).any p = false) (fun k => xs.length - k) 0 ⟨rfl, rfl, rfl, rfl, trivial⟩ rfl ⟨Nat.zero_le _, by simp⟩ ?_
  rintro k ρ ⟨hle, hk⟩
  by_cases h : k < xs.length
  · obtain ⟨c0, hc0, hD0, hR0⟩ := xx k h
    obtain ⟨u, rfl⟩ : ∃ u, c0 = [u] := by
      match c0, hc0 with | [u], _ => exact ⟨u, rfl⟩
    replace hD0 := hD0.one
    (apply w_sq; apply w_reg; apply w_lss; rfl; rfl; apply w_done0; apply w_sq; refine w_ifdT rfl (by omega) ?_; apply w_skip; apply w_sq; apply w_block; apply w_sq; apply w_reg; apply w_mvi; rfl; apply w_mvi; rfl; apply w_done0; apply w_sq; apply w_reg; apply w_mvf; rfl; apply w_mvs; rfl; apply w_mvi; rfl; apply w_idx; rfl; rfl; rfl; omega; assumption; apply w_ld; rfl; exact hc_d (by assumption))
    refine w_purev rfl rfl (hp u _ hR0) ?_
    cases hx : p xs[k] with
    | true =>
      (apply w_done0; apply w_ifT; rfl; apply w_sq; apply w_reg; apply w_mvi; rfl; apply w_mvi; rfl; apply w_done0; apply w_ret)
      exact fin1n rfl ⟨k, rfl, by simp [any_at h hx], rfl, rfl⟩
    | false =>
      (apply w_done0; apply w_ifF; rfl; apply w_skip; apply w_reg; apply w_add; rfl; rfl; omega; omega; apply w_mvi; rfl; apply w_done0)
      exact ⟨k + 1, by omega, ⟨rfl, rfl, rfl, int_eq (by omega), trivial⟩, rfl, rfl, by omega, any_take h hk hx⟩
  · have e : k = xs.length := by omega
    subst e
    rw [List.take_length] at hk
    (apply w_sq; apply w_reg; apply w_lss; rfl; rfl; apply w_done0; apply w_sq; refine w_ifdF rfl (by omega) ?_; apply w_exit; apply w_sq; apply w_reg; apply w_mvi; rfl; apply w_done0; apply w_ret)
    exact fin1n rfl ⟨-1, rfl, by simp [hk], rfl, rfl⟩
def g_slices_ContainsFunc_byte_byte (f_slices_IndexFunc_byte_byte : Nat) : GFun :=
 ⟨9, [(.tmp 4)],
 (.seq
 (.reg false (.op false ⟨(some 4), none, (.mv (.const (.bool false)))⟩ .done))
 (.seq
 (.reg false (.op false ⟨(some 5), none, (.mv (.tmp 0))⟩
  (.op false ⟨(some 6), none, (.mv (.tmp 1))⟩
  (.op false ⟨(some 7), none, (.call f_slices_IndexFunc_byte_byte [(.tmp 5), (.tmp 6)])⟩
  (.op false ⟨(some 8), none, (.bin .geq (.tmp 7) (.const (.int .i64 0)))⟩
  (.op false ⟨(some 4), none, (.mv (.tmp 8))⟩ .done)))))) .ret))⟩

theorem containsFunc_byte_byte {P : Program} {f f1 : FuncId} (hd : dec P f = some (g_slices_ContainsFunc_byte_byte f1)) (h1 : IndexFuncOk P f1) : ContainsFuncOk P f := by
  intro α R d v xs g p hv hp
  refine GCall_of hd (Nat.le_of_ble_eq_true rfl) ?_
  show gwp P _ _ _ _ _
  (apply w_sq; apply w_reg; apply w_mvb; rfl; apply w_done0; apply w_sq; apply w_reg; apply w_mv; apply w_mvf; rfl)
  refine w_call0 rfl (h1 hv hp) (fun r d' L' _ ⟨z, hr, hz, hd', hL⟩ => ?_)
  subst hr; subst hd'; subst hL
  (apply w_geq; rfl; rfl; apply w_mvb; rfl; apply w_done0; apply w_ret)
  (apply finPb; rfl)
  cases h : xs.any p
  · have : ¬ 0 ≤ z := fun h0 => by rw [hz.1 h0] at h; cases h
    simpa using this
  · simpa using hz.2 h
def g_slices_IndexFunc_int_int : GFun :=
 ⟨19, [(.tmp 4)],
 (.seq
 (.reg false (.op false ⟨(some 4), none, (.mv (.const (.int .i64 0)))⟩ .done))
 (.seq (.seq
 (.reg false (.op false ⟨(some 6), none, (.mv (.tmp 0))⟩
  (.op false ⟨(some 7), none, (.len (.tmp 6))⟩
  (.op false ⟨(some 8), none, (.mv (.const (.int .i64 0)))⟩ .done)))) (.block 0 (.loop
 (.seq
 (.reg false (.op false ⟨(some 9), none, (.bin .lss (.tmp 8) (.tmp 7))⟩ .done))
 (.seq (.cond (.tmp 9) .skip (.exit 0))
 (.seq (.block 1
 (.seq
 (.reg false (.op false ⟨(some 10), none, (.mv (.tmp 8))⟩
  (.op false ⟨(some 5), none, (.mv (.tmp 10))⟩ .done)))
 (.seq
 (.reg false (.op false ⟨(some 11), none, (.mv (.tmp 1))⟩
  (.op false ⟨(some 12), none, (.mv (.tmp 0))⟩
  (.op false ⟨(some 13), none, (.mv (.tmp 5))⟩
  (.op false ⟨(some 14), none, (.idx 1 (.tmp 12) (.tmp 13))⟩
  (.op false ⟨(some 15), none, (.ld none (.tmp 14))⟩
  (.op false ⟨(some 16), none, (.callv (.tmp 11) [(.tmp 15)])⟩ .done))))))) (.cond (.tmp 16)
 (.seq
 (.reg false (.op false ⟨(some 17), none, (.mv (.tmp 5))⟩
  (.op false ⟨(some 4), none, (.mv (.tmp 17))⟩ .done))) .ret) .skip))))
 (.reg false (.op false ⟨(some 18), none, (.bin .add (.tmp 8) (.const (.int .i64 1)))⟩
  (.op false ⟨(some 8), none, (.mv (.tmp 18))⟩ .done)))))))))
 (.seq
 (.reg false (.op false ⟨(some 4), none, (.mv (.const (.int .i64 (-1))))⟩ .done)) .ret)))⟩

theorem indexFunc_int_int {P : Program} {f : FuncId} (hd : dec P f = some g_slices_IndexFunc_int_int) : IndexFuncOk P f := by
  intro α R d v xs g p hv hp
  refine GCall_of hd (Nat.le_of_ble_eq_true rfl) ?_
  obtain ⟨xa, xc, xb, xo, rfl, xA, xS, xN, xl, xm, xB, xx⟩ := hv
  show gwp P _ _ _ _ _
  (apply w_sq; apply w_reg; apply w_mvi; rfl; apply w_done0; apply w_sq; apply w_sq; apply w_reg; apply w_mvs; rfl; apply w_len; rfl; apply w_mvi; rfl; apply w_done0; apply w_block)
  refine w_loopN (α := Nat) (fun k => [(0, .slice xa xs.length xc), (1, .func (.func g) #[] #[]), (7, .int .i64 xs.length), (8, .int .i64 k)])
    (fun _ => []) (fun k => k ≤ xs.length ∧ (xs.take k).any p = false) (fun k => xs.length - k) 0 ⟨rfl, rfl, rfl, rfl, trivial⟩ rfl ⟨Nat.zero_le _, by simp⟩ ?_
  rintro k ρ ⟨hle, hk⟩
  by_cases h : k < xs.length
  · obtain ⟨c0, hc0, hD0, hR0⟩ := xx k h
    obtain ⟨u, rfl⟩ : ∃ u, c0 = [u] := by
      match c0, hc0 with | [u], _ => exact ⟨u, rfl⟩
    replace hD0 := hD0.one
    (apply w_sq; apply w_reg; apply w_lss; rfl; rfl; apply w_done0; apply w_sq; refine w_ifdT rfl (by omega) ?_; apply w_skip; apply w_sq; apply w_block; apply w_sq; apply w_reg; apply w_mvi; rfl; apply w_mvi; rfl; apply w_done0; apply w_sq; apply w_reg; apply w_mvf; rfl; apply w_mvs; rfl; apply w_mvi; rfl; apply w_idx; rfl; rfl; rfl; omega; assumption; apply w_ld; rfl; exact hc_d (by assumption))
    refine w_purev rfl rfl (hp u _ hR0) ?_
    cases hx : p xs[k] with
    | true =>
      (apply w_done0; apply w_ifT; rfl; apply w_sq; apply w_reg; apply w_mvi; rfl; apply w_mvi; rfl; apply w_done0; apply w_ret)
      exact fin1n rfl ⟨k, rfl, by simp [any_at h hx], rfl, rfl⟩
    | false =>
      (apply w_done0; apply w_ifF; rfl; apply w_skip; apply w_reg; apply w_add; rfl; rfl; omega; omega; apply w_mvi; rfl; apply w_done0)
      exact ⟨k + 1, by omega, ⟨rfl, rfl, rfl, int_eq (by omega), trivial⟩, rfl, rfl, by omega, any_take h hk hx⟩
  · have e : k = xs.length := by omega
    subst e
    rw [List.take_length] at hk
    (apply w_sq; apply w_reg; apply w_lss; rfl; rfl; apply w_done0; apply w_sq; refine w_ifdF rfl (by omega) ?_; apply w_exit; apply w_sq; apply w_reg; apply w_mvi; rfl; apply w_done0; apply w_ret)
    exact fin1n rfl ⟨-1, rfl, by simp [hk], rfl, rfl⟩
def g_slices_ContainsFunc_int_int (f_slices_IndexFunc_int_int : Nat) : GFun :=
 ⟨9, [(.tmp 4)],
 (.seq
 (.reg false (.op false ⟨(some 4), none, (.mv (.const (.bool false)))⟩ .done))
 (.seq
 (.reg false (.op false ⟨(some 5), none, (.mv (.tmp 0))⟩
  (.op false ⟨(some 6), none, (.mv (.tmp 1))⟩
  (.op false ⟨(some 7), none, (.call f_slices_IndexFunc_int_int [(.tmp 5), (.tmp 6)])⟩
  (.op false ⟨(some 8), none, (.bin .geq (.tmp 7) (.const (.int .i64 0)))⟩
  (.op false ⟨(some 4), none, (.mv (.tmp 8))⟩ .done)))))) .ret))⟩

theorem containsFunc_int_int {P : Program} {f f1 : FuncId} (hd : dec P f = some (g_slices_ContainsFunc_int_int f1)) (h1 : IndexFuncOk P f1) : ContainsFuncOk P f := by
  intro α R d v xs g p hv hp
  refine GCall_of hd (Nat.le_of_ble_eq_true rfl) ?_
  show gwp P _ _ _ _ _
  (apply w_sq; apply w_reg; apply w_mvb; rfl; apply w_done0; apply w_sq; apply w_reg; apply w_mv; apply w_mvf; rfl)
  refine w_call0 rfl (h1 hv hp) (fun r d' L' _ ⟨z, hr, hz, hd', hL⟩ => ?_)
  subst hr; subst hd'; subst hL
  (apply w_geq; rfl; rfl; apply w_mvb; rfl; apply w_done0; apply w_ret)
  (apply finPb; rfl)
  cases h : xs.any p
  · have : ¬ 0 ≤ z := fun h0 => by rw [hz.1 h0] at h; cases h
    simpa using this
  · simpa using hz.2 h

def g_bytes_Compare : GFun :=
 ⟨8, [(.tmp 4)],
 (.seq
 (.reg false (.op false ⟨(some 4), none, (.mv (.const (.int .i64 0)))⟩ .done))
 (.seq
 (.reg false (.op false ⟨(some 5), none, (.mv (.tmp 0))⟩
  (.op false ⟨(some 6), none, (.mv (.tmp 1))⟩
  (.op false ⟨(some 7), none, (.bcmp (.tmp 5) (.tmp 6))⟩
  (.op false ⟨(some 4), none, (.mv (.tmp 7))⟩ .done))))) .ret))⟩

theorem compare_ok {P : Program} {f : FuncId} (hd : dec P f = some g_bytes_Compare) : CompareOk P f := by
  intro d u v a b hu hv
  refine GCall_of hd (Nat.le_of_ble_eq_true rfl) ?_
  show gwp P _ _ _ _ _
  (apply w_sq; apply w_reg; apply w_mvi; rfl; apply w_done0; apply w_sq; apply w_reg; apply w_mv; apply w_mv; apply w_bcmpR; rfl; rfl; assumption; assumption; apply w_mvi; rfl; apply w_done0; apply w_ret)
  (apply finPi; rfl)
  rfl

def g_node_sound_1 : GFun :=
 ⟨6, [(.tmp 2)],
 (.seq
 (.reg false (.op false ⟨(some 2), none, (.mv (.const (.bool false)))⟩ .done))
 (.seq
 (.reg false (.op false ⟨(some 3), none, (.mv (.tmp 0))⟩
  (.op false ⟨(some 4), none, (.len (.tmp 3))⟩
  (.op false ⟨(some 5), none, (.bin .gtr (.tmp 4) (.const (.int .i64 16)))⟩
  (.op false ⟨(some 2), none, (.mv (.tmp 5))⟩ .done))))) .ret))⟩

theorem sound1_ok {P : Program} {f : FuncId} (hd : dec P f = some g_node_sound_1) {d : PHeap} {u : Value} {l : List UInt8} (hu : RBs d [u] l) : GPure P f [u] d (.bool (!valOk l)) := by
  obtain ⟨u', e, hu⟩ := hu
  cases e
  refine GCall_of hd (Nat.le_of_ble_eq_true rfl) ?_
  show gwp P _ _ _ _ _
  (apply w_sq; apply w_reg; apply w_mvb; rfl; apply w_done0; apply w_sq; apply w_reg; apply w_mv; apply w_lenR; rfl; assumption; apply w_gtr; rfl; rfl; apply w_mvb; rfl; apply w_done0; apply w_ret)
  (apply finPb; rfl)
  (rw [Bool.eq_iff_iff]; simp [valOk]; omega)
def g_node_sound_2 : GFun :=
 ⟨9, [(.tmp 2)],
 (.seq
 (.reg false (.op false ⟨(some 2), none, (.mv (.const (.bool false)))⟩ .done))
 (.seq
 (.reg false (.op false ⟨(some 3), none, (.mv (.tmp 0))⟩
  (.op false ⟨(some 4), none, (.bin .lss (.tmp 3) (.const (.int .i64 0)))⟩
  (.op false ⟨(some 5), none, (.mv (.tmp 4))⟩
  (.op false ⟨(some 6), (some (5, false)), (.mv (.tmp 0))⟩
  (.op false ⟨(some 7), (some (5, false)), (.bin .geq (.tmp 6) (.const (.int .i64 8192)))⟩
  (.op false ⟨(some 8), none, (.pick (.tmp 5) (.const (.bool true)) (.tmp 7))⟩
  (.op false ⟨(some 2), none, (.mv (.tmp 8))⟩ .done)))))))) .ret))⟩

theorem sound2_ok {P : Program} {f : FuncId} (hd : dec P f = some g_node_sound_2) {d : PHeap} {u : Value} {k : Int} (hu : RInt d [u] k) : GPure P f [u] d (.bool (!kidOk k)) := by
  obtain ⟨e, h1, h2⟩ := hu
  cases e
  refine GCall_of hd (Nat.le_of_ble_eq_true rfl) ?_
  show gwp P _ _ _ _ _
  by_cases h : k < 0
  · (apply w_sq; apply w_reg; apply w_mvb; rfl; apply w_done0; apply w_sq; apply w_reg; apply w_mvi; rfl; apply w_lss; rfl; rfl; apply w_mvb; rfl; refine w_gdT rfl (by omega) ?_; apply w_gF; rfl; apply w_gF; rfl; apply w_pickTb; rfl; rfl; apply w_mvb; rfl; apply w_done0; apply w_ret)
    (apply finPb; rfl)
    (rw [Bool.eq_iff_iff]; simp [kidOk]; omega)
  · by_cases h' : k ≥ 8192
    · (apply w_sq; apply w_reg; apply w_mvb; rfl; apply w_done0; apply w_sq; apply w_reg; apply w_mvi; rfl; apply w_lss; rfl; rfl; apply w_mvb; rfl; refine w_gdF rfl (by omega) ?_; apply w_gT; rfl; apply w_mvi; rfl; apply w_gT; rfl; apply w_geq; rfl; rfl; apply w_pickFb; rfl; rfl; apply w_mvb; rfl; apply w_done0; apply w_ret)
      (apply finPb; rfl)
      (rw [Bool.eq_iff_iff]; simp [kidOk]; omega)
    · (apply w_sq; apply w_reg; apply w_mvb; rfl; apply w_done0; apply w_sq; apply w_reg; apply w_mvi; rfl; apply w_lss; rfl; rfl; apply w_mvb; rfl; refine w_gdF rfl (by omega) ?_; apply w_gT; rfl; apply w_mvi; rfl; apply w_gT; rfl; apply w_geq; rfl; rfl; apply w_pickFb; rfl; rfl; apply w_mvb; rfl; apply w_done0; apply w_ret)
      (apply finPb; rfl)
      (rw [Bool.eq_iff_iff]; simp [kidOk]; omega)

def g_node_sound (f_bytes_Compare f_slices_ContainsFunc_byte_byte f_node_sound_1 f_slices_ContainsFunc_int_int f_node_sound_2 : Nat) : GFun :=
 ⟨78, [(.tmp 2)],
 (.seq
 (.reg false (.op false ⟨(some 1), none, (.box (.tmp 0))⟩
  (.op false ⟨(some 2), none, (.mv (.const (.bool false)))⟩ .done)))
 (.seq (.seq
 (.reg false (.op false ⟨(some 5), none, (.fld 1 (.tmp 1))⟩
  (.op false ⟨(some 6), none, (.ld none (.tmp 5))⟩
  (.op false ⟨(some 7), none, (.len (.tmp 6))⟩
  (.op false ⟨(some 8), none, (.mv (.const (.int .i64 0)))⟩ .done))))) (.block 0 (.loop
 (.seq
 (.reg false (.op false ⟨(some 9), none, (.bin .lss (.tmp 8) (.tmp 7))⟩ .done))
 (.seq (.cond (.tmp 9) .skip (.exit 0))
 (.seq (.block 1
 (.seq
 (.reg false (.op false ⟨(some 10), none, (.mv (.tmp 8))⟩
  (.op false ⟨(some 11), none, (.idx 1 (.tmp 6) (.tmp 8))⟩
  (.op false ⟨(some 12), none, (.ld none (.tmp 11))⟩
  (.op false ⟨(some 3), none, (.mv (.tmp 10))⟩
  (.op false ⟨(some 4), none, (.mv (.tmp 12))⟩ .done))))))
 (.seq
 (.reg false (.op false ⟨(some 13), none, (.mv (.tmp 4))⟩
  (.op false ⟨(some 14), none, (.len (.tmp 13))⟩
  (.op false ⟨(some 15), none, (.bin .lss (.tmp 14) (.const (.int .i64 1)))⟩
  (.op false ⟨(some 16), none, (.mv (.tmp 15))⟩
  (.op false ⟨(some 17), (some (16, false)), (.mv (.tmp 4))⟩
  (.op false ⟨(some 18), (some (16, false)), (.len (.tmp 17))⟩
  (.op false ⟨(some 19), (some (16, false)), (.bin .gtr (.tmp 18) (.const (.int .i64 64)))⟩
  (.op false ⟨(some 20), none, (.pick (.tmp 16) (.const (.bool true)) (.tmp 19))⟩
  (.op false ⟨(some 21), none, (.mv (.tmp 20))⟩
  (.op false ⟨(some 22), (some (21, false)), (.mv (.tmp 3))⟩
  (.op false ⟨(some 23), (some (21, false)), (.bin .gtr (.tmp 22) (.const (.int .i64 0)))⟩
  (.op false ⟨(some 24), (some (21, false)), (.mv (.tmp 23))⟩
  (.op false ⟨(some 25), (some (24, true)), (.fld 1 (.tmp 1))⟩
  (.op false ⟨(some 26), (some (24, true)), (.ld none (.tmp 25))⟩
  (.op false ⟨(some 27), (some (24, true)), (.mv (.tmp 3))⟩
  (.op false ⟨(some 28), (some (24, true)), (.bin .sub (.tmp 27) (.const (.int .i64 1)))⟩
  (.op false ⟨(some 29), (some (24, true)), (.idx 1 (.tmp 26) (.tmp 28))⟩
  (.op false ⟨(some 30), (some (24, true)), (.ld none (.tmp 29))⟩
  (.op false ⟨(some 31), (some (24, true)), (.mv (.tmp 4))⟩
  (.op false ⟨(some 32), (some (24, true)), (.call f_bytes_Compare [(.tmp 30), (.tmp 31)])⟩
  (.op false ⟨(some 33), (some (24, true)), (.bin .geq (.tmp 32) (.const (.int .i64 0)))⟩
  (.op false ⟨(some 34), (some (21, false)), (.pick (.tmp 24) (.tmp 33) (.const (.bool false)))⟩
  (.op false ⟨(some 35), none, (.pick (.tmp 21) (.const (.bool true)) (.tmp 34))⟩ .done)))))))))))))))))))))))) (.cond (.tmp 35)
 (.seq
 (.reg false (.op false ⟨(some 2), none, (.mv (.const (.bool false)))⟩ .done)) .ret) .skip))))
 (.reg false (.op false ⟨(some 36), none, (.bin .add (.tmp 8) (.const (.int .i64 1)))⟩
  (.op false ⟨(some 8), none, (.mv (.tmp 36))⟩ .done)))))))))
 (.seq (.seq
 (.reg false (.op false ⟨(some 37), none, (.fld 0 (.tmp 1))⟩
  (.op false ⟨(some 38), none, (.ld none (.tmp 37))⟩ .done))) (.cond (.tmp 38)
 (.seq
 (.reg false (.op false ⟨(some 39), none, (.fld 2 (.tmp 1))⟩
  (.op false ⟨(some 40), none, (.ld none (.tmp 39))⟩
  (.op false ⟨(some 41), none, (.len (.tmp 40))⟩
  (.op false ⟨(some 42), none, (.fld 1 (.tmp 1))⟩
  (.op false ⟨(some 43), none, (.ld none (.tmp 42))⟩
  (.op false ⟨(some 44), none, (.len (.tmp 43))⟩
  (.op false ⟨(some 45), none, (.bin .eql (.tmp 41) (.tmp 44))⟩
  (.op false ⟨(some 46), none, (.mv (.tmp 45))⟩
  (.op false ⟨(some 47), (some (46, true)), (.fld 3 (.tmp 1))⟩
  (.op false ⟨(some 48), (some (46, true)), (.ld none (.tmp 47))⟩
  (.op false ⟨(some 49), (some (46, true)), (.len (.tmp 48))⟩
  (.op false ⟨(some 50), (some (46, true)), (.bin .eql (.tmp 49) (.const (.int .i64 0)))⟩
  (.op false ⟨(some 51), none, (.pick (.tmp 46) (.tmp 50) (.const (.bool false)))⟩
  (.op false ⟨(some 52), none, (.mv (.tmp 51))⟩
  (.op false ⟨(some 53), (some (52, true)), (.fld 2 (.tmp 1))⟩
  (.op false ⟨(some 54), (some (52, true)), (.ld none (.tmp 53))⟩
  (.op false ⟨(some 55), (some (52, true)), (.call f_slices_ContainsFunc_byte_byte [(.tmp 54), (.func f_node_sound_1)])⟩
  (.op false ⟨(some 56), (some (52, true)), (.un .not (.tmp 55))⟩
  (.op false ⟨(some 57), none, (.pick (.tmp 52) (.tmp 56) (.const (.bool false)))⟩
  (.op false ⟨(some 2), none, (.mv (.tmp 57))⟩ .done))))))))))))))))))))) .ret) .skip))
 (.seq
 (.reg false (.op false ⟨(some 58), none, (.fld 2 (.tmp 1))⟩
  (.op false ⟨(some 59), none, (.ld none (.tmp 58))⟩
  (.op false ⟨(some 60), none, (.len (.tmp 59))⟩
  (.op false ⟨(some 61), none, (.bin .eql (.tmp 60) (.const (.int .i64 0)))⟩
  (.op false ⟨(some 62), none, (.mv (.tmp 61))⟩
  (.op false ⟨(some 63), (some (62, true)), (.fld 3 (.tmp 1))⟩
  (.op false ⟨(some 64), (some (62, true)), (.ld none (.tmp 63))⟩
  (.op false ⟨(some 65), (some (62, true)), (.len (.tmp 64))⟩
  (.op false ⟨(some 66), (some (62, true)), (.fld 1 (.tmp 1))⟩
  (.op false ⟨(some 67), (some (62, true)), (.ld none (.tmp 66))⟩
  (.op false ⟨(some 68), (some (62, true)), (.len (.tmp 67))⟩
  (.op false ⟨(some 69), (some (62, true)), (.bin .add (.tmp 68) (.const (.int .i64 1)))⟩
  (.op false ⟨(some 70), (some (62, true)), (.bin .eql (.tmp 65) (.tmp 69))⟩
  (.op false ⟨(some 71), none, (.pick (.tmp 62) (.tmp 70) (.const (.bool false)))⟩
  (.op false ⟨(some 72), none, (.mv (.tmp 71))⟩
  (.op false ⟨(some 73), (some (72, true)), (.fld 3 (.tmp 1))⟩
  (.op false ⟨(some 74), (some (72, true)), (.ld none (.tmp 73))⟩
  (.op false ⟨(some 75), (some (72, true)), (.call f_slices_ContainsFunc_int_int [(.tmp 74), (.func f_node_sound_2)])⟩
  (.op false ⟨(some 76), (some (72, true)), (.un .not (.tmp 75))⟩
  (.op false ⟨(some 77), none, (.pick (.tmp 72) (.tmp 76) (.const (.bool false)))⟩
  (.op false ⟨(some 2), none, (.mv (.tmp 77))⟩ .done)))))))))))))))))))))) .ret))))⟩

theorem sound_ok {P : Program} {f f1 f2 f3 f4 f5 : FuncId} (hd : dec P f = some (g_node_sound f1 f2 f3 f4 f5)) (h1 : CompareOk P f1) (h2 : ContainsFuncOk P f2) (h3 : dec P f3 = some g_node_sound_1) (h4 : ContainsFuncOk P f4) (h5 : dec P f5 = some g_node_sound_2) : SoundOk P f := by
  intro d cs n hn
  obtain ⟨lf, ks, vs, is⟩ := n
  obtain ⟨kv, vv, iv, rfl, hk, hv, hiv⟩ : ∃ kv vv iv, cs = [.bool lf, kv, vv, iv] ∧ RBss d kv ks ∧ RBss d vv vs ∧ RInts d iv is := hn
  refine GCall_of hd (Nat.le_of_ble_eq_true rfl) ?_
  have hv' := hv
  have hiv' := hiv
  obtain ⟨ka, kc, kb, ko, rfl, kA, kS, kN, kl, km, kB, kx⟩ := hk
  show gwp P _ _ _ _ _
  (apply w_sq; apply w_reg; apply w_boxa; rfl; intro _ _; apply w_mvb; rfl; apply w_done0; apply w_sq; apply w_sq; apply w_reg; apply w_fld; rfl; apply w_ld; rfl; exact hc_i 0 rfl rfl; apply w_len; rfl; apply w_mvi; rfl; apply w_done0; apply w_block)
  rename_i b T
  refine w_loopN (α := Nat) (fun k => [(1, .pointer (some ⟨b, 0, none⟩)), (6, .slice ka ks.length kc), (7, .int .i64 ks.length), (8, .int .i64 k)])
    (fun _ => [bx b T [.bool lf, .slice ka ks.length kc, vv, iv]]) (fun k => k ≤ ks.length ∧ keysOk ks k = true) (fun k => ks.length - k) 0 ⟨rfl, rfl, rfl, rfl, trivial⟩ rfl ⟨Nat.zero_le _, rfl⟩ ?_
  rintro k ρ ⟨hle, hok⟩
  by_cases h : k < ks.length
  · obtain ⟨c0, hc0, hD0, ⟨u0, rfl, hu0⟩⟩ := kx k h
    replace hD0 := hD0.one
    have hkl : ks.getD k [] = ks[k] := by simp [h]
    have hnext : kOk ks k = true → ∃ x', ks.length - x' < ks.length - k ∧ x' = k + 1 ∧ (x' ≤ ks.length ∧ keysOk ks x' = true) := fun hk => ⟨k + 1, by omega, rfl, by omega, by simp [keysOk, hok, hk]⟩
    by_cases h1' : ks[k].length < 1
    · have hf : kOk ks k = false := by rw [kOk, hkl]; simp; omega
      (apply w_sq; apply w_reg; apply w_lss; rfl; rfl; apply w_done0; apply w_sq; refine w_ifdT rfl (by omega) ?_; apply w_skip; apply w_sq; apply w_block; apply w_sq; apply w_reg; apply w_mvi; rfl; apply w_idx; rfl; rfl; rfl; omega; assumption; apply w_ld; rfl; exact hc_d (by assumption); apply w_mvi; rfl; apply w_mv; apply w_done0; apply w_sq; apply w_reg; apply w_mv; apply w_lenR; rfl; assumption; apply w_lss; rfl; rfl; apply w_mvb; rfl; refine w_gdT rfl (by omega) ?_; apply w_gF; rfl; apply w_gF; rfl; apply w_gF; rfl; apply w_pickTb; rfl; rfl; apply w_mvb; rfl; apply w_gF; rfl; apply w_gF; rfl; apply w_gF; rfl; apply w_gU; rfl; apply w_gU; rfl; apply w_gU; rfl; apply w_gU; rfl; apply w_gU; rfl; apply w_gU; rfl; apply w_gU; rfl; apply w_gU; rfl; apply w_gU; rfl; apply w_gF; rfl; apply w_pickTb; rfl; rfl; apply w_done0; apply w_ifT; rfl; apply w_sq; apply w_reg; apply w_mvb; rfl; apply w_done0; apply w_ret)
      (apply finPb; rfl)
      simp [soundB, keysOk_false hf h]
    · by_cases h2' : ks[k].length > 64
      · have hf : kOk ks k = false := by rw [kOk, hkl]; simp; omega
        (apply w_sq; apply w_reg; apply w_lss; rfl; rfl; apply w_done0; apply w_sq; refine w_ifdT rfl (by omega) ?_; apply w_skip; apply w_sq; apply w_block; apply w_sq; apply w_reg; apply w_mvi; rfl; apply w_idx; rfl; rfl; rfl; omega; assumption; apply w_ld; rfl; exact hc_d (by assumption); apply w_mvi; rfl; apply w_mv; apply w_done0; apply w_sq; apply w_reg; apply w_mv; apply w_lenR; rfl; assumption; apply w_lss; rfl; rfl; apply w_mvb; rfl; refine w_gdF rfl (by omega) ?_; apply w_gT; rfl; apply w_mv; apply w_gT; rfl; apply w_lenR; rfl; assumption; apply w_gT; rfl; apply w_gtr; rfl; rfl; apply w_pickFb; rfl; rfl; apply w_mvb; rfl; refine w_gdT rfl (by omega) ?_; apply w_gF; rfl; apply w_gF; rfl; apply w_gF; rfl; apply w_gU; rfl; apply w_gU; rfl; apply w_gU; rfl; apply w_gU; rfl; apply w_gU; rfl; apply w_gU; rfl; apply w_gU; rfl; apply w_gU; rfl; apply w_gU; rfl; apply w_gF; rfl; apply w_pickTb; rfl; rfl; apply w_done0; apply w_ifT; rfl; apply w_sq; apply w_reg; apply w_mvb; rfl; apply w_done0; apply w_ret)
        (apply finPb; rfl)
        simp [soundB, keysOk_false hf h]
      · cases k with
        | zero =>
          (apply w_sq; apply w_reg; apply w_lss; rfl; rfl; apply w_done0; apply w_sq; refine w_ifdT rfl (by omega) ?_; apply w_skip; apply w_sq; apply w_block; apply w_sq; apply w_reg; apply w_mvi; rfl; apply w_idx; rfl; rfl; rfl; omega; assumption; apply w_ld; rfl; exact hc_d (by assumption); apply w_mvi; rfl; apply w_mv; apply w_done0; apply w_sq; apply w_reg; apply w_mv; apply w_lenR; rfl; assumption; apply w_lss; rfl; rfl; apply w_mvb; rfl; refine w_gdF rfl (by omega) ?_; apply w_gT; rfl; apply w_mv; apply w_gT; rfl; apply w_lenR; rfl; assumption; apply w_gT; rfl; apply w_gtr; rfl; rfl; apply w_pickFb; rfl; rfl; apply w_mvb; rfl; refine w_gdF rfl (by omega) ?_; apply w_gT; rfl; apply w_mvi; rfl; apply w_gT; rfl; apply w_gtr; rfl; rfl; apply w_gT; rfl; apply w_mvb; rfl; apply w_gF; rfl; apply w_gF; rfl; apply w_gF; rfl; apply w_gF; rfl; apply w_gF; rfl; apply w_gF; rfl; apply w_gF; rfl; apply w_gF; rfl; apply w_gF; rfl; apply w_gT; rfl; apply w_pickFb; rfl; rfl; apply w_pickFb; rfl; rfl; apply w_done0; apply w_ifF; rfl; apply w_skip; apply w_reg; apply w_add; rfl; rfl; omega; omega; apply w_mvi; rfl; apply w_done0)
          obtain ⟨x', e1, rfl, e2⟩ := hnext (by rw [kOk, hkl]; simp; omega)
          exact ⟨_, e1, ⟨rfl, rfl, rfl, int_eq (by omega), trivial⟩, rfl, rfl, e2⟩
        | succ j =>
          obtain ⟨c1, hc1, hD1, ⟨u1, rfl, hu1⟩⟩ := kx j (by omega)
          replace hD1 := hD1.one
          have hjl : ks.getD j [] = ks[j] := by simp [show j < ks.length by omega]
          have hc := cmp_lt ks[j] ks[j + 1]
          cases hb : Op.bytesLess ks[j] ks[j + 1] with
          | true =>
            have hb' : Lib.compareBytes ks[j] ks[j + 1] < 0 := hc.2 hb
            (apply w_sq; apply w_reg; apply w_lss; rfl; rfl; apply w_done0; apply w_sq; refine w_ifdT rfl (by omega) ?_; apply w_skip; apply w_sq; apply w_block; apply w_sq; apply w_reg; apply w_mvi; rfl; apply w_idx; rfl; rfl; rfl; omega; assumption; apply w_ld; rfl; exact hc_d (by assumption); apply w_mvi; rfl; apply w_mv; apply w_done0; apply w_sq; apply w_reg; apply w_mv; apply w_lenR; rfl; assumption; apply w_lss; rfl; rfl; apply w_mvb; rfl; refine w_gdF rfl (by omega) ?_; apply w_gT; rfl; apply w_mv; apply w_gT; rfl; apply w_lenR; rfl; assumption; apply w_gT; rfl; apply w_gtr; rfl; rfl; apply w_pickFb; rfl; rfl; apply w_mvb; rfl; refine w_gdF rfl (by omega) ?_; apply w_gT; rfl; apply w_mvi; rfl; apply w_gT; rfl; apply w_gtr; rfl; rfl; apply w_gT; rfl; apply w_mvb; rfl; refine w_gdT rfl (by omega) ?_; apply w_gT; rfl; apply w_fld; rfl; apply w_gT; rfl; apply w_ld; rfl; exact hc_i 0 rfl rfl; apply w_gT; rfl; apply w_mvi; rfl; apply w_gT; rfl; apply w_sub; rfl; rfl; omega; omega; apply w_gT; rfl)
            refine w_idx j rfl rfl (by omega) (by omega) kA ?_
            (apply w_gT; rfl; apply w_ld; rfl; exact hc_d (by assumption); apply w_gT; rfl; apply w_mv; apply w_gT; rfl)
            refine w_pure rfl (h1 hu1 hu0) ?_
            (apply w_gT; rfl; apply w_geq; rfl; rfl; apply w_gT; rfl; apply w_pickTb; rfl; rfl; apply w_pickFb; rfl; rfl; apply w_done0; refine w_ifdF rfl (by omega) ?_; apply w_skip; apply w_reg; apply w_add; rfl; rfl; omega; omega; apply w_mvi; rfl; apply w_done0)
            obtain ⟨x', e1, rfl, e2⟩ := hnext (by rw [kOk, hkl, Nat.add_sub_cancel, hjl, hb]; simp; omega)
            exact ⟨_, e1, ⟨rfl, rfl, rfl, int_eq (by omega), trivial⟩, rfl, rfl, e2⟩
          | false =>
            have hb' : ¬ Lib.compareBytes ks[j] ks[j + 1] < 0 := fun h0 => by rw [hc.1 h0] at hb; cases hb
            have hf : kOk ks (j + 1) = false := by rw [kOk, hkl, Nat.add_sub_cancel, hjl, hb]; simp
            (apply w_sq; apply w_reg; apply w_lss; rfl; rfl; apply w_done0; apply w_sq; refine w_ifdT rfl (by omega) ?_; apply w_skip; apply w_sq; apply w_block; apply w_sq; apply w_reg; apply w_mvi; rfl; apply w_idx; rfl; rfl; rfl; omega; assumption; apply w_ld; rfl; exact hc_d (by assumption); apply w_mvi; rfl; apply w_mv; apply w_done0; apply w_sq; apply w_reg; apply w_mv; apply w_lenR; rfl; assumption; apply w_lss; rfl; rfl; apply w_mvb; rfl; refine w_gdF rfl (by omega) ?_; apply w_gT; rfl; apply w_mv; apply w_gT; rfl; apply w_lenR; rfl; assumption; apply w_gT; rfl; apply w_gtr; rfl; rfl; apply w_pickFb; rfl; rfl; apply w_mvb; rfl; refine w_gdF rfl (by omega) ?_; apply w_gT; rfl; apply w_mvi; rfl; apply w_gT; rfl; apply w_gtr; rfl; rfl; apply w_gT; rfl; apply w_mvb; rfl; refine w_gdT rfl (by omega) ?_; apply w_gT; rfl; apply w_fld; rfl; apply w_gT; rfl; apply w_ld; rfl; exact hc_i 0 rfl rfl; apply w_gT; rfl; apply w_mvi; rfl; apply w_gT; rfl; apply w_sub; rfl; rfl; omega; omega; apply w_gT; rfl)
            refine w_idx j rfl rfl (by omega) (by omega) kA ?_
            (apply w_gT; rfl; apply w_ld; rfl; exact hc_d (by assumption); apply w_gT; rfl; apply w_mv; apply w_gT; rfl)
            refine w_pure rfl (h1 hu1 hu0) ?_
            (apply w_gT; rfl; apply w_geq; rfl; rfl; apply w_gT; rfl; apply w_pickTb; rfl; rfl; apply w_pickFb; rfl; rfl; apply w_done0; refine w_ifdT rfl (by omega) ?_; apply w_sq; apply w_reg; apply w_mvb; rfl; apply w_done0; apply w_ret)
            (apply finPb; rfl)
            simp [soundB, keysOk_false hf h]
  · have e : k = ks.length := by omega
    subst e
    have ea : ∀ l : List (List UInt8), (!l.any fun v => !valOk v) = l.all valOk := fun l => by simp [List.any_eq_not_all_not]
    have ei : ∀ l : List Int, (!l.any fun v => !kidOk v) = l.all kidOk := fun l => by simp [List.any_eq_not_all_not]
    cases lf
    · by_cases h1' : vs.length = 0
      · by_cases h2' : is.length = ks.length + 1
        · (apply w_sq; apply w_reg; apply w_lss; rfl; rfl; apply w_done0; apply w_sq; refine w_ifdF rfl (by omega) ?_; apply w_exit; apply w_sq; apply w_sq; apply w_reg; apply w_fld; rfl; apply w_ld; rfl; exact hc_i 0 rfl rfl; apply w_done0; apply w_ifF; rfl; apply w_skip; apply w_sq; apply w_reg; apply w_fld; rfl; apply w_ld; rfl; exact hc_i 0 rfl rfl; apply w_lenR; rfl; assumption; apply w_eql; rfl; rfl; apply w_mvb; rfl; refine w_gdT rfl (by omega) ?_; apply w_gT; rfl; apply w_fld; rfl; apply w_gT; rfl; apply w_ld; rfl; exact hc_i 0 rfl rfl; apply w_gT; rfl; apply w_lenR; rfl; assumption; apply w_gT; rfl; apply w_fld; rfl; apply w_gT; rfl; apply w_ld; rfl; exact hc_i 0 rfl rfl; apply w_gT; rfl; apply w_len; rfl; apply w_gT; rfl; apply w_add; rfl; rfl; omega; omega; apply w_gT; rfl; apply w_eql; rfl; rfl; apply w_pickTb; rfl; rfl; apply w_mvb; rfl; refine w_gdT rfl (by omega) ?_; apply w_gT; rfl; apply w_fld; rfl; apply w_gT; rfl; apply w_ld; rfl; exact hc_i 0 rfl rfl; apply w_gT; rfl)
          refine w_pure rfl (h4 hiv' (fun u x hx => sound2_ok h5 hx)) ?_
          (apply w_gT; rfl; apply w_not; rfl; apply w_pickTb; rfl; rfl; apply w_mvb; rfl; apply w_done0; apply w_ret)
          (apply finPb; rfl)
          rw [ei]
          simp [soundB, hok, h1', h2']
        · (apply w_sq; apply w_reg; apply w_lss; rfl; rfl; apply w_done0; apply w_sq; refine w_ifdF rfl (by omega) ?_; apply w_exit; apply w_sq; apply w_sq; apply w_reg; apply w_fld; rfl; apply w_ld; rfl; exact hc_i 0 rfl rfl; apply w_done0; apply w_ifF; rfl; apply w_skip; apply w_sq; apply w_reg; apply w_fld; rfl; apply w_ld; rfl; exact hc_i 0 rfl rfl; apply w_lenR; rfl; assumption; apply w_eql; rfl; rfl; apply w_mvb; rfl; refine w_gdT rfl (by omega) ?_; apply w_gT; rfl; apply w_fld; rfl; apply w_gT; rfl; apply w_ld; rfl; exact hc_i 0 rfl rfl; apply w_gT; rfl; apply w_lenR; rfl; assumption; apply w_gT; rfl; apply w_fld; rfl; apply w_gT; rfl; apply w_ld; rfl; exact hc_i 0 rfl rfl; apply w_gT; rfl; apply w_len; rfl; apply w_gT; rfl; apply w_add; rfl; rfl; omega; omega; apply w_gT; rfl; apply w_eql; rfl; rfl; apply w_pickTb; rfl; rfl; apply w_mvb; rfl; refine w_gdF rfl (by omega) ?_; apply w_gF; rfl; apply w_gF; rfl; apply w_gF; rfl; apply w_gF; rfl; apply w_pickFb; rfl; rfl; apply w_mvb; rfl; apply w_done0; apply w_ret)
          (apply finPb; rfl)
          (first | (simp [soundB, hok, h1', h2']; done) | (simp [soundB, hok, h1', h2']; omega))
      · (apply w_sq; apply w_reg; apply w_lss; rfl; rfl; apply w_done0; apply w_sq; refine w_ifdF rfl (by omega) ?_; apply w_exit; apply w_sq; apply w_sq; apply w_reg; apply w_fld; rfl; apply w_ld; rfl; exact hc_i 0 rfl rfl; apply w_done0; apply w_ifF; rfl; apply w_skip; apply w_sq; apply w_reg; apply w_fld; rfl; apply w_ld; rfl; exact hc_i 0 rfl rfl; apply w_lenR; rfl; assumption; apply w_eql; rfl; rfl; apply w_mvb; rfl; refine w_gdF rfl (by omega) ?_; apply w_gF; rfl; apply w_gF; rfl; apply w_gF; rfl; apply w_gF; rfl; apply w_gF; rfl; apply w_gF; rfl; apply w_gF; rfl; apply w_gF; rfl; apply w_pickFb; rfl; rfl; apply w_mvb; rfl; apply w_gF; rfl; apply w_gF; rfl; apply w_gF; rfl; apply w_gF; rfl; apply w_pickFb; rfl; rfl; apply w_mvb; rfl; apply w_done0; apply w_ret)
        (apply finPb; rfl)
        (first | (simp [soundB, hok, h1']; done) | (simp [soundB, hok, h1']; omega))
    · by_cases h2' : vs.length = ks.length
      · by_cases h1' : is.length = 0
        · (apply w_sq; apply w_reg; apply w_lss; rfl; rfl; apply w_done0; apply w_sq; refine w_ifdF rfl (by omega) ?_; apply w_exit; apply w_sq; apply w_sq; apply w_reg; apply w_fld; rfl; apply w_ld; rfl; exact hc_i 0 rfl rfl; apply w_done0; apply w_ifT; rfl; apply w_sq; apply w_reg; apply w_fld; rfl; apply w_ld; rfl; exact hc_i 0 rfl rfl; apply w_lenR; rfl; assumption; apply w_fld; rfl; apply w_ld; rfl; exact hc_i 0 rfl rfl; apply w_len; rfl; apply w_eql; rfl; rfl; apply w_mvb; rfl; refine w_gdT rfl (by omega) ?_; apply w_gT; rfl; apply w_fld; rfl; apply w_gT; rfl; apply w_ld; rfl; exact hc_i 0 rfl rfl; apply w_gT; rfl; apply w_lenR; rfl; assumption; apply w_gT; rfl; apply w_eql; rfl; rfl; apply w_pickTb; rfl; rfl; apply w_mvb; rfl; refine w_gdT rfl (by omega) ?_; apply w_gT; rfl; apply w_fld; rfl; apply w_gT; rfl; apply w_ld; rfl; exact hc_i 0 rfl rfl; apply w_gT; rfl)
          refine w_pure rfl (h2 hv' (fun u x hx => sound1_ok h3 hx)) ?_
          (apply w_gT; rfl; apply w_not; rfl; apply w_pickTb; rfl; rfl; apply w_mvb; rfl; apply w_done0; apply w_ret)
          (apply finPb; rfl)
          rw [ea]
          simp [soundB, hok, h1', h2']
        · (apply w_sq; apply w_reg; apply w_lss; rfl; rfl; apply w_done0; apply w_sq; refine w_ifdF rfl (by omega) ?_; apply w_exit; apply w_sq; apply w_sq; apply w_reg; apply w_fld; rfl; apply w_ld; rfl; exact hc_i 0 rfl rfl; apply w_done0; apply w_ifT; rfl; apply w_sq; apply w_reg; apply w_fld; rfl; apply w_ld; rfl; exact hc_i 0 rfl rfl; apply w_lenR; rfl; assumption; apply w_fld; rfl; apply w_ld; rfl; exact hc_i 0 rfl rfl; apply w_len; rfl; apply w_eql; rfl; rfl; apply w_mvb; rfl; refine w_gdT rfl (by omega) ?_; apply w_gT; rfl; apply w_fld; rfl; apply w_gT; rfl; apply w_ld; rfl; exact hc_i 0 rfl rfl; apply w_gT; rfl; apply w_lenR; rfl; assumption; apply w_gT; rfl; apply w_eql; rfl; rfl; apply w_pickTb; rfl; rfl; apply w_mvb; rfl; refine w_gdF rfl (by omega) ?_; apply w_gF; rfl; apply w_gF; rfl; apply w_gF; rfl; apply w_gF; rfl; apply w_pickFb; rfl; rfl; apply w_mvb; rfl; apply w_done0; apply w_ret)
          (apply finPb; rfl)
          (first | (simp [soundB, hok, h1', h2']; done) | (simp [soundB, hok, h1', h2']; omega))
      · (apply w_sq; apply w_reg; apply w_lss; rfl; rfl; apply w_done0; apply w_sq; refine w_ifdF rfl (by omega) ?_; apply w_exit; apply w_sq; apply w_sq; apply w_reg; apply w_fld; rfl; apply w_ld; rfl; exact hc_i 0 rfl rfl; apply w_done0; apply w_ifT; rfl; apply w_sq; apply w_reg; apply w_fld; rfl; apply w_ld; rfl; exact hc_i 0 rfl rfl; apply w_lenR; rfl; assumption; apply w_fld; rfl; apply w_ld; rfl; exact hc_i 0 rfl rfl; apply w_len; rfl; apply w_eql; rfl; rfl; apply w_mvb; rfl; refine w_gdF rfl (by omega) ?_; apply w_gF; rfl; apply w_gF; rfl; apply w_gF; rfl; apply w_gF; rfl; apply w_pickFb; rfl; rfl; apply w_mvb; rfl; apply w_gF; rfl; apply w_gF; rfl; apply w_gF; rfl; apply w_gF; rfl; apply w_pickFb; rfl; rfl; apply w_mvb; rfl; apply w_done0; apply w_ret)
        (apply finPb; rfl)
        (first | (simp [soundB, hok, h2']; done) | (simp [soundB, hok, h2']; omega))
end Go.Gk.Node
