/-
  Nodes: clones, lists of lists of their own memory.
-/
import Derived.Test.YtjbpdhljjhpeeaaGkNodeB
import Derived.Test.YtjbpdhljjhpeeaaGk14
namespace Go.Gk.Node
open Go Go.Gk
attribute [local irreducible] gwp gws

def CloneOk {α : Type} (R : PHeap → List Value → α → Prop) (by_ : Nat) (P : Program) (f : FuncId) : Prop := ∀ {d : PHeap} {v : Value} {xs : List α}, RSl 1 R d v xs → xs.length * by_ ≤ 140737488355328 →
  GCall P f [v] d [] (Ret fun r d' L' => d' = d ∧ ∃ h, L' = [h] ∧ GRow 1 R d r xs h)
def g_slices_Clone_byte_byte : GFun :=
 ⟨8, [(.tmp 2)],
 (.seq
 (.reg false (.op false ⟨(some 2), none, (.mv (.const (.slice none 0 0)))⟩ .done))
 (.seq (.seq
 (.reg false (.op false ⟨(some 3), none, (.mv (.tmp 0))⟩
  (.op false ⟨(some 4), none, (.eqs false (.tmp 3) (.const (.slice none 0 0)))⟩ .done))) (.cond (.tmp 4)
 (.seq
 (.reg false (.op false ⟨(some 2), none, (.mv (.const (.slice none 0 0)))⟩ .done)) .ret) .skip))
 (.seq
 (.reg false (.op false ⟨(some 5), none, (.bsl 0 1 [(.int .u8 0)] [])⟩
  (.op false ⟨(some 6), none, (.mv (.tmp 0))⟩
  (.op false ⟨(some 7), none, (.app 1 1 [(.int .u8 0)] (.tmp 5) (.tmp 6))⟩
  (.op false ⟨(some 2), none, (.mv (.tmp 7))⟩ .done))))) .ret)))⟩

theorem clone_byte_byte {P : Program} {f : FuncId} (hd : dec P f = some g_slices_Clone_byte_byte) : CloneOk RByte 1 P f := by
  intro d v xs hv hb
  have hv' := hv
  have hxl := RSl.len_le hv
  obtain ⟨a, c, b, o, rfl, h2, h3, h4, h5, _⟩ := hv
  refine GCall_of hd (Nat.le_of_ble_eq_true rfl) ?_
  show gwp P _ _ _ _ _
  cases a with
  | none =>
    have : xs = [] := List.eq_nil_of_length_eq_zero (by have := h4 rfl; omega)
    subst this
    apply w_sq; apply w_reg
    refine w_vs d [emp] Vs.emp ?_
    (apply w_mvs; rfl; apply w_done0; apply w_sq; apply w_sq; apply w_reg; apply w_mvs; rfl; apply w_eqsN; rfl; rfl; apply w_done0; apply w_ifT; rfl; apply w_sq; apply w_reg; apply w_mvs; rfl; apply w_done0; apply w_ret)
    exact fin1 (L' := [emp]) rfl (List.Sublist.refl _) ⟨rfl, emp, rfl, GRow.nil⟩
  | some a =>
    (apply w_sq; apply w_reg; apply w_mvs; rfl; apply w_done0; apply w_sq; apply w_sq; apply w_reg; apply w_mvs; rfl; apply w_eqsS; rfl; rfl; apply w_done0; apply w_ifF; rfl; apply w_skip; apply w_sq; apply w_reg)
    refine w_bsl (cs := []) (by omega) rfl (fun b8 T8 => ?_)
    (apply w_mvs; rfl)
    refine w_appG 0 rfl rfl (GRow.lit0 (R := RByte) (sz := 1)) rfl (RSl.src (R := RByte) (xs := xs) hv' cell1_byte (by omega) _) (by omega) (by simp; omega) (by simp; omega) (fun v5 h5 hrow5 => ?_)
    (apply w_mv; apply w_done0; apply w_ret)
    exact fin1 (L' := [h5]) rfl (List.Sublist.refl _) ⟨rfl, h5, rfl, hrow5⟩
def g_slices_Clone_int_int : GFun :=
 ⟨8, [(.tmp 2)],
 (.seq
 (.reg false (.op false ⟨(some 2), none, (.mv (.const (.slice none 0 0)))⟩ .done))
 (.seq (.seq
 (.reg false (.op false ⟨(some 3), none, (.mv (.tmp 0))⟩
  (.op false ⟨(some 4), none, (.eqs false (.tmp 3) (.const (.slice none 0 0)))⟩ .done))) (.cond (.tmp 4)
 (.seq
 (.reg false (.op false ⟨(some 2), none, (.mv (.const (.slice none 0 0)))⟩ .done)) .ret) .skip))
 (.seq
 (.reg false (.op false ⟨(some 5), none, (.bsl 0 1 [(.int .i64 0)] [])⟩
  (.op false ⟨(some 6), none, (.mv (.tmp 0))⟩
  (.op false ⟨(some 7), none, (.app 1 8 [(.int .i64 0)] (.tmp 5) (.tmp 6))⟩
  (.op false ⟨(some 2), none, (.mv (.tmp 7))⟩ .done))))) .ret)))⟩

theorem clone_int_int {P : Program} {f : FuncId} (hd : dec P f = some g_slices_Clone_int_int) : CloneOk RInt 8 P f := by
  intro d v xs hv hb
  have hv' := hv
  have hxl := RSl.len_le hv
  obtain ⟨a, c, b, o, rfl, h2, h3, h4, h5, _⟩ := hv
  refine GCall_of hd (Nat.le_of_ble_eq_true rfl) ?_
  show gwp P _ _ _ _ _
  cases a with
  | none =>
    have : xs = [] := List.eq_nil_of_length_eq_zero (by have := h4 rfl; omega)
    subst this
    apply w_sq; apply w_reg
    refine w_vs d [emp] Vs.emp ?_
    (apply w_mvs; rfl; apply w_done0; apply w_sq; apply w_sq; apply w_reg; apply w_mvs; rfl; apply w_eqsN; rfl; rfl; apply w_done0; apply w_ifT; rfl; apply w_sq; apply w_reg; apply w_mvs; rfl; apply w_done0; apply w_ret)
    exact fin1 (L' := [emp]) rfl (List.Sublist.refl _) ⟨rfl, emp, rfl, GRow.nil⟩
  | some a =>
    (apply w_sq; apply w_reg; apply w_mvs; rfl; apply w_done0; apply w_sq; apply w_sq; apply w_reg; apply w_mvs; rfl; apply w_eqsS; rfl; rfl; apply w_done0; apply w_ifF; rfl; apply w_skip; apply w_sq; apply w_reg)
    refine w_bsl (cs := []) (by omega) rfl (fun b8 T8 => ?_)
    (apply w_mvs; rfl)
    refine w_appG 0 rfl rfl (GRow.lit0 (R := RInt) (sz := 1)) rfl (RSl.src (R := RInt) (xs := xs) hv' cell1_int (by omega) _) (by omega) (by simp; omega) (by simp; omega) (fun v5 h5 hrow5 => ?_)
    (apply w_mv; apply w_done0; apply w_ret)
    exact fin1 (L' := [h5]) rfl (List.Sublist.refl _) ⟨rfl, h5, rfl, hrow5⟩

/-- A list of lists of bytes, all of their own memory. -/
def OBss (d : PHeap) (v : Value) (xs : List (List UInt8)) (L : List PHeap) : Prop := ∃ us h0 hs, ORow 1 v xs.length us h0 ∧ hs.length = xs.length ∧
  (∀ i (hi : i < xs.length), ∃ u g, us[i]? = some u ∧ hs[i]? = some g ∧ GRow 1 RByte d u xs[i] g) ∧ L = h0 :: hs
theorem OBss.rbss {d d1 : PHeap} {v : Value} {xs : List (List UInt8)} {L : List PHeap} (o : OBss d v xs L) (hl : Le d d1) (hL : ∀ h ∈ L, Le h d1) : RBss d1 v xs := by
  obtain ⟨us, h0, hs, h1, h2, h3, rfl⟩ := o
  refine h1.rsl1 (hL _ (List.mem_cons_self ..)) rfl (fun i hi => ?_)
  obtain ⟨u, g, k1, k2, k3⟩ := h3 i hi
  exact ⟨u, k1, u, rfl, k3.rsl mono_byte (by omega) hl (hL _ (List.mem_cons_of_mem _ (List.mem_of_getElem? k2)))⟩
theorem OBss.val {d : PHeap} {v : Value} {xs : List (List UInt8)} {L : List PHeap} (o : OBss d v xs L) : ∃ a c, v = .slice a xs.length c := by
  obtain ⟨us, h0, hs, h1, _⟩ := o
  obtain ⟨a, b, c, e, _⟩ := h1.slice
  exact ⟨a, c, e⟩

def OwnOk (P : Program) (f : FuncId) : Prop := ∀ {d : PHeap} {v : Value} {xs : List (List UInt8)}, RBss d v xs → xs.length ≤ 1000000000 →
  GCall P f [v] d [] (Ret fun r d' L' => d' = d ∧ OBss d r xs L')
def g_node_own (f_slices_Clone_byte_byte : Nat) : GFun :=
 ⟨19, [(.tmp 2)],
 (.seq
 (.reg false (.op false ⟨(some 2), none, (.mv (.const (.slice none 0 0)))⟩ .done))
 (.seq
 (.reg false (.op false ⟨(some 3), none, (.mv (.const (.slice none 0 0)))⟩ .done))
 (.seq (.seq
 (.reg false (.op false ⟨(some 6), none, (.mv (.tmp 0))⟩
  (.op false ⟨(some 7), none, (.len (.tmp 6))⟩
  (.op false ⟨(some 8), none, (.mv (.const (.int .i64 0)))⟩ .done)))) (.block 0 (.loop
 (.seq
 (.reg false (.op false ⟨(some 9), none, (.bin .lss (.tmp 8) (.tmp 7))⟩ .done))
 (.seq (.cond (.tmp 9) .skip (.exit 0))
 (.seq (.block 1
 (.seq
 (.reg false (.op false ⟨(some 10), none, (.idx 1 (.tmp 6) (.tmp 8))⟩
  (.op false ⟨(some 11), none, (.ld none (.tmp 10))⟩
  (.op false ⟨(some 5), none, (.mv (.tmp 11))⟩ .done))))
 (.reg false (.op false ⟨(some 12), none, (.mv (.tmp 3))⟩
  (.op false ⟨(some 13), none, (.mv (.tmp 5))⟩
  (.op false ⟨(some 14), none, (.call f_slices_Clone_byte_byte [(.tmp 13)])⟩
  (.op false ⟨(some 15), none, (.bsl 1 1 [(.slice none 0 0)] [(0, (.tmp 14))])⟩
  (.op false ⟨(some 16), none, (.app 1 24 [(.slice none 0 0)] (.tmp 12) (.tmp 15))⟩
  (.op false ⟨(some 3), none, (.mv (.tmp 16))⟩ .done)))))))))
 (.reg false (.op false ⟨(some 17), none, (.bin .add (.tmp 8) (.const (.int .i64 1)))⟩
  (.op false ⟨(some 8), none, (.mv (.tmp 17))⟩ .done)))))))))
 (.seq
 (.reg false (.op false ⟨(some 18), none, (.mv (.tmp 3))⟩
  (.op false ⟨(some 2), none, (.mv (.tmp 18))⟩ .done))) .ret))))⟩

theorem own_ok {P : Program} {f f1 : FuncId} (hd : dec P f = some (g_node_own f1)) (h1 : CloneOk RByte 1 P f1) : OwnOk P f := by
  intro d v xs hv hb
  refine GCall_of hd (Nat.le_of_ble_eq_true rfl) ?_
  show gwp P _ _ _ _ _
  apply w_sq; apply w_reg
  refine w_vs d [emp] Vs.emp ?_
  (apply w_mvs; rfl; apply w_done0; apply w_sq; apply w_reg; apply w_mvs; rfl; apply w_done0; apply w_sq; apply w_sq; apply w_reg; apply w_mv; apply w_lenR; rfl; assumption; apply w_mvi; rfl; apply w_done0; apply w_block)
  refine w_loopV (α := Nat) (fun k w => [(3, w), (6, v), (7, .int .i64 xs.length), (8, .int .i64 k)])
    (fun k w h0 d' L' => d' = d ∧ k ≤ xs.length ∧ ∃ us hs, ORow 1 w k us h0 ∧ hs.length = k ∧ (∀ i (hi : i < xs.length), i < k → ∃ u g, us[i]? = some u ∧ hs[i]? = some g ∧ GRow 1 RByte d u xs[i] g) ∧ L' = h0 :: hs) (fun k => xs.length - k) 0 (.slice none 0 0) emp
    ⟨rfl, rfl, rfl, rfl, trivial⟩ ⟨rfl, Nat.zero_le _, [], [], ORow.nil 1, rfl, fun i _ hi => absurd hi (Nat.not_lt_zero i), rfl⟩ ?_
  rintro k w h0 ρ d' L' ⟨hdd, hk, us, hs, ho, hhl, hel, hL⟩
  subst hdd; subst hL
  (apply w_sq; apply w_reg; apply w_lss; rfl; rfl; apply w_done0; apply w_sq)
  first | refine w_ifd rfl (fun hc => ?_) (fun hc => ?_) | refine w_if rfl (fun hc => ?_) (fun hc => ?_)
  · have hk1 : k < xs.length := by omega
    have hxl : xs[k].length * 1 ≤ 140737488355328 := by
      obtain ⟨a, c, b, o, e, _, _, _, _, _, _, h8⟩ := hv
      obtain ⟨cs, _, _, u, _, hu⟩ := h8 k hk1
      have := RBytes.len_le hu; omega
    (apply w_skip; apply w_sq; apply w_block; apply w_sq; apply w_reg; refine w_idxR (sz := 1) (R := RBs) (by rfl) (by assumption) (by rfl) rfl (by omega) ?_; rintro _ _ _ _ _ ⟨_, rfl, _⟩; apply w_ld; rfl; exact hc_ds0 (by assumption) rfl; apply w_mv; apply w_done0; apply w_reg; apply w_mv; apply w_mv)
    refine w_call0 rfl (h1 (xs := xs[k]) (by assumption) hxl) (fun r d2 L2 _ ⟨hdd, g, hL, hg⟩ => ?_)
    subst hdd; subst hL
    obtain ⟨a, c, rfl⟩ := hg.val
    refine w_bsl (cs := [.slice a xs[k].length c]) (by omega) rfl (fun b8 T8 => ?_)
    refine w_appLO 1 rfl rfl ho rfl rfl rfl (by omega) (by omega) (by omega) (fun v5 h5 ho5 => ?_)
    refine w_vs _ (h5 :: (hs ++ [g])) (Vs.perm ((List.Perm.swap _ _ _).trans ((List.perm_append_singleton g hs).symm.cons _))) ?_
    (apply w_mv; apply w_done0; apply w_reg; apply w_add; rfl; rfl; omega; omega; apply w_mvi; rfl; apply w_done0)
    refine ⟨k + 1, v5, h5, by omega, ⟨rfl, rfl, rfl, int_eq (by omega), trivial⟩, rfl, hk1, _, _, ho5, by simp [hhl], fun i hi hik => ?_, rfl⟩
    have hul : us.length = k := by have := ho.1; omega
    by_cases e : i < k
    · obtain ⟨u, g', e1, e2, e3⟩ := hel i hi e
      exact ⟨u, g', by rw [List.getElem?_append_left (by omega)]; exact e1, by rw [List.getElem?_append_left (by omega)]; exact e2, e3⟩
    · obtain rfl : i = k := by omega
      exact ⟨_, g, by rw [List.getElem?_append_right (by omega), hul, Nat.sub_self]; rfl, by rw [List.getElem?_append_right (by omega), hhl, Nat.sub_self]; rfl, hg⟩
  · obtain rfl : k = xs.length := by omega
    (apply w_exit; apply w_sq; apply w_reg; apply w_mv; apply w_mv; apply w_done0; apply w_ret)
    exact fin1 rfl (List.Sublist.refl _) ⟨rfl, us, h0, hs, ho, hhl, fun i hi => hel i hi hi, rfl⟩
end Go.Gk.Node
