/-
  Nodes: two are put together; the halves of one.
-/
import Derived.Test.YtjbpdhljjhpeeaaGkNodeM
namespace Go.Gk.Node
open Go Go.Gk
attribute [local irreducible] gwp gws

def JoinedOk {α : Type} (R : PHeap → List Value → α → Prop) (P : Program) (f : FuncId) : Prop := ∀ {d : PHeap} {v w : Value} {xs ys : List α}, RSl 1 R d v xs → RSl 1 R d w ys → xs.length ≤ 1000000001 → ys.length ≤ 1000000001 →
  GCall P f [v, w] d [] (Ret fun r d' L' => d' = d ∧ ∃ h, L' = [h] ∧ GRow 1 R d r (xs ++ ys) h)
def g_node_joined_byte : GFun :=
 ⟨15, [(.tmp 4)],
 (.seq
 (.reg false (.op false ⟨(some 4), none, (.mv (.const (.slice none 0 0)))⟩ .done))
 (.seq
 (.reg false (.op false ⟨(some 5), none, (.mv (.tmp 0))⟩
  (.op false ⟨(some 6), none, (.len (.tmp 5))⟩
  (.op false ⟨(some 7), none, (.mv (.tmp 1))⟩
  (.op false ⟨(some 8), none, (.len (.tmp 7))⟩
  (.op false ⟨(some 9), none, (.bin .add (.tmp 6) (.tmp 8))⟩
  (.op false ⟨(some 10), none, (.mks 1 24 [(.slice none 0 0)] (.const (.int .i64 0)) (.tmp 9))⟩
  (.op false ⟨(some 11), none, (.mv (.tmp 0))⟩
  (.op false ⟨(some 12), none, (.app 1 24 [(.slice none 0 0)] (.tmp 10) (.tmp 11))⟩
  (.op false ⟨(some 13), none, (.mv (.tmp 1))⟩
  (.op false ⟨(some 14), none, (.app 1 24 [(.slice none 0 0)] (.tmp 12) (.tmp 13))⟩
  (.op false ⟨(some 4), none, (.mv (.tmp 14))⟩ .done)))))))))))) .ret))⟩

theorem joined_byte {P : Program} {f : FuncId} (hd : dec P f = some g_node_joined_byte) : JoinedOk RBs P f := by
  intro d v w xs ys hv hw hx hy
  obtain ⟨a, c, rfl⟩ := RSl.val hv
  obtain ⟨a2, c2, rfl⟩ := RSl.val hw
  refine GCall_of hd (Nat.le_of_ble_eq_true rfl) ?_
  show gwp P _ _ _ _ _
  (apply w_sq; apply w_reg; apply w_mvs; rfl; apply w_done0; apply w_sq; apply w_reg; apply w_mvs; rfl; apply w_len; rfl; apply w_mvs; rfl; apply w_len; rfl; apply w_add; rfl; rfl; omega; omega)
  refine w_mks (n := 0) (c := xs.length + ys.length) rfl (int_eq (by omega)) (by omega) (by omega) (by omega) (fun b8 T8 => ?_)
  (apply w_mvs; rfl)
  have o0 : GRow 1 RBs d (.slice (some ⟨b8, 0, none⟩) 0 (xs.length + ys.length)) [] (bx b8 T8 (zrow [.slice none 0 0] ((xs.length + ys.length) * 1))) :=
    ⟨[], ORow.mk rfl (by simp) (Nat.zero_le _) (by omega) (by simp [zrow]) rfl, fun i hi => absurd hi (Nat.not_lt_zero i)⟩
  refine w_appG (xs := []) (ys := xs) 0 rfl rfl o0 rfl (RSl.src (R := RBs) (xs := xs) hv cell1_bs (by omega) _) (by omega) (by simp; omega) (by simp; omega) (fun v5 h5 hrow5 => ?_)
  (apply w_mvs; rfl)
  refine w_appG (xs := [] ++ xs) (ys := ys) 0 rfl rfl hrow5 rfl (RSl.src (R := RBs) (xs := ys) hw cell1_bs (by omega) _) (by omega) (by simp; omega) (by simp; omega) (fun v6 h6 hrow6 => ?_)
  (apply w_mv; apply w_done0; apply w_ret)
  exact fin1 (L' := [h6]) rfl (List.Sublist.refl _) ⟨rfl, h6, rfl, hrow6⟩
def g_node_joined_int : GFun :=
 ⟨15, [(.tmp 4)],
 (.seq
 (.reg false (.op false ⟨(some 4), none, (.mv (.const (.slice none 0 0)))⟩ .done))
 (.seq
 (.reg false (.op false ⟨(some 5), none, (.mv (.tmp 0))⟩
  (.op false ⟨(some 6), none, (.len (.tmp 5))⟩
  (.op false ⟨(some 7), none, (.mv (.tmp 1))⟩
  (.op false ⟨(some 8), none, (.len (.tmp 7))⟩
  (.op false ⟨(some 9), none, (.bin .add (.tmp 6) (.tmp 8))⟩
  (.op false ⟨(some 10), none, (.mks 1 8 [(.int .i64 0)] (.const (.int .i64 0)) (.tmp 9))⟩
  (.op false ⟨(some 11), none, (.mv (.tmp 0))⟩
  (.op false ⟨(some 12), none, (.app 1 8 [(.int .i64 0)] (.tmp 10) (.tmp 11))⟩
  (.op false ⟨(some 13), none, (.mv (.tmp 1))⟩
  (.op false ⟨(some 14), none, (.app 1 8 [(.int .i64 0)] (.tmp 12) (.tmp 13))⟩
  (.op false ⟨(some 4), none, (.mv (.tmp 14))⟩ .done)))))))))))) .ret))⟩

theorem joined_int {P : Program} {f : FuncId} (hd : dec P f = some g_node_joined_int) : JoinedOk RInt P f := by
  intro d v w xs ys hv hw hx hy
  obtain ⟨a, c, rfl⟩ := RSl.val hv
  obtain ⟨a2, c2, rfl⟩ := RSl.val hw
  refine GCall_of hd (Nat.le_of_ble_eq_true rfl) ?_
  show gwp P _ _ _ _ _
  (apply w_sq; apply w_reg; apply w_mvs; rfl; apply w_done0; apply w_sq; apply w_reg; apply w_mvs; rfl; apply w_len; rfl; apply w_mvs; rfl; apply w_len; rfl; apply w_add; rfl; rfl; omega; omega)
  refine w_mks (n := 0) (c := xs.length + ys.length) rfl (int_eq (by omega)) (by omega) (by omega) (by omega) (fun b8 T8 => ?_)
  (apply w_mvs; rfl)
  have o0 : GRow 1 RInt d (.slice (some ⟨b8, 0, none⟩) 0 (xs.length + ys.length)) [] (bx b8 T8 (zrow [.int .i64 0] ((xs.length + ys.length) * 1))) :=
    ⟨[], ORow.mk rfl (by simp) (Nat.zero_le _) (by omega) (by simp [zrow]) rfl, fun i hi => absurd hi (Nat.not_lt_zero i)⟩
  refine w_appG (xs := []) (ys := xs) 0 rfl rfl o0 rfl (RSl.src (R := RInt) (xs := xs) hv cell1_int (by omega) _) (by omega) (by simp; omega) (by simp; omega) (fun v5 h5 hrow5 => ?_)
  (apply w_mvs; rfl)
  refine w_appG (xs := [] ++ xs) (ys := ys) 0 rfl rfl hrow5 rfl (RSl.src (R := RInt) (xs := ys) hw cell1_int (by omega) _) (by omega) (by simp; omega) (by simp; omega) (fun v6 h6 hrow6 => ?_)
  (apply w_mv; apply w_done0; apply w_ret)
  exact fin1 (L' := [h6]) rfl (List.Sublist.refl _) ⟨rfl, h6, rfl, hrow6⟩

def joinD (a b : NodeD) (key : List UInt8) : NodeD := if a.leaf then ⟨true, a.keys ++ b.keys, a.vals ++ b.vals, []⟩ else ⟨false, a.keys ++ [key] ++ b.keys, [], a.kids ++ b.kids⟩
def JoinOk (P : Program) (f : FuncId) : Prop := ∀ {d : PHeap} {ca cb : List Value} {kv : Value} {a b : NodeD} {key : List UInt8}, RNode d ca a → RNode d cb b → RBytes d kv key → a.keys.length + b.keys.length ≤ 100000000 → a.vals.length + b.vals.length ≤ 100000000 → a.kids.length + b.kids.length ≤ 100000000 →
  GCall P f [.agg ca.toArray, .agg cb.toArray, kv] d [] (Ret fun r d' L' => L' = [] ∧ ∃ cs, r = .agg cs.toArray ∧ RNode d' cs (joinD a b key))
def g_node_Join (f_node_joined_byte f_node_own f_node_joined_int : Nat) : GFun :=
 ⟨37, [(.cell 6 (some 4))],
 (.seq
 (.reg false (.op false ⟨(some 3), none, (.box (.tmp 0))⟩
  (.op false ⟨(some 4), none, (.box (.tmp 1))⟩
  (.op false ⟨(some 6), none, (.alo (.agg #[(.bool false), (.slice none 0 0), (.slice none 0 0), (.slice none 0 0)]))⟩ .done))))
 (.seq (.seq
 (.reg false (.op false ⟨(some 7), none, (.fld 0 (.tmp 3))⟩
  (.op false ⟨(some 8), none, (.ld none (.tmp 7))⟩ .done))) (.cond (.tmp 8)
 (.seq
 (.reg true (.op true ⟨(some 9), none, (.fld 1 (.tmp 3))⟩
  (.op true ⟨(some 10), none, (.ld none (.tmp 9))⟩
  (.op true ⟨(some 11), none, (.fld 1 (.tmp 4))⟩
  (.op true ⟨(some 12), none, (.ld none (.tmp 11))⟩
  (.op true ⟨(some 15), none, (.fld 2 (.tmp 3))⟩
  (.op true ⟨(some 16), none, (.ld none (.tmp 15))⟩
  (.op true ⟨(some 17), none, (.fld 2 (.tmp 4))⟩
  (.op true ⟨(some 18), none, (.ld none (.tmp 17))⟩
  (.op false ⟨(some 13), none, (.call f_node_joined_byte [(.tmp 10), (.tmp 12)])⟩
  (.op false ⟨(some 14), none, (.call f_node_own [(.tmp 13)])⟩
  (.op false ⟨(some 19), none, (.call f_node_joined_byte [(.tmp 16), (.tmp 18)])⟩
  (.op false ⟨(some 20), none, (.call f_node_own [(.tmp 19)])⟩
  (.op true ⟨(some 21), none, (.bld [(0, 1), (1, 1), (2, 1), (3, 1)] [(.bool false), (.slice none 0 0), (.slice none 0 0), (.slice none 0 0)] [(0, (.const (.bool true))), (1, (.tmp 14)), (2, (.tmp 20))])⟩
  (.bar (.op false ⟨none, none, (.st 4 (.tmp 6) (.tmp 21))⟩ .done)))))))))))))))) .ret) .skip))
 (.seq
 (.reg true (.op true ⟨(some 22), none, (.fld 1 (.tmp 3))⟩
  (.op true ⟨(some 23), none, (.ld none (.tmp 22))⟩
  (.op true ⟨(some 24), none, (.mv (.tmp 2))⟩
  (.op true ⟨(some 27), none, (.fld 1 (.tmp 4))⟩
  (.op true ⟨(some 28), none, (.ld none (.tmp 27))⟩
  (.op true ⟨(some 31), none, (.fld 3 (.tmp 3))⟩
  (.op true ⟨(some 32), none, (.ld none (.tmp 31))⟩
  (.op true ⟨(some 33), none, (.fld 3 (.tmp 4))⟩
  (.op true ⟨(some 34), none, (.ld none (.tmp 33))⟩
  (.op false ⟨(some 25), none, (.bsl 1 1 [(.slice none 0 0)] [(0, (.tmp 24))])⟩
  (.op false ⟨(some 26), none, (.call f_node_joined_byte [(.tmp 23), (.tmp 25)])⟩
  (.op false ⟨(some 29), none, (.call f_node_joined_byte [(.tmp 26), (.tmp 28)])⟩
  (.op false ⟨(some 30), none, (.call f_node_own [(.tmp 29)])⟩
  (.op false ⟨(some 35), none, (.call f_node_joined_int [(.tmp 32), (.tmp 34)])⟩
  (.op true ⟨(some 36), none, (.bld [(0, 1), (1, 1), (2, 1), (3, 1)] [(.bool false), (.slice none 0 0), (.slice none 0 0), (.slice none 0 0)] [(1, (.tmp 30)), (3, (.tmp 35))])⟩
  (.bar (.op false ⟨none, none, (.st 4 (.tmp 6) (.tmp 36))⟩ .done)))))))))))))))))) .ret)))⟩

theorem join_ok {P : Program} {f f1 f2 f3 : FuncId} (hd : dec P f = some (g_node_Join f1 f2 f3)) (h1 : JoinedOk RBs P f1) (h2 : OwnOk P f2) (h3 : JoinedOk RInt P f3) : JoinOk P f := by
  intro d ca cb kv a b key ha hb hk hb1 hb2 hb3
  obtain ⟨ak, av, ai, rfl, ak1, av1, ai1⟩ := ha
  obtain ⟨bk, bv, bi, rfl, bk1, bv1, bi1⟩ := hb
  refine GCall_of hd (Nat.le_of_ble_eq_true rfl) ?_
  obtain ⟨aka, akc, rfl⟩ := RSl.val ak1
  obtain ⟨ava, avc, rfl⟩ := RSl.val av1
  obtain ⟨aia, aic, rfl⟩ := RSl.val ai1
  obtain ⟨bka, bkc, rfl⟩ := RSl.val bk1
  obtain ⟨bva, bvc, rfl⟩ := RSl.val bv1
  obtain ⟨bia, bic, rfl⟩ := RSl.val bi1
  obtain ⟨ka, kc, rfl⟩ := RSl.val hk
  show gwp P _ _ _ _ _
  apply w_sq; apply w_reg
  refine w_boxa (l := [.bool a.leaf, .slice aka a.keys.length akc, .slice ava a.vals.length avc, .slice aia a.kids.length aic]) rfl (fun b3 T3 => ?_)
  refine w_boxa (l := [.bool b.leaf, .slice bka b.keys.length bkc, .slice bva b.vals.length bvc, .slice bia b.kids.length bic]) rfl (fun b4 T4 => ?_)
  (apply w_alo; intro _ _; apply w_done0; apply w_sq; apply w_sq; apply w_reg; apply w_fld; rfl; apply w_ld; rfl; exact hc_i 2 rfl rfl; apply w_done0)
  rename_i b6 T6
  cases hlf : a.leaf with
  | true =>
    (apply w_ifT; rfl; apply w_sq; apply w_drawn; apply w_fld; rfl; apply w_ld; rfl; exact hc_i 2 rfl rfl; apply w_fld; rfl; apply w_ld; rfl; exact hc_i 1 rfl rfl; apply w_fld; rfl; apply w_ld; rfl; exact hc_i 2 rfl rfl; apply w_fld; rfl; apply w_ld; rfl; exact hc_i 1 rfl rfl)
    refine w_call0 rfl (h1 ak1 bk1 (by omega) (by omega)) (fun r d1 L1 _ ⟨hdd, g, hL, og⟩ => ?_)
    subst hdd; subst hL
    refine w_frz (fun d2 hl2 hg2 => ?_)
    have r1 := og.rsl mono_bs (by omega) hl2 hg2
    refine w_call0 rfl (h2 r1 (by simp; omega)) (fun r d3 L3 _ ⟨hdd, o3⟩ => ?_)
    subst hdd
    refine w_frzAll (fun d4 hl4 hg4 => ?_)
    have r3 := o3.rbss hl4 (fun h hm => hg4 h (List.mem_append_left _ hm))
    refine w_call0 rfl (h1 (RBss.mono av1 (hl2.trans hl4)) (RBss.mono bv1 (hl2.trans hl4)) (by omega) (by omega)) (fun r d5 L5 _ ⟨hdd, g5, hL, og5⟩ => ?_)
    subst hdd; subst hL
    refine w_frz (fun d6 hl6 hg6 => ?_)
    have r5 := og5.rsl mono_bs (by omega) hl6 hg6
    refine w_call0 rfl (h2 r5 (by simp; omega)) (fun r d7 L7 _ ⟨hdd, o7⟩ => ?_)
    subst hdd
    obtain ⟨o3a, o3c, rfl⟩ := o3.val
    obtain ⟨o7a, o7c, rfl⟩ := o7.val
    refine w_bld (cs := [.bool true, .slice o3a (a.keys ++ b.keys).length o3c, .slice o7a (a.vals ++ b.vals).length o7c, .slice none 0 0]) rfl ?_
    (apply w_bar)
    refine w_stE 0 [.bool true, .slice o3a (a.keys ++ b.keys).length o3c, .slice o7a (a.vals ++ b.vals).length o7c, .slice none 0 0] rfl rfl rfl rfl (by simp [Value.cells]) rfl rfl ?_
    (apply w_done0; apply w_ret)
    refine finF [.agg [.bool true, .slice o3a (a.keys ++ b.keys).length o3c, .slice o7a (a.vals ++ b.vals).length o7c, .slice none 0 0].toArray] ⟨res_cell 0 rfl rfl rfl, trivial⟩ (fun d8 hl8 hg8 => ⟨rfl, _, rfl, ?_⟩)
    refine ⟨.slice o3a (a.keys ++ b.keys).length o3c, .slice o7a (a.vals ++ b.vals).length o7c, .slice none 0 0, by simp [joinD, hlf], ?_, ?_, ?_⟩
    · simp only [joinD, hlf, if_true]; exact RBss.mono r3 (hl6.trans hl8)
    · simp only [joinD, hlf, if_true]; exact o7.rbss hl8 (fun h hm => hg8 h (by simp [hm]))
    · simp only [joinD, hlf, if_true]; exact RSl.nil
  | false =>
    (apply w_ifF; rfl; apply w_skip; apply w_sq)
    refine w_drawn ?_
    (apply w_fld; rfl; apply w_ld; rfl; exact hc_i 2 rfl rfl; apply w_mvs; rfl; apply w_fld; rfl; apply w_ld; rfl; exact hc_i 1 rfl rfl; apply w_fld; rfl; apply w_ld; rfl; exact hc_i 2 rfl rfl; apply w_fld; rfl; apply w_ld; rfl; exact hc_i 1 rfl rfl)
    refine w_bsl (cs := [.slice ka key.length kc]) (by omega) rfl (fun b8 T8 => ?_)
    refine w_frz (fun d0 hl0 hg0 => ?_)
    have r0 := lit_one hg0 (hk.mono hl0)
    refine w_call0 rfl (h1 (RBss.mono ak1 hl0) r0 (by omega) (by simp)) (fun r d1 L1 _ ⟨hdd, g, hL, og⟩ => ?_)
    subst hdd; subst hL
    refine w_frz (fun d2 hl2 hg2 => ?_)
    have r1 := og.rsl mono_bs (by omega) hl2 hg2
    refine w_call0 rfl (h1 r1 (RBss.mono bk1 (hl0.trans hl2)) (by simp; omega) (by omega)) (fun r d3 L3 _ ⟨hdd, g3, hL, og3⟩ => ?_)
    subst hdd; subst hL
    refine w_frz (fun d4 hl4 hg4 => ?_)
    have r3 := og3.rsl mono_bs (by omega) hl4 hg4
    refine w_call0 rfl (h2 r3 (by simp; omega)) (fun r d5 L5 _ ⟨hdd, o5⟩ => ?_)
    subst hdd
    refine w_frzAll (fun d6 hl6 hg6 => ?_)
    have r5 := o5.rbss hl6 (fun h hm => hg6 h (List.mem_append_left _ hm))
    refine w_call0 rfl (h3 (RInts.mono ai1 (hl0.trans (hl2.trans (hl4.trans hl6)))) (RInts.mono bi1 (hl0.trans (hl2.trans (hl4.trans hl6)))) (by omega) (by omega)) (fun r d7 L7 _ ⟨hdd, g7, hL, og7⟩ => ?_)
    subst hdd; subst hL
    obtain ⟨o5a, o5c, rfl⟩ := o5.val
    obtain ⟨o7a, o7c, rfl⟩ := og7.val
    refine w_bld (cs := [.bool false, .slice o5a (a.keys ++ [key] ++ b.keys).length o5c, .slice none 0 0, .slice o7a (a.kids ++ b.kids).length o7c]) rfl ?_
    (apply w_bar)
    refine w_stE 0 [.bool false, .slice o5a (a.keys ++ [key] ++ b.keys).length o5c, .slice none 0 0, .slice o7a (a.kids ++ b.kids).length o7c] rfl rfl rfl rfl (by simp [Value.cells]) rfl rfl ?_
    (apply w_done0; apply w_ret)
    refine finF [.agg [.bool false, .slice o5a (a.keys ++ [key] ++ b.keys).length o5c, .slice none 0 0, .slice o7a (a.kids ++ b.kids).length o7c].toArray] ⟨res_cell 0 rfl rfl rfl, trivial⟩ (fun d8 hl8 hg8 => ⟨rfl, _, rfl, ?_⟩)
    refine ⟨.slice o5a (a.keys ++ [key] ++ b.keys).length o5c, .slice none 0 0, .slice o7a (a.kids ++ b.kids).length o7c, by simp [joinD, hlf], ?_, ?_, ?_⟩
    · simp only [joinD, hlf, Bool.false_eq_true, if_false]; exact RBss.mono r5 hl8
    · simp only [joinD, hlf, Bool.false_eq_true, if_false]; exact RSl.nil
    · simp only [joinD, hlf, Bool.false_eq_true, if_false]; exact og7.rsl mono_int (by omega) hl8 (hg8 _ (by simp))

/-! ### the halves -/
theorem keysOk_iff {ks : List (List UInt8)} : ∀ {m : Nat}, keysOk ks m = true ↔ ∀ k, k < m → kOk ks k = true
  | 0 => ⟨fun _ k h => by omega, fun _ => rfl⟩
  | m + 1 => by
    simp only [keysOk, Bool.and_eq_true]
    rw [keysOk_iff (m := m)]
    constructor
    · intro ⟨h1, h2⟩ k hk
      by_cases e : k = m
      · subst e; exact h2
      · exact h1 k (by omega)
    · exact fun h => ⟨fun k hk => h k (by omega), h m (by omega)⟩
theorem keysOk_take {ks : List (List UInt8)} (h : keysOk ks ks.length = true) (a : Nat) : keysOk (ks.take a) (ks.take a).length = true := by
  rw [keysOk_iff] at h ⊢
  intro k hk
  simp only [List.length_take] at hk
  have := h k (by omega)
  have e : ∀ j, j ≤ k → (ks.take a).getD j [] = ks.getD j [] := fun j hj => by
    simp [List.getD, List.getElem?_take_of_lt (show j < a by omega)]
  simpa only [kOk, e k (Nat.le_refl _), e (k - 1) (by omega)] using this
theorem keysOk_drop {ks : List (List UInt8)} (h : keysOk ks ks.length = true) (a : Nat) : keysOk (ks.drop a) (ks.drop a).length = true := by
  rw [keysOk_iff] at h ⊢
  intro k hk
  simp only [List.length_drop] at hk
  have := h (a + k) (by omega)
  have e : ∀ j, (ks.drop a).getD j [] = ks.getD (a + j) [] := fun j => by simp [List.getD, List.getElem?_drop]
  simp only [kOk, e, Bool.and_eq_true, Bool.or_eq_true, beq_iff_eq] at this ⊢
  refine ⟨this.1, ?_⟩
  by_cases h0 : k = 0
  · exact .inl h0
  · refine .inr ?_
    rcases this.2 with h1 | h1
    · omega
    · rwa [show a + (k - 1) = a + k - 1 by omega]
theorem csum_take (n n' : NodeD) (hl : n'.leaf = n.leaf) {a : Nat} (hk : ∀ j, j < a → klen n' j = klen n j) (hv : n.leaf = true → ∀ j, j < a → vlen n' j = vlen n j) : ∀ k, k ≤ a → csum n' k = csum n k
  | 0, _ => rfl
  | k + 1, h => by
    simp only [csum, csum_take n n' hl hk hv k (by omega), cellD, hl, hk k (by omega)]
    cases e : n.leaf
    · simp
    · simp [hv e k (by omega)]
theorem csum_drop (n n' : NodeD) (hl : n'.leaf = n.leaf) {a : Nat} (hk : ∀ j, klen n' j = klen n (a + j)) (hv : n.leaf = true → ∀ j, vlen n' j = vlen n (a + j)) : ∀ k, csum n' k + csum n a = csum n (a + k)
  | 0 => by simp [csum]
  | k + 1 => by
    have := csum_drop n n' hl hk hv k
    show csum n' k + cellD n' k + csum n a = csum n (a + k) + cellD n (a + k)
    simp only [cellD, hl, hk k]
    cases e : n.leaf
    · simp only [e, Bool.false_eq_true, if_false]; omega
    · simp only [e, if_true, hv e k]; omega
theorem atGo_spec (n : NodeD) : ∀ f a, a ≤ n.keys.length - 1 → n.keys.length ≤ a + f → (∀ j, j < a → 2 * psum n j < psum n n.keys.length) →
    atGo n f a ≤ n.keys.length - 1 ∧ (∀ j, j < atGo n f a → 2 * psum n j < psum n n.keys.length) ∧ (atGo n f a = n.keys.length - 1 ∨ psum n n.keys.length ≤ 2 * psum n (atGo n f a))
  | 0, a, h1, h2, h3 => ⟨h1, h3, .inl (by simp only [atGo]; omega)⟩
  | f + 1, a, h1, h2, h3 => by
    simp only [atGo]
    split
    · rename_i h
      refine atGo_spec n f (a + 1) (by omega) (by omega) (fun j hj => ?_)
      by_cases e : j = a
      · subst e; exact h.2
      · exact h3 j (by omega)
    · rename_i h
      refine ⟨h1, h3, ?_⟩
      by_cases e : a = n.keys.length - 1
      · exact .inl e
      · exact .inr (by omega)
theorem atD_spec (n : NodeD) : atD n ≤ n.keys.length - 1 ∧ (∀ j, j < atD n → 2 * psum n j < psum n n.keys.length) ∧ (atD n = n.keys.length - 1 ∨ psum n n.keys.length ≤ 2 * psum n (atD n)) :=
  atGo_spec n _ 0 (Nat.zero_le _) (by omega) (fun j hj => by omega)
theorem cell_le {n : NodeD} (hs : soundB n = true) {k : Nat} (hk : k < n.keys.length) : cellD n k ≤ if n.leaf then 82 else 65 := by
  simp only [soundB, Bool.and_eq_true] at hs
  have h1 := key_le hs.1 hk
  have e1 : klen n k = n.keys[k].length := by simp [klen, hk]
  simp only [cellD]
  cases hlf : n.leaf with
  | false => simp only [Bool.false_eq_true, if_false]; omega
  | true =>
    have h2 := hs.2
    simp only [hlf, if_true, Bool.and_eq_true, decide_eq_true_eq, List.all_eq_true] at h2
    have hv : k < n.vals.length := by omega
    have h3 := h2.2 _ (List.getElem_mem hv)
    simp only [valOk, decide_eq_true_eq] at h3
    have e2 : vlen n k = n.vals[k].length := by simp [vlen, hv]
    simp only [if_true]; omega
theorem csum_step_le {n : NodeD} (hs : soundB n = true) {k : Nat} (hk : k < n.keys.length) : psum n (k + 1) ≤ psum n k + if n.leaf then 82 else 67 := by
  have := cell_le hs hk
  simp only [psum, wD]
  cases hlf : n.leaf <;> simp only [hlf, if_true, Bool.false_eq_true, if_false] at this ⊢ <;> omega
theorem psum_leaf {n : NodeD} (h : n.leaf = true) : ∀ k, psum n k = csum n k
  | 0 => rfl
  | k + 1 => by simp only [psum, csum, wD, h, if_true, psum_leaf h k]; omega
theorem psum_inner {n : NodeD} (h : n.leaf = false) : ∀ k, psum n k = csum n k + 2 * k
  | 0 => rfl
  | k + 1 => by simp only [psum, csum, wD, h, Bool.false_eq_true, if_false, psum_inner h k]; omega
theorem wD_pos (n : NodeD) (k : Nat) : 1 ≤ wD n k := by simp only [wD, cellD]; split <;> omega
theorem all_takeD {α : Type} {p : α → Bool} {xs : List α} (h : xs.all p = true) (a : Nat) : (xs.take a).all p = true := by
  rw [List.all_eq_true] at h ⊢; exact fun x hx => h x (List.mem_of_mem_take hx)
theorem all_dropD {α : Type} {p : α → Bool} {xs : List α} (h : xs.all p = true) (a : Nat) : (xs.drop a).all p = true := by
  rw [List.all_eq_true] at h ⊢; exact fun x hx => h x (List.mem_of_mem_drop hx)
theorem getD_take {l : List (List UInt8)} {a j : Nat} (h : j < a) : (l.take a).getD j [] = l.getD j [] := by simp [List.getD, List.getElem?_take_of_lt h]
theorem getD_drop {l : List (List UInt8)} {a j : Nat} : (l.drop a).getD j [] = l.getD (a + j) [] := by simp [List.getD, List.getElem?_drop]
structure Halves (n : NodeD) : Prop where
  r1 : rightB (splitL n) = true
  r2 : rightB (splitR n) = true
  n1 : 0 < (splitL n).keys.length
  n2 : 0 < (splitR n).keys.length
  lo : ∀ i (h : i < (splitL n).keys.length), Op.bytesLess (splitL n).keys[i] (splitK n) = true
  hi : ∀ i (h : i < (splitR n).keys.length), Op.bytesLess (splitK n) (splitR n).keys[i] = true ∨ ((splitR n).keys[i] = splitK n ∧ n.leaf = true)
  all : joinD (splitL n) (splitR n) (splitK n) = n
theorem halves {n : NodeD} (hz : sizeD n ≤ 336) (hc : canB n = true) : Halves n := by
  have hc' := hc
  simp only [canB, Bool.and_eq_true, decide_eq_true_eq] at hc'
  obtain ⟨hs, hm⟩ := hc'
  have hs' := hs
  simp only [soundB, Bool.and_eq_true] at hs'
  obtain ⟨hks, hrest⟩ := hs'
  obtain ⟨ha1, ha2, ha3⟩ := atD_spec n
  have hpos : 0 < psum n n.keys.length := by
    have h0 : 0 < n.keys.length := by split at hm <;> omega
    have := psum_mono n (k := 1) (m := n.keys.length) h0
    have := wD_pos n 0
    simp only [psum] at *; omega
  have hstep := fun k hk => csum_step_le hs (k := k) hk
  have hrise := fun j i hj hi => keys_rise hks (j := j) (i := i) hj hi
  cases hlf : n.leaf with
  | true =>
    simp only [hlf, if_true] at hm hrest
    simp only [Bool.and_eq_true, decide_eq_true_eq] at hrest
    obtain ⟨⟨hvl, hil⟩, hva⟩ := hrest
    have eL : splitL n = ⟨true, n.keys.take (atD n), n.vals.take (atD n), []⟩ := by simp [splitL, hc, hlf]
    have eR : splitR n = ⟨true, n.keys.drop (atD n), n.vals.drop (atD n), []⟩ := by simp [splitR, hc, hlf]
    have eK : splitK n = n.keys[atD n]'(by omega) := by simp [splitK, hc, hlf, show atD n < n.keys.length by omega]
    have h1 : 1 ≤ atD n := by
      rcases ha3 with h | h
      · omega
      · by_cases e : atD n = 0
        · rw [e] at h; simp only [psum] at h; omega
        · omega
    have hall : sizeD n = 2 + csum n n.keys.length := by simp [sizeD, hlf]
    have hp := psum_leaf hlf
    have hb := hstep (atD n - 1) (by omega)
    rw [show atD n - 1 + 1 = atD n by omega, hlf, if_pos rfl] at hb
    have hb2 := ha2 (atD n - 1) (by omega)
    have hcl : csum (splitL n) (splitL n).keys.length = csum n (atD n) := by
      rw [eL]
      simp only [List.length_take, Nat.min_eq_left (show atD n ≤ n.keys.length by omega)]
      exact csum_take n _ hlf.symm (a := atD n) (fun j hj => by simp only [klen, getD_take hj]) (fun _ j hj => by simp only [vlen, getD_take hj]) _ (Nat.le_refl _)
    have hcr : csum (splitR n) (splitR n).keys.length + csum n (atD n) = csum n n.keys.length := by
      rw [eR]
      simp only [List.length_drop]
      have := csum_drop n ⟨true, n.keys.drop (atD n), n.vals.drop (atD n), []⟩ hlf.symm (a := atD n) (fun j => by simp only [klen, getD_drop]) (fun _ j => by simp only [vlen, getD_drop]) (n.keys.length - atD n)
      rw [this]; congr 1; omega
    refine ⟨?_, ?_, ?_, ?_, ?_, ?_, ?_⟩
    · simp only [rightB, Bool.and_eq_true, decide_eq_true_eq]
      refine ⟨?_, ?_⟩
      · rw [eL]; simp only [soundB, if_true, Bool.and_eq_true, decide_eq_true_eq]
        exact ⟨keysOk_take hks _, ⟨by simp [hvl], rfl⟩, all_takeD hva _⟩
      · have : sizeD (splitL n) = 2 + csum (splitL n) (splitL n).keys.length := by rw [eL]; simp [sizeD]
        rw [this, hcl, ← hp]
        rw [hp n.keys.length] at hb2
        omega
    · simp only [rightB, Bool.and_eq_true, decide_eq_true_eq]
      refine ⟨?_, ?_⟩
      · rw [eR]; simp only [soundB, if_true, Bool.and_eq_true, decide_eq_true_eq]
        exact ⟨keysOk_drop hks _, ⟨by simp [hvl], rfl⟩, all_dropD hva _⟩
      · have : sizeD (splitR n) = 2 + csum (splitR n) (splitR n).keys.length := by rw [eR]; simp [sizeD]
        rw [this]
        rcases ha3 with h | h
        · have h5 := hstep (atD n) (by omega)
          rw [hlf, if_pos rfl, show atD n + 1 = n.keys.length by omega, hp, hp] at h5
          omega
        · rw [hp, hp] at h; omega
    · rw [eL]; simp; omega
    · rw [eR]; simp; omega
    · intro i hi
      simp only [eL, eK] at hi ⊢
      simp only [List.length_take] at hi
      simp only [List.getElem_take]
      exact hrise _ _ (by omega) (by omega)
    · intro i hi
      simp only [eR, eK] at hi ⊢
      simp only [List.length_drop] at hi
      simp only [List.getElem_drop]
      by_cases h0 : i = 0
      · subst h0; exact .inr ⟨rfl, hlf⟩
      · exact .inl (hrise (atD n + i) (atD n) (by omega) (by omega))
    · rw [eL, eR]
      obtain ⟨lf, ks, vs, is⟩ := n
      simp only at hlf hil
      obtain rfl := List.eq_nil_of_length_eq_zero hil
      subst hlf
      simp [joinD]
  | false =>
    simp only [hlf, Bool.false_eq_true, if_false] at hm hrest
    simp only [Bool.and_eq_true, decide_eq_true_eq] at hrest
    obtain ⟨⟨hvl, hil⟩, hia⟩ := hrest
    have ha4 : at2 n ≤ n.keys.length - 1 := by simp only [at2]; omega
    have ha5 : 2 ≤ at2 n := by simp only [at2]; omega
    have ha6 : atD n ≤ at2 n := by simp only [at2]; omega
    have eL : splitL n = ⟨false, n.keys.take (at2 n - 1), [], n.kids.take (at2 n)⟩ := by simp [splitL, hc, hlf]
    have eR : splitR n = ⟨false, n.keys.drop (at2 n), [], n.kids.drop (at2 n)⟩ := by simp [splitR, hc, hlf]
    have eK : splitK n = n.keys[at2 n - 1]'(by omega) := by simp [splitK, hc, hlf, show at2 n - 1 < n.keys.length by omega]
    have hall : sizeD n = 2 + 2 * (n.keys.length + 1) + csum n n.keys.length := by simp only [sizeD, hlf, Bool.false_eq_true, if_false, hil]
    have hp := psum_inner hlf
    have hpm := hp n.keys.length
    have hcl : csum (splitL n) (splitL n).keys.length = csum n (at2 n - 1) := by
      rw [eL]
      simp only [List.length_take, Nat.min_eq_left (show at2 n - 1 ≤ n.keys.length by omega)]
      exact csum_take n _ hlf.symm (a := at2 n - 1) (fun j hj => by simp only [klen, getD_take hj]) (fun h => by rw [hlf] at h; cases h) _ (Nat.le_refl _)
    have hcr : csum (splitR n) (splitR n).keys.length + csum n (at2 n) = csum n n.keys.length := by
      rw [eR]
      simp only [List.length_drop]
      have := csum_drop n ⟨false, n.keys.drop (at2 n), [], n.kids.drop (at2 n)⟩ hlf.symm (a := at2 n) (fun j => by simp only [klen, getD_drop]) (fun h => by rw [hlf] at h; cases h) (n.keys.length - at2 n)
      rw [this]; congr 1; omega
    refine ⟨?_, ?_, ?_, ?_, ?_, ?_, ?_⟩
    · simp only [rightB, Bool.and_eq_true, decide_eq_true_eq]
      refine ⟨?_, ?_⟩
      · rw [eL]; simp only [soundB, Bool.false_eq_true, if_false, Bool.and_eq_true, decide_eq_true_eq]
        exact ⟨keysOk_take hks _, ⟨rfl, by simp only [List.length_take]; omega⟩, all_takeD hia _⟩
      · have : sizeD (splitL n) = 2 + 2 * at2 n + csum (splitL n) (splitL n).keys.length := by
          rw [eL]; simp only [sizeD, Bool.false_eq_true, if_false, List.length_take, Nat.min_eq_left (show at2 n ≤ n.kids.length by omega)]
        rw [this, hcl]
        have h7 := hp (at2 n - 1)
        by_cases h8 : at2 n = 2
        · have h9 := hstep 0 (by omega)
          simp only [hlf, Bool.false_eq_true, if_false, psum] at h9
          have h10 := hp 1
          simp only [psum] at h10
          rw [h8] at h7 ⊢
          simp only [Nat.reduceSub, psum] at h7 ⊢
          omega
        · have h9 := ha2 (at2 n - 1) (by simp only [at2] at h8 ⊢; omega)
          omega
    · simp only [rightB, Bool.and_eq_true, decide_eq_true_eq]
      refine ⟨?_, ?_⟩
      · rw [eR]; simp only [soundB, Bool.false_eq_true, if_false, Bool.and_eq_true, decide_eq_true_eq]
        exact ⟨keysOk_drop hks _, ⟨rfl, by simp only [List.length_drop]; omega⟩, all_dropD hia _⟩
      · have : sizeD (splitR n) = 2 + 2 * (n.kids.length - at2 n) + csum (splitR n) (splitR n).keys.length := by
          rw [eR]; simp only [sizeD, Bool.false_eq_true, if_false, List.length_drop]
        rw [this]
        have h7 := hp (at2 n)
        rcases ha3 with h | h
        · have h8 : at2 n = n.keys.length - 1 := by omega
          have h5 := hstep (at2 n) (by omega)
          simp only [hlf, Bool.false_eq_true, if_false] at h5
          rw [show at2 n + 1 = n.keys.length by omega] at h5
          omega
        · have h5 := psum_mono n ha6
          omega
    · rw [eL]; simp; omega
    · rw [eR]; simp; omega
    · intro i hi
      simp only [eL, eK] at hi ⊢
      simp only [List.length_take] at hi
      simp only [List.getElem_take]
      exact hrise _ _ (by omega) (by omega)
    · intro i hi
      simp only [eR, eK] at hi ⊢
      simp only [List.length_drop] at hi
      simp only [List.getElem_drop]
      exact .inl (hrise (at2 n + i) (at2 n - 1) (by omega) (by omega))
    · have hk1 : n.keys.take (at2 n - 1) ++ [n.keys[at2 n - 1]'(by omega)] ++ n.keys.drop (at2 n) = n.keys := by
        rw [← List.take_succ_eq_append_getElem, show at2 n - 1 + 1 = at2 n by omega, List.take_append_drop]
      rw [eL, eR, eK]
      simp only [joinD, Bool.false_eq_true, if_false]
      rw [hk1, List.take_append_drop]
      obtain ⟨lf, ks, vs, is⟩ := n
      simp only at hlf hvl ⊢
      obtain rfl := List.eq_nil_of_length_eq_zero hvl
      subst hlf; rfl
end Go.Gk.Node
