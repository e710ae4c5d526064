/-
  Our own texts, one behind the other: GkK8 Gk28 Gk29 GkK9 GkKE GkT0 GkM0 GkKF GkG4 GkKA GkKB GkKC GkKD Gk31.
-/
import Derived.Recover
import Derived.BigFrame
import Derived.Test.YtjhoaohpfbgfpaaDoorPkF
section
namespace Go.Gk.Val
open Go Go.Gk Go.Gk.Num
attribute [local irreducible] gwp gws

def KRValueOk (T : PHeap → Prop) (P : Program) (f : FuncId) : Prop := ∀ (left : Nat) {d : PHeap} {q : Nat} {Tq : TypeId} {vb : Value} {b : List UInt8} {n : Nat}, left ≤ 48 → T d → RSl 1 RByte d vb b → b.length ≤ 1000000000 → n ≤ b.length →
  GCall P f [.pointer (some ⟨q, 0, none⟩), .int .i64 left] d [rdr q Tq vb n] (fun e d' L' => (∃ cs x k, e = .returned (.agg cs.toArray) ∧ RVal d' cs x ∧ L' = [rdr q Tq vb k] ∧ k ≤ b.length ∧ n ≤ k ∧ shp x ∧ depthV x ≤ left ∧ b.drop n = keyV x ++ b.drop k) ∨
    (Gives e ∧ ∀ x r, shp x → depthV x ≤ left → b.drop n ≠ keyV x ++ r))
theorem keyT_len' (s : List UInt8) : s.length + 2 ≤ (keyT s).length := by
  have : ∀ s : List UInt8, s.length ≤ (esc s).length := fun s => by
    induction s with
    | nil => simp
    | cons c s ih => rw [esc_cons, List.length_append, List.length_cons]; split <;> simp <;> omega
  have := this s
  simp [keyT]; omega
def bv5 (k m e : Int) (t : List UInt8) (lv kv : Value) : List Value := [.int .i64 k, .int .i64 m, .int .i64 e, strV t, lv, kv]
def g_key_reader_value (T_api_Errno f_key_reader_next f_key_reader_digits f_key_reader_text f_key_reader_ends f_key_reader_value : Nat) : GFun :=
 ⟨77, [(.cell 4 (some 6))],
 (.seq
 (.reg false (.op false ⟨(some 4), none, (.alo (.agg #[(.int .i64 0), (.int .i64 0), (.int .i64 0), (strV []), (.slice none 0 0), (.slice none 0 0)]))⟩ .done))
 (.seq (.seq
 (.reg false (.op false ⟨(some 6), none, (.mv (.tmp 1))⟩
  (.op false ⟨(some 7), none, (.bin .eql (.tmp 6) (.const (.int .i64 0)))⟩ .done))) (.cond (.tmp 7)
 (.reg false (.op false ⟨(some 8), none, (.mki T_api_Errno (.const (.int .i64 50)))⟩
  (.op false ⟨none, none, (.pan (.tmp 8))⟩ .done))) .skip))
 (.seq
 (.reg false (.op false ⟨(some 9), none, (.mv (.tmp 0))⟩
  (.op false ⟨(some 10), none, (.call f_key_reader_next [(.tmp 9)])⟩
  (.op false ⟨(some 11), none, (.cvi .i64 (.tmp 10))⟩
  (.op false ⟨(some 12), none, (.bin .sub (.tmp 11) (.const (.int .i64 1)))⟩
  (.op false ⟨(some 13), none, (.bld [(0, 1), (1, 2), (3, 1), (4, 1), (5, 1)] [(.int .i64 0), (.int .i64 0), (.int .i64 0), (strV []), (.slice none 0 0), (.slice none 0 0)] [(0, (.tmp 12))])⟩
  (.op false ⟨(some 5), none, (.alo (.agg #[(.int .i64 0), (.int .i64 0), (.int .i64 0), (strV []), (.slice none 0 0), (.slice none 0 0)]))⟩
  (.op false ⟨none, none, (.st 6 (.tmp 5) (.tmp 13))⟩ .done))))))))
 (.seq (.seq
 (.reg false (.op false ⟨(some 14), none, (.fld 0 (.tmp 5))⟩
  (.op false ⟨(some 15), none, (.ld none (.tmp 14))⟩ .done))) (.block 0
 (.seq (.seq
 (.reg false (.op false ⟨(some 18), none, (.bin .eql (.tmp 15) (.const (.int .i64 0)))⟩
  (.op false ⟨(some 17), none, (.mv (.tmp 18))⟩ .done))) (.cond (.tmp 17) .skip
 (.seq
 (.reg false (.op false ⟨(some 19), none, (.bin .eql (.tmp 15) (.const (.int .i64 1)))⟩
  (.op false ⟨(some 17), none, (.mv (.tmp 19))⟩ .done))) (.cond (.tmp 17) .skip
 (.reg false (.op false ⟨(some 20), none, (.bin .eql (.tmp 15) (.const (.int .i64 2)))⟩
  (.op false ⟨(some 17), none, (.mv (.tmp 20))⟩ .done))))))) (.cond (.tmp 17) .skip
 (.seq
 (.reg false (.op false ⟨(some 22), none, (.bin .eql (.tmp 15) (.const (.int .i64 3)))⟩
  (.op false ⟨(some 21), none, (.mv (.tmp 22))⟩ .done))) (.cond (.tmp 21)
 (.reg false (.op false ⟨(some 23), none, (.mv (.tmp 0))⟩
  (.op false ⟨(some 24), none, (.call f_key_reader_digits [(.tmp 23)])⟩
  (.op false ⟨(some 25), none, (.fld 1 (.tmp 5))⟩
  (.op false ⟨none, none, (.st 2 (.tmp 25) (.tmp 24))⟩ .done)))))
 (.seq
 (.reg false (.op false ⟨(some 27), none, (.bin .eql (.tmp 15) (.const (.int .i64 4)))⟩
  (.op false ⟨(some 26), none, (.mv (.tmp 27))⟩ .done))) (.cond (.tmp 26)
 (.reg false (.op false ⟨(some 28), none, (.mv (.tmp 0))⟩
  (.op false ⟨(some 29), none, (.call f_key_reader_text [(.tmp 28)])⟩
  (.op false ⟨(some 30), none, (.fld 3 (.tmp 5))⟩
  (.op false ⟨none, none, (.st 1 (.tmp 30) (.tmp 29))⟩ .done)))))
 (.seq
 (.reg false (.op false ⟨(some 32), none, (.bin .eql (.tmp 15) (.const (.int .i64 5)))⟩
  (.op false ⟨(some 31), none, (.mv (.tmp 32))⟩ .done))) (.cond (.tmp 31) (.block 1 (.loop
 (.seq (.seq
 (.reg false (.op false ⟨(some 33), none, (.mv (.tmp 0))⟩
  (.op false ⟨(some 34), none, (.call f_key_reader_ends [(.tmp 33)])⟩
  (.op false ⟨(some 35), none, (.un .not (.tmp 34))⟩ .done)))) (.cond (.tmp 35) .skip (.exit 1))) (.block 2
 (.reg true (.op true ⟨(some 36), none, (.fld 4 (.tmp 5))⟩
  (.op true ⟨(some 37), none, (.ld none (.tmp 36))⟩
  (.op true ⟨(some 38), none, (.mv (.tmp 0))⟩
  (.op true ⟨(some 39), none, (.mv (.tmp 1))⟩
  (.op true ⟨(some 40), none, (.bin .sub (.tmp 39) (.const (.int .i64 1)))⟩
  (.op false ⟨(some 41), none, (.call f_key_reader_value [(.tmp 38), (.tmp 40)])⟩
  (.op false ⟨(some 42), none, (.bsl 1 6 [(.int .i64 0), (.int .i64 0), (.int .i64 0), (strV []), (.slice none 0 0), (.slice none 0 0)] [(0, (.tmp 41))])⟩
  (.op false ⟨(some 43), none, (.app 6 88 [(.int .i64 0), (.int .i64 0), (.int .i64 0), (strV []), (.slice none 0 0), (.slice none 0 0)] (.tmp 37) (.tmp 42))⟩
  (.op true ⟨(some 44), none, (.fld 4 (.tmp 5))⟩
  (.bar (.op false ⟨none, none, (.st 1 (.tmp 44) (.tmp 43))⟩ .done))))))))))))))))
 (.seq
 (.reg false (.op false ⟨(some 46), none, (.bin .eql (.tmp 15) (.const (.int .i64 6)))⟩
  (.op false ⟨(some 45), none, (.mv (.tmp 46))⟩ .done))) (.cond (.tmp 45)
 (.seq (.block 3 (.loop
 (.seq (.seq
 (.reg false (.op false ⟨(some 47), none, (.mv (.tmp 0))⟩
  (.op false ⟨(some 48), none, (.call f_key_reader_ends [(.tmp 47)])⟩
  (.op false ⟨(some 49), none, (.un .not (.tmp 48))⟩ .done)))) (.cond (.tmp 49) .skip (.exit 3))) (.block 4
 (.seq (.seq
 (.reg false (.op false ⟨(some 50), none, (.mv (.tmp 0))⟩
  (.op false ⟨(some 51), none, (.call f_key_reader_next [(.tmp 50)])⟩
  (.op false ⟨(some 52), none, (.bin .neq (.tmp 51) (.const (.int .u8 5)))⟩ .done)))) (.cond (.tmp 52)
 (.reg false (.op false ⟨(some 53), none, (.mki T_api_Errno (.const (.int .i64 50)))⟩
  (.op false ⟨none, none, (.pan (.tmp 53))⟩ .done))) .skip))
 (.reg true (.op true ⟨(some 54), none, (.fld 5 (.tmp 5))⟩
  (.op true ⟨(some 55), none, (.ld none (.tmp 54))⟩
  (.op true ⟨(some 56), none, (.mv (.tmp 0))⟩
  (.op false ⟨(some 57), none, (.call f_key_reader_text [(.tmp 56)])⟩
  (.op false ⟨(some 58), none, (.bsl 1 1 [(strV [])] [(0, (.tmp 57))])⟩
  (.op false ⟨(some 59), none, (.app 1 16 [(strV [])] (.tmp 55) (.tmp 58))⟩
  (.op true ⟨(some 60), none, (.fld 5 (.tmp 5))⟩
  (.bar (.op false ⟨none, none, (.st 1 (.tmp 60) (.tmp 59))⟩ .done)))))))))))))))
 (.seq
 (.reg false (.op false ⟨(some 61), none, (.fld 5 (.tmp 5))⟩
  (.op false ⟨(some 62), none, (.ld none (.tmp 61))⟩
  (.op false ⟨(some 63), none, (.len (.tmp 62))⟩
  (.op false ⟨(some 64), none, (.mv (.const (.int .i64 0)))⟩ .done))))) (.block 5 (.loop
 (.seq
 (.reg false (.op false ⟨(some 65), none, (.bin .lss (.tmp 64) (.tmp 63))⟩ .done))
 (.seq (.cond (.tmp 65) .skip (.exit 5))
 (.seq (.block 6
 (.reg true (.op true ⟨(some 66), none, (.fld 4 (.tmp 5))⟩
  (.op true ⟨(some 67), none, (.ld none (.tmp 66))⟩
  (.op true ⟨(some 68), none, (.mv (.tmp 0))⟩
  (.op true ⟨(some 69), none, (.mv (.tmp 1))⟩
  (.op true ⟨(some 70), none, (.bin .sub (.tmp 69) (.const (.int .i64 1)))⟩
  (.op false ⟨(some 71), none, (.call f_key_reader_value [(.tmp 68), (.tmp 70)])⟩
  (.op false ⟨(some 72), none, (.bsl 1 6 [(.int .i64 0), (.int .i64 0), (.int .i64 0), (strV []), (.slice none 0 0), (.slice none 0 0)] [(0, (.tmp 71))])⟩
  (.op false ⟨(some 73), none, (.app 6 88 [(.int .i64 0), (.int .i64 0), (.int .i64 0), (strV []), (.slice none 0 0), (.slice none 0 0)] (.tmp 67) (.tmp 72))⟩
  (.op true ⟨(some 74), none, (.fld 4 (.tmp 5))⟩
  (.bar (.op false ⟨none, none, (.st 1 (.tmp 74) (.tmp 73))⟩ .done)))))))))))))
 (.reg false (.op false ⟨(some 75), none, (.bin .add (.tmp 64) (.const (.int .i64 1)))⟩
  (.op false ⟨(some 64), none, (.mv (.tmp 75))⟩ .done))))))))))
 (.reg false (.op false ⟨(some 16), none, (.mki T_api_Errno (.const (.int .i64 50)))⟩
  (.op false ⟨none, none, (.pan (.tmp 16))⟩ .done)))))))))))))))
 (.seq
 (.reg false (.op false ⟨(some 76), none, (.ld (some 6) (.tmp 5))⟩
  (.op false ⟨none, none, (.st 6 (.tmp 4) (.tmp 76))⟩ .done))) .ret)))))⟩

set_option maxHeartbeats 1000000 in
theorem krvalue_ok {T : PHeap → Prop} (hTm : ∀ {d d' : PHeap}, T d → Le d d' → T d') {P : Program} {f f1 f2 f3 f4 : FuncId} {t1 : TypeId} (hd : dec P f = some (g_key_reader_value t1 f1 f2 f3 f4 f)) (h1 : KNextOk P f1) (h2 : KRDigitsOk T P f2) (h3 : KRTextOk P f3) (h4 : KEndsOk P f4) : KRValueOk T P f := by
  intro left
  induction left with
  | zero =>
    intro d q Tq vb b n _ ht hb hbl hn
    refine GCall_of hd (Nat.le_of_ble_eq_true rfl) ?_
    show gwp P _ _ _ _ _
    (apply w_sq; apply w_reg; apply w_alo; intro _ _; apply w_done0; apply w_sq; apply w_sq; apply w_reg; apply w_mvi; rfl; apply w_eql; rfl; rfl; apply w_done0; refine w_ifdT rfl (by omega) ?_; apply w_reg; apply w_mki)
    exact w_pan rfl ⟨_, _, Vs.refl _ _, Or.inr ⟨⟨_, _, rfl⟩, fun x r _ h => absurd h (by have := depth_pos x; omega)⟩⟩
  | succ left ih =>
    intro d q Tq vb b n hlf ht hb hbl hn
    refine GCall_of hd (Nat.le_of_ble_eq_true rfl) ?_
    obtain ⟨le, hle⟩ : ∃ le : Int, ((left + 1 : Nat) : Int) = le := ⟨_, rfl⟩
    rw [hle]
    have hle0 : le ≠ 0 := by omega
    have hle1 : le - 1 = (left : Nat) := by omega
    have hdp : ∀ x : V, depthV x ≤ left + 1 ↔ ∀ y ∈ x.list, depthV y ≤ left := fun x => depth_le
    show gwp P _ _ _ _ _
    (apply w_sq; apply w_reg; apply w_alo; intro _ _; apply w_done0; apply w_sq; apply w_sq; apply w_reg; apply w_mvi; rfl; apply w_eql; rfl; rfl; apply w_done0; refine w_ifdF rfl (by omega) ?_; apply w_skip; apply w_sq; apply w_reg; apply w_mvp; rfl)
    rename_i b4 T4
    refine w_vs d [rdr q Tq vb n, bx b4 T4 zVal] (Vs.pick (L := [bx b4 T4 zVal, rdr q Tq vb n]) [1, 0] rfl) ?_
    refine w_callE (A := [rdr q Tq vb n]) (B := [bx b4 T4 zVal]) rfl rfl (h1 hb hn) (fun d' L' h => KNext_out h) (fun r d' L' _ h => ?_) (fun c d' L' _ h => ?_)
    rotate_left
    · rcases h with ⟨_, h, _⟩ | ⟨hkl, h⟩
      · cases h
      · exact ⟨d', _, Vs.refl _ _, Or.inr ⟨h, fun x r _ _ e => by rw [hkl] at e; have := congrArg List.length e; have := keyV_pos x; simp at *; omega⟩⟩
    obtain ⟨hc, hr, hdd, hL⟩ := h.resolve_right (fun h => h.2.ret)
    cases hr; subst hdd; subst hL
    have hdk := List.drop_eq_getElem_cons hc
    obtain ⟨c, hcc⟩ : ∃ c, b[n] = c := ⟨_, rfl⟩
    rw [hcc] at hdk ⊢
    have hcl := c.toNat_lt
    obtain ⟨kd, hkd⟩ : ∃ kd : Int, ((c.toNat : Nat) : Int) - 1 = kd := ⟨_, rfl⟩
    (apply w_cvi64; rfl; omega; omega; apply w_sub; rfl; rfl; omega; omega; apply w_bvK; rfl; apply w_alo; intro _ _)
    rename_i b5 T5
    rw [hkd]
    refine w_stE 0 [.int .i64 kd, .int .i64 0, .int .i64 0, strV [], .slice none 0 0, .slice none 0 0] rfl rfl rfl rfl (Nat.le_of_ble_eq_true rfl) rfl rfl ?_
    apply w_done
    refine w_mid (fun ρ d2 L' => ∃ cs x k rest, SlotsAre ρ [(4, .pointer (some ⟨b4, 0, none⟩)), (5, .pointer (some ⟨b5, 0, none⟩))] ∧ RVal d2 cs x ∧ k ≤ b.length ∧ n ≤ k ∧ shp x ∧ depthV x ≤ left + 1 ∧ b.drop n = keyV x ++ b.drop k ∧ L' = rdr q Tq vb k :: bx b5 T5 cs :: bx b4 T4 zVal :: rest) ?_ ?_
    rotate_left
    · rintro ρ d2 L' ⟨cs, x, k, rest, hsl, hR, hk, hnk, hs, hdx, hbd, hL⟩
      subst hL
      refine gwp_slots _ hsl ?_
      clear hsl
      (apply w_sq; apply w_reg)
      refine w_ldb 1 rfl rfl hR.len ?_
      refine w_stE 2 cs rfl rfl rfl hR.len (Nat.le_of_ble_eq_true rfl) (cell1_val _ _ _ hR) (patch6 rfl hR.len) ?_
      (apply w_done0; apply w_ret)
      simp only [mkPost, g_key_reader_value]
      exact finS (L' := [rdr q Tq vb k]) [.agg cs.toArray] ⟨res_cell 2 rfl rfl hR.len, trivial⟩ (by simp) (Or.inl ⟨cs, x, k, rfl, hR, rfl, hk, hnk, hs, hdx, hbd⟩)
    apply w_sq; apply w_reg
    refine w_vs d' [rdr q Tq vb (n + 1), bx b5 T5 [.int .i64 kd, .int .i64 0, .int .i64 0, strV [], .slice none 0 0, .slice none 0 0], bx b4 T4 zVal, emp] (Vs.emp.trans (Vs.pick (L := [emp, bx b5 T5 [.int .i64 kd, .int .i64 0, .int .i64 0, strV [], .slice none 0 0, .slice none 0 0], rdr q Tq vb (n + 1), bx b4 T4 zVal]) [2, 1, 3, 0] rfl)) ?_
    have h012 : (0 ≤ kd ∧ kd ≤ 2) → ∃ cs x k rest, RVal d' cs x ∧ cs = [.int .i64 kd, .int .i64 0, .int .i64 0, strV [], .slice none 0 0, .slice none 0 0] ∧ k = n + 1 ∧ rest = [emp] ∧ shp x ∧ depthV x ≤ left + 1 ∧ b.drop n = keyV x ++ b.drop k := fun hk => by
      have hi : I64 kd := ⟨by omega, by omega⟩
      refine ⟨_, .mk kd 0 0 [] [] [], n + 1, _, RVal.close (v := .mk kd 0 0 [] [] []) hi i64_0 i64_0 (by simp) RSl.nil RSl.nil, rfl, rfl, rfl, shp_kind hk, by rw [hdp]; simp, ?_⟩
      rw [keyV_kind hk, hdk, show ((kd + 1) % 256).toNat = c.toNat by omega, UInt8.ofNat_toNat]; rfl
    by_cases k0 : kd = 0
    · obtain ⟨cs, x, k, rest, g1, g2, g3, g4, g5, g6, g7⟩ := h012 (by omega)
      (apply w_fld; rfl; apply w_ld; rfl; exact hc_i 1 rfl rfl; apply w_done0; apply w_block; apply w_sq; apply w_sq; apply w_reg; apply w_eql; rfl; rfl; apply w_mvb; rfl; apply w_done0; refine w_ifdT rfl (by omega) ?_; apply w_skip; refine w_ifdT rfl (by omega) ?_; apply w_skip)
      exact ⟨cs, x, k, rest, ⟨rfl, rfl, trivial⟩, g1, by omega, by omega, g5, g6, g7, by rw [g2, g3, g4]⟩
    by_cases k1 : kd = 1
    · obtain ⟨cs, x, k, rest, g1, g2, g3, g4, g5, g6, g7⟩ := h012 (by omega)
      (apply w_fld; rfl; apply w_ld; rfl; exact hc_i 1 rfl rfl; apply w_done0; apply w_block; apply w_sq; apply w_sq; apply w_reg; apply w_eql; rfl; rfl; apply w_mvb; rfl; apply w_done0; refine w_ifdF rfl (by omega) ?_; apply w_sq; apply w_reg; apply w_eql; rfl; rfl; apply w_mvb; rfl; apply w_done0; refine w_ifdT rfl (by omega) ?_; apply w_skip; refine w_ifdT rfl (by omega) ?_; apply w_skip)
      exact ⟨cs, x, k, rest, ⟨rfl, rfl, trivial⟩, g1, by omega, by omega, g5, g6, g7, by rw [g2, g3, g4]⟩
    by_cases k2 : kd = 2
    · obtain ⟨cs, x, k, rest, g1, g2, g3, g4, g5, g6, g7⟩ := h012 (by omega)
      (apply w_fld; rfl; apply w_ld; rfl; exact hc_i 1 rfl rfl; apply w_done0; apply w_block; apply w_sq; apply w_sq; apply w_reg; apply w_eql; rfl; rfl; apply w_mvb; rfl; apply w_done0; refine w_ifdF rfl (by omega) ?_; apply w_sq; apply w_reg; apply w_eql; rfl; rfl; apply w_mvb; rfl; apply w_done0; refine w_ifdF rfl (by omega) ?_; apply w_reg; apply w_eql; rfl; rfl; apply w_mvb; rfl; apply w_done0; refine w_ifdT rfl (by omega) ?_; apply w_skip)
      exact ⟨cs, x, k, rest, ⟨rfl, rfl, trivial⟩, g1, by omega, by omega, g5, g6, g7, by rw [g2, g3, g4]⟩
    by_cases k3 : kd = 3
    · have hc4 : c = 4 := UInt8.toNat_inj.1 (show c.toNat = 4 by omega)
      (apply w_fld; rfl; apply w_ld; rfl; exact hc_i 1 rfl rfl; apply w_done0; apply w_block; apply w_sq; apply w_sq; apply w_reg; apply w_eql; rfl; rfl; apply w_mvb; rfl; apply w_done0; refine w_ifdF rfl (by omega) ?_; apply w_sq; apply w_reg; apply w_eql; rfl; rfl; apply w_mvb; rfl; apply w_done0; refine w_ifdF rfl (by omega) ?_; apply w_reg; apply w_eql; rfl; rfl; apply w_mvb; rfl; apply w_done0; refine w_ifdF rfl (by omega) ?_; apply w_sq; apply w_reg; apply w_eql; rfl; rfl; apply w_mvb; rfl; apply w_done0; refine w_ifdT rfl (by omega) ?_; apply w_reg; apply w_mvp; rfl)
      refine w_callE (A := [rdr q Tq vb (n + 1)]) (B := [bx b5 T5 [.int .i64 kd, .int .i64 0, .int .i64 0, strV [], .slice none 0 0, .slice none 0 0], bx b4 T4 zVal, emp]) rfl rfl (h2 ht hb hc) (fun d' L' h => ?_) (fun r d2 L' _ h => ?_) (fun c d2 L' _ h => ?_)
      · rcases h with ⟨_, _, _, h, _⟩ | ⟨h, _⟩
        · cases h
        · exact h.out rfl
      · obtain ⟨m, e, k, hr, hdd, hL, g1, g2, g3, g4⟩ := h.resolve_right (fun h => h.1.ret)
        cases hr; subst hdd; subst hL
        have hnb := numR0 g3
        have hm64 : I64 m := ⟨by omega, by omega⟩
        have he64 : I64 e := ⟨by omega, by omega⟩
        (apply w_fld; rfl)
        refine w_stE 1 [.int .i64 kd, .int .i64 m, .int .i64 e, strV [], .slice none 0 0, .slice none 0 0] rfl rfl rfl rfl (Nat.le_of_ble_eq_true rfl) rfl rfl ?_
        (apply w_done0)
        refine ⟨_, .mk 3 m e [] [] [], k, _, ⟨rfl, rfl, trivial⟩, RVal.close (v := .mk 3 m e [] [] []) (show I64 3 from ⟨by decide, by decide⟩) hm64 he64 (by simp) RSl.nil RSl.nil, g1, by omega, shp_num g3, by rw [hdp]; simp, ?_, by rw [k3]; rfl⟩
        rw [keyV_num, hdk, hc4, g4]; rfl
      · rcases h with ⟨_, _, _, h, _⟩ | ⟨h, hno⟩
        · cases h
        · exact ⟨d2, _, Vs.refl _ _, Or.inr ⟨h, fun x r hs _ e => no_num hs hno (by rw [← e, hdk, hc4])⟩⟩
    by_cases k4 : kd = 4
    · have hc5 : c = 5 := UInt8.toNat_inj.1 (show c.toNat = 5 by omega)
      (apply w_fld; rfl; apply w_ld; rfl; exact hc_i 1 rfl rfl; apply w_done0; apply w_block; apply w_sq; apply w_sq; apply w_reg; apply w_eql; rfl; rfl; apply w_mvb; rfl; apply w_done0; refine w_ifdF rfl (by omega) ?_; apply w_sq; apply w_reg; apply w_eql; rfl; rfl; apply w_mvb; rfl; apply w_done0; refine w_ifdF rfl (by omega) ?_; apply w_reg; apply w_eql; rfl; rfl; apply w_mvb; rfl; apply w_done0; refine w_ifdF rfl (by omega) ?_; apply w_sq; apply w_reg; apply w_eql; rfl; rfl; apply w_mvb; rfl; apply w_done0; refine w_ifdF rfl (by omega) ?_; apply w_sq; apply w_reg; apply w_eql; rfl; rfl; apply w_mvb; rfl; apply w_done0; refine w_ifdT rfl (by omega) ?_; apply w_reg; apply w_mvp; rfl)
      refine w_callE (A := [rdr q Tq vb (n + 1)]) (B := [bx b5 T5 [.int .i64 kd, .int .i64 0, .int .i64 0, strV [], .slice none 0 0, .slice none 0 0], bx b4 T4 zVal, emp]) rfl rfl (h3 hb hc) (fun d' L' h => ?_) (fun r d2 L' _ h => ?_) (fun c d2 L' _ h => ?_)
      · rcases h with ⟨_, _, h, _⟩ | ⟨h, _⟩
        · cases h
        · exact h.out rfl
      · obtain ⟨s, k, hr, hdd, hL, g1, g2, g3⟩ := h.resolve_right (fun h => h.1.ret)
        cases hr; subst hdd; subst hL
        have hsl := congrArg List.length g3
        have hsk := keyT_len' s
        simp only [List.length_append, List.length_drop] at hsl
        (apply w_fld; rfl)
        refine w_stE 1 [.int .i64 kd, .int .i64 0, .int .i64 0, strV s, .slice none 0 0, .slice none 0 0] rfl rfl rfl rfl (Nat.le_of_ble_eq_true rfl) rfl rfl ?_
        (apply w_done0)
        refine ⟨_, .mk 4 0 0 s [] [], k, _, ⟨rfl, rfl, trivial⟩, RVal.close (v := .mk 4 0 0 s [] []) i64_4 i64_0 i64_0 (by simp only [V.text]; omega) RSl.nil RSl.nil, g1, by omega, shp_text, by rw [hdp]; simp, ?_, by rw [k4]; rfl⟩
        rw [keyV_text, hdk, hc5, g3]; rfl
      · rcases h with ⟨_, _, h, _⟩ | ⟨h, hno⟩
        · cases h
        · exact ⟨d2, _, Vs.refl _ _, Or.inr ⟨h, fun x r hs _ e => no_text hs hno (by rw [← e, hdk, hc5])⟩⟩
    by_cases k5 : kd = 5
    · have hc6 : c = 6 := UInt8.toNat_inj.1 (show c.toNat = 6 by omega)
      rw [hc6] at hdk
      (apply w_fld; rfl; apply w_ld; rfl; exact hc_i 1 rfl rfl; apply w_done0; apply w_block; apply w_sq; apply w_sq; apply w_reg; apply w_eql; rfl; rfl; apply w_mvb; rfl; apply w_done0; refine w_ifdF rfl (by omega) ?_; apply w_sq; apply w_reg; apply w_eql; rfl; rfl; apply w_mvb; rfl; apply w_done0; refine w_ifdF rfl (by omega) ?_; apply w_reg; apply w_eql; rfl; rfl; apply w_mvb; rfl; apply w_done0; refine w_ifdF rfl (by omega) ?_; apply w_sq; apply w_reg; apply w_eql; rfl; rfl; apply w_mvb; rfl; apply w_done0; refine w_ifdF rfl (by omega) ?_; apply w_sq; apply w_reg; apply w_eql; rfl; rfl; apply w_mvb; rfl; apply w_done0; refine w_ifdF rfl (by omega) ?_; apply w_sq; apply w_reg; apply w_eql; rfl; rfl; apply w_mvb; rfl; apply w_done0; refine w_ifdT rfl (by omega) ?_; apply w_block)
      refine w_loopV (α := List V × Nat) (fun _ _ => [(0, .pointer (some ⟨q, 0, none⟩)), (1, .int .i64 le), (4, .pointer (some ⟨b4, 0, none⟩)), (5, .pointer (some ⟨b5, 0, none⟩))])
        (fun x v h d2 L' => Le d' d2 ∧ x.2 ≤ b.length ∧ n ≤ x.2 ∧ x.1.length ≤ x.2 ∧ (∀ y ∈ x.1, shp y) ∧ (∀ y ∈ x.1, depthV y ≤ left) ∧ b.drop n = 6 :: (keyVs x.1 ++ b.drop x.2) ∧ GRow 6 RVal d2 v x.1 h ∧ L' = [rdr q Tq vb x.2, bx b5 T5 [.int .i64 kd, .int .i64 0, .int .i64 0, strV [], v, .slice none 0 0], bx b4 T4 zVal, h])
        (fun x => b.length - x.2) ([], n + 1) (.slice none 0 0) emp ⟨rfl, rfl, rfl, rfl, trivial⟩ ⟨Le.refl _, hc, by simp only; omega, Nat.zero_le _, (fun y h => absurd h (by simp)), (fun y h => absurd h (by simp)), hdk, GRow.nil, rfl⟩ ?_
      rintro ⟨l, k⟩ v g ρ d2 L' ⟨hl2, hk, hnk, hlk, hsl, hdl, hbd, hgr, hL⟩
      subst hL
      simp only at hk hnk hlk hsl hdl hbd hgr ⊢
      obtain ⟨va, vc, rfl⟩ := hgr.val
      have hb2 := RSl.mono (R := RByte) mono_byte hb hl2
      (apply w_sq; apply w_sq; apply w_reg; apply w_mvp; rfl)
      refine w_callE (A := [rdr q Tq vb k]) (B := [bx b5 T5 [.int .i64 kd, .int .i64 0, .int .i64 0, strV [], .slice va l.length vc, .slice none 0 0], bx b4 T4 zVal, g]) rfl rfl (h4 hb2 hk) (fun d' L' h => ?_) (fun r d3 L' _ h => ?_) (fun c d3 L' _ h => ?_)
      · rcases h with ⟨_, _, ⟨_, h, _⟩ | ⟨_, h, _⟩⟩ | ⟨_, h⟩
        · cases h
        · cases h
        · exact h.out rfl
      rotate_left
      · rcases h with ⟨_, _, ⟨_, h, _⟩ | ⟨_, h, _⟩⟩ | ⟨hkl, h⟩
        · cases h
        · cases h
        · exact ⟨d3, _, Vs.refl _ _, Or.inr ⟨h, fun x r hs hdx e => no_list (rest := b.drop k) hs hdx hsl (.inl (by rw [hkl]; simp)) (by rw [← e, hbd])⟩⟩
      obtain ⟨hck, hdd, h9⟩ := h.resolve_right (fun h => h.2.ret)
      clear h
      subst hdd
      have hdk2 := List.drop_eq_getElem_cons hck
      rcases h9 with ⟨hz, hr, hL⟩ | ⟨hz, hr, hL⟩
      · cases hr; subst hL
        refine w_vs (join d3 g) [rdr q Tq vb (k + 1), bx b5 T5 [.int .i64 kd, .int .i64 0, .int .i64 0, strV [], .slice va l.length vc, .slice none 0 0], bx b4 T4 zVal] ((Vs.pick [3, 0, 1, 2] rfl).trans Vs.freeze) ?_
        (apply w_not; rfl; apply w_done0; apply w_ifF; rfl; apply w_exit)
        refine ⟨_, .mk 5 0 0 [] l [], k + 1, [], ⟨rfl, rfl, trivial⟩, RVal.close (v := .mk 5 0 0 [] l []) (show I64 5 from ⟨by decide, by decide⟩) i64_0 i64_0 (by simp) (hgr.rsl (R := RVal) mono_val (by omega) (Le.join_left _ _) (Le.join_right _ _)) RSl.nil, hck, by omega, shp_list hsl, (hdp _).2 hdl, ?_, by rw [k5]⟩
        rw [keyV_list, hbd, hdk2, hz]; simp
      · cases hr; subst hL
        (apply w_not; rfl; apply w_done0; apply w_ifT; rfl; apply w_skip; apply w_block)
        refine w_drawnV (d1 := d3) [bx b5 T5 [.int .i64 kd, .int .i64 0, .int .i64 0, strV [], .slice va l.length vc, .slice none 0 0]] [rdr q Tq vb k, bx b4 T4 zVal, g] (Vs.pick (L := [rdr q Tq vb k, bx b5 T5 [.int .i64 kd, .int .i64 0, .int .i64 0, strV [], .slice va l.length vc, .slice none 0 0], bx b4 T4 zVal, g]) [1, 0, 2, 3] rfl) ?_
        (apply w_fld; rfl; apply w_ld; rfl; exact hc_i 0 rfl rfl; apply w_mvp; rfl; apply w_mvi; rfl; apply w_sub; rfl; rfl; omega; omega)
        refine w_callE (A := [rdr q Tq vb k]) (B := [bx b4 T4 zVal, g]) rfl (show [Value.pointer _, Value.int .i64 (le - 1)] = _ by rw [hle1]) (ih (by omega) (hTm ht hl2) hb2 hbl hk) (fun d' L' h => ?_) (fun r d4 L' hl4 h => ?_) (fun c d4 L' _ h => ?_)
        · rcases h with ⟨_, _, _, h, _⟩ | ⟨h, _⟩
          · cases h
          · exact h.out rfl
        rotate_left
        · rcases h with ⟨_, _, _, h, _⟩ | ⟨h, hno⟩
          · cases h
          · exact ⟨d4, _, Vs.refl _ _, Or.inr ⟨h, fun x r hs hdx e => no_list (rest := b.drop k) hs hdx hsl (.inr ⟨by rw [hdk2]; exact fun e => hz (Option.some.inj e), hno⟩) (by rw [← e, hbd])⟩⟩
        obtain ⟨cs, y, k', hr, hR, hL, g1, g2, g3, g4, g5⟩ := h.resolve_right (fun h => h.1.ret)
        cases hr; subst hL
        have hyl := congrArg List.length g5
        have hyp := keyV_pos y
        simp only [List.length_append, List.length_drop] at hyl
        refine w_bsV rfl hR.len (fun b42 T42 => ?_)
        refine w_appL (R := RVal) 2 rfl rfl (GRow.mono (R := RVal) mono_val hgr hl4) rfl (GRow.lit1 hR.len hR) cell1_val (by omega) (by simp; omega) (by simp; omega) (fun v5 h5 o5 => ?_)
        obtain ⟨a5, c5, rfl⟩ := o5.val
        (apply w_fld; rfl; apply w_bar)
        refine w_stE 0 [.int .i64 kd, .int .i64 0, .int .i64 0, strV [], .slice a5 (l ++ [y]).length c5, .slice none 0 0] rfl rfl rfl rfl (Nat.le_of_ble_eq_true rfl) rfl rfl ?_
        refine w_doneE ⟨_, _, Vs.pick [1, 0, 2, 3] rfl, (l ++ [y], k'), _, h5, by simp only; omega, ⟨rfl, rfl, rfl, rfl, trivial⟩, hl2.trans hl4, g1, by simp only; omega, by simp; omega, ?_, ?_, ?_, o5, rfl⟩
        · intro z hz; rcases List.mem_append.1 hz with h | h
          · exact hsl z h
          · rw [List.mem_singleton.1 h]; exact g3
        · intro z hz; rcases List.mem_append.1 hz with h | h
          · exact hdl z h
          · rw [List.mem_singleton.1 h]; exact g4
        · simp only [keyVs_snoc, List.append_assoc]
          rw [hbd, g5]
    by_cases k6 : kd = 6
    · have hc7 : c = 7 := UInt8.toNat_inj.1 (show c.toNat = 7 by omega)
      rw [hc7] at hdk
      (apply w_fld; rfl; apply w_ld; rfl; exact hc_i 1 rfl rfl; apply w_done0; apply w_block; apply w_sq; apply w_sq; apply w_reg; apply w_eql; rfl; rfl; apply w_mvb; rfl; apply w_done0; refine w_ifdF rfl (by omega) ?_; apply w_sq; apply w_reg; apply w_eql; rfl; rfl; apply w_mvb; rfl; apply w_done0; refine w_ifdF rfl (by omega) ?_; apply w_reg; apply w_eql; rfl; rfl; apply w_mvb; rfl; apply w_done0; refine w_ifdF rfl (by omega) ?_; apply w_sq; apply w_reg; apply w_eql; rfl; rfl; apply w_mvb; rfl; apply w_done0; refine w_ifdF rfl (by omega) ?_; apply w_sq; apply w_reg; apply w_eql; rfl; rfl; apply w_mvb; rfl; apply w_done0; refine w_ifdF rfl (by omega) ?_; apply w_sq; apply w_reg; apply w_eql; rfl; rfl; apply w_mvb; rfl; apply w_done0; refine w_ifdF rfl (by omega) ?_; apply w_sq; apply w_reg; apply w_eql; rfl; rfl; apply w_mvb; rfl; apply w_done0; refine w_ifdT rfl (by omega) ?_; apply w_sq; apply w_block)
      refine w_loopV (α := List (List UInt8) × Nat) (fun _ _ => [(0, .pointer (some ⟨q, 0, none⟩)), (1, .int .i64 le), (4, .pointer (some ⟨b4, 0, none⟩)), (5, .pointer (some ⟨b5, 0, none⟩))])
        (fun x v h d2 L' => Le d' d2 ∧ x.2 ≤ b.length ∧ n ≤ x.2 ∧ x.1.length ≤ x.2 ∧ b.drop n = 7 :: (keyKs x.1 ++ b.drop x.2) ∧ GRow 1 RStr d2 v x.1 h ∧ L' = [rdr q Tq vb x.2, bx b5 T5 [.int .i64 kd, .int .i64 0, .int .i64 0, strV [], .slice none 0 0, v], bx b4 T4 zVal, h])
        (fun x => b.length - x.2) ([], n + 1) (.slice none 0 0) emp ⟨rfl, rfl, rfl, rfl, trivial⟩ ⟨Le.refl _, hc, by simp only; omega, Nat.zero_le _, hdk, GRow.nil, rfl⟩ ?_
      rintro ⟨ks, k⟩ v g ρ d2 L' ⟨hl2, hk, hnk, hlk, hbd, hgr, hL⟩
      subst hL
      simp only at hk hnk hlk hbd hgr ⊢
      obtain ⟨ka, kc, rfl⟩ := hgr.val
      have hb2 := RSl.mono (R := RByte) mono_byte hb hl2
      (apply w_sq; apply w_sq; apply w_reg; apply w_mvp; rfl)
      refine w_callE (A := [rdr q Tq vb k]) (B := [bx b5 T5 [.int .i64 kd, .int .i64 0, .int .i64 0, strV [], .slice none 0 0, .slice ka ks.length kc], bx b4 T4 zVal, g]) rfl rfl (h4 hb2 hk) (fun d' L' h => ?_) (fun r d3 L' _ h => ?_) (fun c d3 L' _ h => ?_)
      · rcases h with ⟨_, _, ⟨_, h, _⟩ | ⟨_, h, _⟩⟩ | ⟨_, h⟩
        · cases h
        · cases h
        · exact h.out rfl
      rotate_left
      · rcases h with ⟨_, _, ⟨_, h, _⟩ | ⟨_, h, _⟩⟩ | ⟨hkl, h⟩
        · cases h
        · cases h
        · exact ⟨d3, _, Vs.refl _ _, Or.inr ⟨h, fun x r hs hdx e => no_keys (ks := ks) (rest := b.drop k) hs (.inl (by rw [hkl]; simp)) (by rw [← e, hbd])⟩⟩
      obtain ⟨hck, hdd, h9⟩ := h.resolve_right (fun h => h.2.ret)
      clear h
      subst hdd
      have hdk2 := List.drop_eq_getElem_cons hck
      rcases h9 with ⟨hz, hr, hL⟩ | ⟨hz, hr, hL⟩
      · cases hr; subst hL
        rw [hdk2, hz] at hbd
        have hl3 : Le d3 (join d3 g) := Le.join_left _ _
        have hks : RSl 1 RStr (join d3 g) (.slice ka ks.length kc) ks := hgr.rsl (R := RStr) mono_str (by omega) (Le.join_left _ _) (Le.join_right _ _)
        have hb3 := RSl.mono (R := RByte) mono_byte hb2 hl3
        have ht3 := hTm (hTm ht hl2) hl3
        refine w_vs (join d3 g) [rdr q Tq vb (k + 1), bx b5 T5 [.int .i64 kd, .int .i64 0, .int .i64 0, strV [], .slice none 0 0, .slice ka ks.length kc], bx b4 T4 zVal, emp] ((Vs.pick [3, 0, 1, 2] rfl).trans (Vs.freeze.trans (Vs.emp.trans (Vs.pick [1, 2, 3, 0] rfl)))) ?_
        generalize join d3 g = d4 at hl3 hks hb3 ht3 ⊢
        clear hgr hb2
        (apply w_not; rfl; apply w_done0; apply w_ifF; rfl; apply w_exit; apply w_sq; apply w_reg; apply w_fld; rfl; apply w_ld; rfl; exact hc_i 1 rfl rfl; apply w_len; rfl; apply w_mvi; rfl; apply w_done0; apply w_block)
        refine w_loopV (α := List V × Nat) (fun x _ => [(0, .pointer (some ⟨q, 0, none⟩)), (1, .int .i64 le), (4, .pointer (some ⟨b4, 0, none⟩)), (5, .pointer (some ⟨b5, 0, none⟩)), (63, .int .i64 ks.length), (64, .int .i64 x.1.length)])
          (fun x v h d2 L' => Le d4 d2 ∧ x.2 ≤ b.length ∧ n ≤ x.2 ∧ x.1.length ≤ ks.length ∧ (∀ y ∈ x.1, shp y) ∧ (∀ y ∈ x.1, depthV y ≤ left) ∧ b.drop n = 7 :: (keyKs ks ++ 0 :: (keyVs x.1 ++ b.drop x.2)) ∧ GRow 6 RVal d2 v x.1 h ∧ L' = [rdr q Tq vb x.2, bx b5 T5 [.int .i64 kd, .int .i64 0, .int .i64 0, strV [], v, .slice ka ks.length kc], bx b4 T4 zVal, h])
          (fun x => ks.length - x.1.length) ([], k + 1) (.slice none 0 0) emp ⟨rfl, rfl, rfl, rfl, rfl, rfl, trivial⟩ ⟨Le.refl _, hck, by simp only; omega, Nat.zero_le _, (fun y h => absurd h (by simp)), (fun y h => absurd h (by simp)), hbd, GRow.nil, rfl⟩ ?_
        have hkn : ks.length ≤ 1000000000 := by omega
        clear hbd hdk2 hz hck hnk hk hlk
        rintro ⟨l, k⟩ v g ρ d5 L' ⟨hl5, hk, hnk, hll, hsl, hdl, hbd, hgr, hL⟩
        subst hL
        simp only at hk hnk hll hsl hdl hbd hgr ⊢
        obtain ⟨va, vc, rfl⟩ := hgr.val
        have hb5 := RSl.mono (R := RByte) mono_byte hb3 hl5
        have hnl : ks.length ≤ 140737488355328 := RSl.len_le hks
        by_cases hlt : l.length < ks.length
        · (apply w_sq; apply w_reg; apply w_lss; rfl; rfl; apply w_done0; apply w_sq; refine w_ifdT rfl (by omega) ?_; apply w_skip; apply w_sq; apply w_block)
          refine w_drawnV (d1 := d5) [bx b5 T5 [.int .i64 kd, .int .i64 0, .int .i64 0, strV [], .slice va l.length vc, .slice ka ks.length kc]] [rdr q Tq vb k, bx b4 T4 zVal, g] (Vs.pick (L := [rdr q Tq vb k, bx b5 T5 [.int .i64 kd, .int .i64 0, .int .i64 0, strV [], .slice va l.length vc, .slice ka ks.length kc], bx b4 T4 zVal, g]) [1, 0, 2, 3] rfl) ?_
          (apply w_fld; rfl; apply w_ld; rfl; exact hc_i 0 rfl rfl; apply w_mvp; rfl; apply w_mvi; rfl; apply w_sub; rfl; rfl; omega; omega)
          refine w_callE (A := [rdr q Tq vb k]) (B := [bx b4 T4 zVal, g]) rfl (show [Value.pointer _, Value.int .i64 (le - 1)] = _ by rw [hle1]) (ih (by omega) (hTm ht3 hl5) hb5 hbl hk) (fun d' L' h => ?_) (fun r d6 L' hl6 h => ?_) (fun c d6 L' _ h => ?_)
          · rcases h with ⟨_, _, _, h, _⟩ | ⟨h, _⟩
            · cases h
            · exact h.out rfl
          rotate_left
          · rcases h with ⟨_, _, _, h, _⟩ | ⟨h, hno⟩
            · cases h
            · exact ⟨d6, _, Vs.refl _ _, Or.inr ⟨h, fun x r hs hdx e => no_vals (ks := ks) (l := l) (rest := b.drop k) hs hdx hsl hlt hno (by rw [← e, hbd])⟩⟩
          obtain ⟨cs, y, k', hr, hR, hL, g1, g2, g3, g4, g5⟩ := h.resolve_right (fun h => h.1.ret)
          cases hr; subst hL
          refine w_bsV rfl hR.len (fun b42 T42 => ?_)
          refine w_appL (R := RVal) 2 rfl rfl (GRow.mono (R := RVal) mono_val hgr hl6) rfl (GRow.lit1 hR.len hR) cell1_val (by omega) (by simp; omega) (by simp; omega) (fun v5 h5 o5 => ?_)
          obtain ⟨a5, c5, rfl⟩ := o5.val
          (apply w_fld; rfl; apply w_bar)
          refine w_stE 0 [.int .i64 kd, .int .i64 0, .int .i64 0, strV [], .slice a5 (l ++ [y]).length c5, .slice ka ks.length kc] rfl rfl rfl rfl (Nat.le_of_ble_eq_true rfl) rfl rfl ?_
          apply w_done
          apply w_reg
          refine w_vs d6 [rdr q Tq vb k', bx b5 T5 [.int .i64 kd, .int .i64 0, .int .i64 0, strV [], .slice a5 (l ++ [y]).length c5, .slice ka ks.length kc], bx b4 T4 zVal, h5] (Vs.pick [1, 0, 2, 3] rfl) ?_
          (apply w_add; rfl; rfl; omega; omega; apply w_mvi; rfl; apply w_done0)
          refine ⟨(l ++ [y], k'), _, h5, by simp; omega, ⟨rfl, rfl, rfl, rfl, rfl, int_eq (by simp), trivial⟩, hl5.trans hl6, g1, by simp only; omega, by simp; omega, ?_, ?_, ?_, o5, rfl⟩
          · intro z hz; rcases List.mem_append.1 hz with h | h
            · exact hsl z h
            · rw [List.mem_singleton.1 h]; exact g3
          · intro z hz; rcases List.mem_append.1 hz with h | h
            · exact hdl z h
            · rw [List.mem_singleton.1 h]; exact g4
          · simp only [keyVs_snoc, List.append_assoc]
            rw [hbd, g5]
        · have hle' : ks.length = l.length := by omega
          apply w_sq; apply w_reg
          refine w_vs (join d5 g) [rdr q Tq vb k, bx b5 T5 [.int .i64 kd, .int .i64 0, .int .i64 0, strV [], .slice va l.length vc, .slice ka ks.length kc], bx b4 T4 zVal] ((Vs.pick [3, 0, 1, 2] rfl).trans Vs.freeze) ?_
          (apply w_lss; rfl; rfl; apply w_done0; apply w_sq; refine w_ifdF rfl (by omega) ?_; apply w_exit)
          refine ⟨_, .mk 6 0 0 [] l ks, k, [], ⟨rfl, rfl, trivial⟩, RVal.close (v := .mk 6 0 0 [] l ks) (show I64 6 from ⟨by decide, by decide⟩) i64_0 i64_0 (by simp) (hgr.rsl (R := RVal) mono_val (by omega) (Le.join_left _ _) (Le.join_right _ _)) (RStrs.mono hks (hl5.trans (Le.join_left _ _))), hk, hnk, shp_map hsl hle', (hdp _).2 hdl, ?_, by rw [k6]⟩
          rw [keyV_map, hbd]; simp
      · cases hr; subst hL
        (apply w_not; rfl; apply w_done0; apply w_ifT; rfl; apply w_skip; apply w_block; apply w_sq; apply w_sq; apply w_reg; apply w_mvp; rfl)
        refine w_callE (A := [rdr q Tq vb k]) (B := [bx b5 T5 [.int .i64 kd, .int .i64 0, .int .i64 0, strV [], .slice none 0 0, .slice ka ks.length kc], bx b4 T4 zVal, g]) rfl rfl (h1 hb2 hk) (fun d' L' h => KNext_out h) (fun r d4 L' _ h => ?_) (fun c d4 L' _ h => ?_)
        rotate_left
        · rcases h with ⟨_, h, _⟩ | ⟨hkl, h⟩
          · cases h
          · omega
        obtain ⟨_, hr, hdd, hL⟩ := h.resolve_right (fun h => h.2.ret)
        clear h
        cases hr; subst hdd; subst hL
        by_cases h5 : b[k] = 5
        · have h5' : ((b[k].toNat : Nat) : Int) = 5 := by rw [h5]; rfl
          (apply w_neq; rfl; rfl; apply w_done0; refine w_ifdF rfl (by omega) ?_; apply w_skip)
          refine w_drawnV (d1 := d4) [bx b5 T5 [.int .i64 kd, .int .i64 0, .int .i64 0, strV [], .slice none 0 0, .slice ka ks.length kc]] [rdr q Tq vb (k + 1), bx b4 T4 zVal, g] (Vs.pick (L := [rdr q Tq vb (k + 1), bx b5 T5 [.int .i64 kd, .int .i64 0, .int .i64 0, strV [], .slice none 0 0, .slice ka ks.length kc], bx b4 T4 zVal, g]) [1, 0, 2, 3] rfl) ?_
          (apply w_fld; rfl; apply w_ld; rfl; exact hc_i 0 rfl rfl; apply w_mvp; rfl)
          refine w_callE (A := [rdr q Tq vb (k + 1)]) (B := [bx b4 T4 zVal, g]) rfl rfl (h3 hb2 hck) (fun d' L' h => ?_) (fun r d6 L' hl6 h => ?_) (fun c d6 L' _ h => ?_)
          · rcases h with ⟨_, _, h, _⟩ | ⟨h, _⟩
            · cases h
            · exact h.out rfl
          rotate_left
          · rcases h with ⟨_, _, h, _⟩ | ⟨h, hno⟩
            · cases h
            · exact ⟨d6, _, Vs.refl _ _, Or.inr ⟨h, fun x r hs hdx e => no_keys (ks := ks) (rest := b.drop k) hs (.inr ⟨b[k], _, hdk2, hz, .inr hno⟩) (by rw [← e, hbd])⟩⟩
          obtain ⟨s, k', hr, hdd, hL, g1, g2, g3⟩ := h.resolve_right (fun h => h.1.ret)
          clear h
          cases hr; subst hdd; subst hL
          have hsl := congrArg List.length g3
          have hsk := keyT_len' s
          simp only [List.length_append, List.length_drop] at hsl
          refine w_bs1 (v0 := strV s) rfl rfl (fun b58 T58 => ?_)
          refine w_appL (R := RStr) 2 rfl rfl hgr rfl (GRow.lit1 (R := RStr) rfl ⟨rfl, by omega⟩) cell1_str (by omega) (by simp; omega) (by simp; omega) (fun v5 h6 o5 => ?_)
          obtain ⟨a5, c5, rfl⟩ := o5.val
          (apply w_fld; rfl; apply w_bar)
          refine w_stE 0 [.int .i64 kd, .int .i64 0, .int .i64 0, strV [], .slice none 0 0, .slice a5 (ks ++ [s]).length c5] rfl rfl rfl rfl (Nat.le_of_ble_eq_true rfl) rfl rfl ?_
          refine w_doneE ⟨_, _, Vs.pick [1, 0, 2, 3] rfl, (ks ++ [s], k'), _, h6, by simp only; omega, ⟨rfl, rfl, rfl, rfl, trivial⟩, hl2, g1, by simp only; omega, by simp; omega, ?_, o5, rfl⟩
          simp only [keyKs_append, List.append_assoc]
          rw [hbd, hdk2, h5, g3]; simp [keyKs]
        · have h5' : ((b[k].toNat : Nat) : Int) ≠ 5 := fun e => h5 (UInt8.toNat_inj.1 (show b[k].toNat = 5 by omega))
          (apply w_neq; rfl; rfl; apply w_done0; refine w_ifdT rfl (by omega) ?_; apply w_reg; apply w_mki)
          exact w_pan rfl ⟨_, _, Vs.refl _ _, Or.inr ⟨⟨_, _, rfl⟩, fun x r hs _ e => no_keys (ks := ks) (rest := b.drop k) hs (.inr ⟨b[k], _, hdk2, hz, .inl h5⟩) (by rw [← e, hbd])⟩⟩
    (apply w_fld; rfl; apply w_ld; rfl; exact hc_i 1 rfl rfl; apply w_done0; apply w_block; apply w_sq; apply w_sq; apply w_reg; apply w_eql; rfl; rfl; apply w_mvb; rfl; apply w_done0; refine w_ifdF rfl (by omega) ?_; apply w_sq; apply w_reg; apply w_eql; rfl; rfl; apply w_mvb; rfl; apply w_done0; refine w_ifdF rfl (by omega) ?_; apply w_reg; apply w_eql; rfl; rfl; apply w_mvb; rfl; apply w_done0; refine w_ifdF rfl (by omega) ?_; apply w_sq; apply w_reg; apply w_eql; rfl; rfl; apply w_mvb; rfl; apply w_done0; refine w_ifdF rfl (by omega) ?_; apply w_sq; apply w_reg; apply w_eql; rfl; rfl; apply w_mvb; rfl; apply w_done0; refine w_ifdF rfl (by omega) ?_; apply w_sq; apply w_reg; apply w_eql; rfl; rfl; apply w_mvb; rfl; apply w_done0; refine w_ifdF rfl (by omega) ?_; apply w_sq; apply w_reg; apply w_eql; rfl; rfl; apply w_mvb; rfl; apply w_done0; refine w_ifdF rfl (by omega) ?_; apply w_reg; apply w_mki)
    exact w_pan rfl ⟨_, _, Vs.refl _ _, Or.inr ⟨⟨_, _, rfl⟩, fun x r hs _ e => no_kind (c := c) hs (by omega) (by rw [← e, hdk])⟩⟩
end Go.Gk.Val
end

section
namespace Go.Gk
open Go

def KeptA (X : List Nat) (a0 a : Act) : Prop := ∀ t, t ∉ X → a.tmps[t]? = a0.tmps[t]?
theorem KeptA.put {X : List Nat} {a0 a : Act} (h : KeptA X a0 a) {dst : Option Nat} (hd : ∀ t, dst = some t → t ∈ X) (v : Value) : KeptA X a0 (a.put dst v) := by
  intro t ht
  cases dst with
  | none => exact h t ht
  | some d =>
    have hne : d ≠ t := fun e => ht (e ▸ hd d rfl)
    show (a.tmps.setIfInBounds d v)[t]? = _
    rw [Array.getElem?_setIfInBounds, if_neg hne]
    exact h t ht
theorem KeptA.defer {X : List Nat} {a0 a : Act} (h : KeptA X a0 a) (l : List Deferred) : KeptA X a0 { a with defers := l } := h
def withK (X : List Nat) (a0 : Act) (Q : Exit → Act → World → Prop) : Exit → Act → World → Prop := fun e a w => Q e a w ∧ (e = .outgrown ∨ KeptA X a0 a)
theorem letsOut_k {X : List Nat} {a0 : Act} {Q : Exit → Act → World → Prop} (h : LetsOut Q) : LetsOut (withK X a0 Q) := let ⟨a, w, h⟩ := h; ⟨a, w, h, .inl rfl⟩
section
variable {P : Program} {ops : Array Oper} {Q : Exit → Act → World → Prop} {X : List Nat} {a0 : Act}
theorem wp_kept {o : Oper} {a : Act} {w : World} {K : Act → World → Prop} (hd : ∀ t, o.dst = some t → t ∈ X) (hk : KeptA X a0 a) (h : o.wp P a w K Q) : o.wp P a w (fun a w => K a w ∧ KeptA X a0 a) (withK X a0 Q) := by
  unfold Oper.wp at *
  generalize (execOp a.eval o).run P w = r at *
  cases r with
  | ok n w' =>
    cases n <;> simp only [Oper.upon] at h ⊢ <;>
      first
        | exact ⟨h, hk.put hd _⟩
        | exact ⟨h, (hk.defer _).put hd _⟩
        | exact Calls.mono h (fun e w'' he => by
            cases e with
            | returned v => exact ⟨he, hk.put hd v⟩
            | panicked c => exact ⟨he, .inr hk⟩
            | outgrown => exact letsOut_k he)
        | exact Rows.mono h (fun _ _ he => ⟨he, hk.put hd _⟩)
        | exact h
  | halt x w' => cases x <;> simp only [Oper.upon] at h ⊢ <;> first | exact ⟨h, .inr hk⟩ | exact h
theorem wpOp_kept {i : Nat} {a : Act} {w : World} {K : Act → World → Prop} (hd : ∀ (o : Oper), ops[i]? = some o → ∀ t, o.dst = some t → t ∈ X) (hk : KeptA X a0 a) (h : wpOp P ops Q i K a w) : wpOp P ops (withK X a0 Q) i (fun a w => K a w ∧ KeptA X a0 a) a w := by
  unfold wpOp at *
  split
  · exact ⟨by simpa [*] using h, hk⟩
  · rename_i o ho
    simp only [ho] at h
    split
    · rename_i hw; simp only [hw, if_true] at h; exact h.imp (wp_kept (hd o ho) hk) (fun h => ⟨h.1, letsOut_k h.2⟩)
    · rename_i hw; simp only [hw] at h; exact ⟨h, hk.put (hd o ho) _⟩
theorem wpOps_kept (hd : ∀ (i : Nat) (o : Oper), ops[i]? = some o → ∀ t, o.dst = some t → t ∈ X) : ∀ (l : List Nat) (a : Act) (w : World), KeptA X a0 a → wpOps P ops Q l a w → wpOps P ops (withK X a0 Q) l a w
  | [], a, w, hk, h => ⟨h, .inr hk⟩
  | i :: l, a, w, hk, h => by
    rw [wpOps_cons] at h ⊢
    exact wpOp_mono (fun a w h => wpOps_kept hd l a w h.2 h.1) (wpOp_kept (hd i) hk h)
theorem wpAny_kept (hd : ∀ (i : Nat) (o : Oper), ops[i]? = some o → ∀ t, o.dst = some t → t ∈ X) : ∀ (k : Nat) (listed : Array Bool) (a : Act) (w : World), KeptA X a0 a → wpAny P .any ops Q k listed a w → wpAny P .any ops (withK X a0 Q) k listed a w
  | 0, _, _, _, hk, h => ⟨h.1, h.2, .inr hk⟩
  | k + 1, _, a, w, hk, h => ⟨fun e => ⟨h.1 e, .inr hk⟩, fun i hi => wpOp_mono (fun a w h => wpAny_kept hd k _ a w h.2 h.1) (wpOp_kept (hd i) hk (h.2 i hi))⟩
end
def dstsC : Code → List Nat
  | .region _ ops _ => ops.toList.filterMap (·.dst)
  | .seq a b => dstsC a ++ dstsC b
  | .cond _ a b => dstsC a ++ dstsC b
  | .block _ a => dstsC a
  | .loop a => dstsC a
  | _ => []
theorem dsts_region {id : Nat} {ops : Array Oper} {dr : Bool} {X : List Nat} (h : ∀ t ∈ dstsC (.region id ops dr), t ∈ X) : ∀ (i : Nat) (o : Oper), ops[i]? = some o → ∀ t, o.dst = some t → t ∈ X := by
  intro i o ho t ht
  refine h t ?_
  simp only [dstsC, List.mem_filterMap]
  exact ⟨o, Array.mem_toList_iff.2 (Array.mem_of_getElem? ho), ht⟩
theorem region_kept {pr : Bool} {P : Program} {n : Nat} {ds : List Deferred} {ops : Array Oper} {Q : GPost} {F : List PHeap} {W0 : World} {d0 : PHeap} {id : Nat} (hm : P.follows .mixedOrders = true) {X : List Nat} {a0 : Act}
    (hX : ∀ (i : Nat) (o : Oper), ops[i]? = some o → ∀ t, o.dst = some t → t ∈ X) {s : GS} (hs : decR pr P n ops true = some s) {ρ : Env} {d : PHeap} {L Ls : List PHeap} {W : World} (h : gws P Q.pan Q.n s Ls ρ d L) (hOk : Ok (d :: (L ++ (Ls ++ F))) W) (hle : Le d0 d) (hk : Keep W0 W) (hka : KeptA X a0 (act n ρ ds)) :
    (Code.region id ops true).wp P (withK X a0 (lift n ds F W0 d0 Q)) (act n ρ ds) W := by
  simp only [decR] at hs
  split at hs
  · rename_i hc
    simp only [Bool.and_eq_true, decide_eq_true_eq] at hc
    obtain ⟨⟨⟨h1, h2⟩, h3⟩, h4⟩ := hc
    refine wp_region_any hm (wpAny_kept hX _ _ _ _ hka (AnyB.any _ _ _ _ ((any_sound h1 h2 _ true false _ s ρ d L Ls ops.size _ h4 hs (fun e => by cases e) h hOk.drew hle ?_ h3).1 rfl)))
    exact hk.trans ⟨rfl, rfl, rfl, Nat.le_refl _⟩
  · cases hs
theorem gwp_soundK {pr : Bool} {P : Program} {n : Nat} {ds : List Deferred} {F : List PHeap} {W0 : World} {d0 : PHeap} (hm : P.follows .mixedOrders = true) {X : List Nat} {a0 : Act} :
    ∀ (c : Code) (Q : GPost) (ρ : Env) (d : PHeap) (L : List PHeap) (W : World), (∀ t ∈ dstsC c, t ∈ X) → KeptA X a0 (act n ρ ds) → gwp P (decC pr P n c) Q ρ d L → Ok (d :: (L ++ F)) W → Le d0 d → Keep W0 W → c.wp P (withK X a0 (lift n ds F W0 d0 Q)) (act n ρ ds) W := by
  intro c
  induction c with
  | skip =>
    intro Q ρ d L W hX hka h hOk hle hk
    exact wp_skip ⟨⟨ρ, d, L, rfl, hOk, hle, hk, h⟩, .inr hka⟩
  | region id ops drawn =>
    intro Q ρ d L W hX hka h hOk hle hk
    have hX' := dsts_region hX
    simp only [decC] at h
    cases hs : decR pr P n ops drawn with
    | none => rw [hs] at h; exact h.elim
    | some s =>
    rw [hs] at h
    cases drawn with
    | false =>
      simp only [decR] at hs
      exact wp_region (wpOps_kept hX' _ _ _ hka (straight_sound _ s hs ρ d L W h hOk hle hk))
    | true =>
      obtain ⟨d1, Ls, L1, hv, h⟩ := h
      have hOk1 := hv.2 F W hOk
      refine region_kept hm hX' hs h (hOk1.perm (List.Perm.cons d1 ?_)) (hle.trans hv.1) hk hka
      rw [← List.append_assoc]
      exact (List.perm_append_comm).append_right F
  | seq a b iha ihb =>
    intro Q ρ d L W hX hka h hOk hle hk
    refine wp_seq (wp_mono (iha _ ρ d L W (fun t ht => hX t (List.mem_append_left _ ht)) hka h hOk hle hk) ?_)
    intro e a w hq
    cases e with
    | normal =>
      obtain ⟨⟨ρ', d', L', rfl, h1, h2, h3, h4⟩, hka'⟩ := hq
      exact ihb Q ρ' d' L' w (fun t ht => hX t (List.mem_append_right _ ht)) (hka'.resolve_left (by simp)) h4 h1 h2 h3
    | _ => exact hq
  | cond c a b iha ihb =>
    intro Q ρ d L W hX hka h hOk hle hk
    simp only [decC] at h
    split at h
    · rename_i hc
      obtain ⟨t, ht, h1, h2⟩ := h
      exact wp_cond_split (by rw [act_eval hc]; exact ht) (fun e => iha Q ρ d L W (fun t ht => hX t (List.mem_append_left _ ht)) hka (h1 e) hOk hle hk) (fun e => ihb Q ρ d L W (fun t ht => hX t (List.mem_append_right _ ht)) hka (h2 e) hOk hle hk)
    · exact h.elim
  | block id a iha =>
    intro Q ρ d L W hX hka h hOk hle hk
    refine wp_block (wp_mono (iha _ ρ d L W hX hka h hOk hle hk) ?_)
    intro e a w hq
    cases e with
    | exit i =>
      obtain ⟨⟨ρ', d', L', rfl, h1, h2, h3, h4⟩, hka'⟩ := hq
      have hka' := hka'.resolve_left (by simp)
      simp only [Exit.inBlock]
      by_cases e : i = id
      · simp only [e, if_true] at h4 ⊢
        exact ⟨⟨ρ', d', L', rfl, h1, h2, h3, h4⟩, .inr hka'⟩
      · simp only [if_neg e] at h4 ⊢
        exact ⟨⟨ρ', d', L', rfl, h1, h2, h3, h4⟩, .inr hka'⟩
    | _ => exact hq
  | loop a iha =>
    intro Q ρ d L W hX hka h hOk hle hk
    obtain ⟨I, ⟨m, hI⟩, round⟩ := h
    refine wp_loop_ghost (fun m a w => ∃ ρ d L, a = act n ρ ds ∧ Ok (d :: (L ++ F)) w ∧ Le d0 d ∧ Keep W0 w ∧ I m ρ d L ∧ KeptA X a0 a) m ⟨ρ, d, L, rfl, hOk, hle, hk, hI, hka⟩ ?_
    rintro m a w ⟨ρ', d', L', rfl, h1, h2, h3, h4, hka'⟩
    refine wp_mono (iha _ ρ' d' L' w hX hka' (round m ρ' d' L' h4) h1 h2 h3) ?_
    intro e a w hq
    cases e with
    | normal =>
      obtain ⟨⟨ρ'', d'', L'', rfl, k1, k2, k3, m', k4, k5⟩, hka''⟩ := hq
      exact ⟨m', k4, ρ'', d'', L'', rfl, k1, k2, k3, k5, hka''.resolve_left (by simp)⟩
    | _ => exact hq
  | exit id =>
    intro Q ρ d L W hX hka h hOk hle hk
    exact wp_exit ⟨⟨ρ, d, L, rfl, hOk, hle, hk, h⟩, .inr hka⟩
  | ret =>
    intro Q ρ d L W hX hka h hOk hle hk
    exact wp_ret ⟨⟨ρ, d, L, rfl, hOk, hle, hk, h⟩, .inr hka⟩
  | _ => intro Q ρ d L W hX hka h; exact h.elim
end Go.Gk
end

section
namespace Go.Gk
open Go

structure GFunD where
  n : Nat
  res : List GRes
  a : GCode
  fd : Nat
  g : FuncId
  caps : List Nat
  c : GCode
structure GFunV where
  n : Nat
  r : Nat
  t : Nat
  c : GCode
def capsOf (n : Nat) : List Operand → Option (List Nat)
  | [] => some []
  | .tmp t :: l => if t < n then (capsOf n l).map (t :: ·) else none
  | _ :: _ => none
def rslot : GRes → Nat
  | .tmp t => t
  | .cell t _ => t
def decDf (n : Nat) (ops : List Oper) : Option (Nat × FuncId × List Nat) :=
  match ops with
  | [o1, o2] => match o1.dst, o1.op, o1.guard, o2.dst, o2.op, o2.guard with
    | some fd, .makeFunc (.func g) first caps, none, none, .defer ⟨.value (.tmp fd'), args, _⟩, none =>
      if first.size = 0 ∧ args.size = 0 ∧ fd = fd' ∧ fd < n then (capsOf n caps.toList).map fun cs => (fd, g, cs) else none
    | _, _, _, _, _, _ => none
  | _ => none
def ifaceT (P : Program) (t : TypeId) : Bool := match P.underlying t with | some (.interface _) => true | _ => false
def decRv (P : Program) (n : Nat) (t : Nat) (ops : List Oper) : Option (Nat × TypeId) :=
  match ops with
  | [o1, o2] => match o1.dst, o1.op, o1.guard, o2.dst, o2.op, o2.guard with
    | some r, .call ⟨.builtin .recover, args, _⟩, none, some t', .binOp .neq ty (.tmp r') (.const .nilIface) _, none =>
      if args.size = 0 ∧ r = r' ∧ t = t' ∧ r < n ∧ t < n ∧ ifaceT P ty = true then some (r, ty) else none
    | _, _, _, _, _, _ => none
  | _ => none
def decD (pr : Bool) (P : Program) (f : FuncId) : Option GFunD :=
  match P.funcs[f]? with
  | some fn =>
    if fn.name == "runtime.NumGoroutine" || !P.follows .mixedOrders then none else
    match fn.body with
    | some (.seq a (.seq (.region _ ops false) c)) =>
      match decDf fn.ntmps ops.toList, fn.results.toList.mapM (decRes P fn.ntmps) with
      | some (fd, g, cs), some rs => if rs.all (fun r => !(dstsC c).contains (rslot r)) then some ⟨fn.ntmps, rs, decC pr P fn.ntmps a, fd, g, cs, decC pr P fn.ntmps c⟩ else none
      | _, _ => none
    | _ => none
  | none => none
def decV (pr : Bool) (P : Program) (f : FuncId) : Option GFunV :=
  match P.funcs[f]? with
  | some fn =>
    if fn.name == "runtime.NumGoroutine" || !P.follows .mixedOrders then none else
    match fn.body with
    | some (.seq (.region _ ops false) (.cond (.tmp t) x .skip)) => if fn.results.size = 0 then (decRv P fn.ntmps t ops.toList).map fun r => ⟨fn.ntmps, r.1, t, decC pr P fn.ntmps x⟩ else none
    | _ => none
  | none => none

theorem act_init {args : List Value} {n : Nat} (ha : args.length ≤ n) : ({ tmps := args.toArray ++ Array.replicate (n - args.toArray.size) undef, defers := [] } : Act) = act n (env0 args) [] := by
  simp only [act, Act.mk.injEq, and_true]
  apply Array.ext
  · simp at ha ⊢; omega
  · intro i h1 h2
    simp only [Array.getElem_ofFn, env0]
    by_cases hi : i < args.length
    · rw [Array.getElem_append_left (by simpa using hi)]; simp [hi]
    · rw [Array.getElem_append_right (by simpa using hi)]; simp [List.getD, List.getElem?_eq_none (Nat.le_of_not_lt hi)]
theorem resV_run {P : Program} {n : Nat} {fn : Func} {rs : List GRes} (hr : fn.results.toList.mapM (decRes P n) = some rs) {ρ : Env} {ds : List Deferred} {d : PHeap} {L F : List PHeap} {W : World} (hOk : Ok (d :: (L ++ F)) W) {vs : List Value} (h : resAll ρ (HC d L) rs vs) :
    (results fn (act n ρ ds).tmps).run P W = .ok (resV vs) W := by
  have hl : ∀ a v, HC d L a v → W.cell? a = some v := fun a v hc => hc.cell hOk.head (fun q hq => hOk.2 q (by simp [hq]))
  have := results_run (P := P) (n := n) (ρ := ρ) (ds := ds) hl fn.results.toList rs vs hr h
  rw [results_eq, Array.mapM_eq_mapM_toList]
  simp only [Sem.run_bind, Sem.run_map, this, Result.andThen, Sem.run_pure]
  cases vs with
  | nil => rfl
  | cons v vs => cases vs with
    | nil => rfl
    | cons v' vs => rfl
theorem results_kept {P : Program} {n : Nat} {fn : Func} {rs : List GRes} (hr : fn.results.toList.mapM (decRes P n) = some rs) {t1 t2 : Array Value} (h : ∀ r ∈ rs, t1[rslot r]? = t2[rslot r]?) : results fn t1 = results fn t2 := by
  rw [results_eq, results_eq, Array.mapM_eq_mapM_toList, Array.mapM_eq_mapM_toList]
  have : fn.results.toList.mapM (res1 t1) = fn.results.toList.mapM (res1 t2) := by
    revert h
    generalize fn.results.toList = l at *
    induction l generalizing rs with
    | nil => intro _; rfl
    | cons r l ih =>
      intro h
      simp only [List.mapM_cons, Option.bind_eq_bind, Option.bind_eq_some_iff, Option.pure_def, Option.some.injEq] at hr
      obtain ⟨g, hg, gs, hgs, rfl⟩ := hr
      simp only [List.mapM_cons, ih hgs (fun r hr => h r (List.mem_cons_of_mem _ hr))]
      have h0 := h g List.mem_cons_self
      have e : res1 t1 r = res1 t2 r := by
        cases r with
        | tmp t =>
          simp only [decRes] at hg
          split at hg <;> cases hg
          have h0 : t1[t]? = t2[t]? := h0
          simp only [res1, Array.getD_eq_getD_getElem?, h0]
        | cell t ty =>
          simp only [decRes] at hg
          split at hg <;> try cases hg
          simp only [Option.map_eq_some_iff] at hg
          obtain ⟨m, hm, rfl⟩ := hg
          have h0 : t1[t]? = t2[t]? := h0
          simp only [res1, Array.getD_eq_getD_getElem?, h0]
      rw [e]
  rw [this]

theorem capsOf_eval {n : Nat} {ρ : Env} {ds : List Deferred} : ∀ {l : List Operand} {cs : List Nat}, capsOf n l = some cs → l.map (act n ρ ds).eval = cs.map ρ
  | [], cs, h => by cases h; rfl
  | .tmp t :: l, cs, h => by
    simp only [capsOf] at h
    split at h <;> try cases h
    rename_i ht
    simp only [Option.map_eq_some_iff] at h
    obtain ⟨cs', h, rfl⟩ := h
    have e : (act n ρ ds).eval (.tmp t) = ρ t := act_eval (x := .tmp t) (by simpa [opndOk] using ht)
    simp only [List.map_cons, e, capsOf_eval h]
  | .const _ :: l, cs, h => by cases h
  | .global _ :: l, cs, h => by cases h
  | .func _ :: l, cs, h => by cases h


def isIf : Value → Bool
  | .iface _ _ => true
  | _ => false
theorem decRv_spec {P : Program} {n t : Nat} {ops : Array Oper} {r : Nat × TypeId} (h : decRv P n t ops.toList = some r) : ∃ o1 o2 ats y, ops = #[o1, o2] ∧ o1.dst = some r.1 ∧ o1.op = .call ⟨.builtin .recover, #[], ats⟩ ∧ o1.guard = none ∧ o2.dst = some t ∧ o2.op = .binOp .neq r.2 (.tmp r.1) (.const .nilIface) y ∧ o2.guard = none ∧ r.1 < n ∧ t < n ∧ ∃ m, P.underlying r.2 = some (.interface m) := by
  obtain ⟨ops⟩ := ops
  simp only [decRv] at h
  split at h <;> try cases h
  rename_i o1 o2
  split at h <;> try cases h
  rename_i h1 h2 h3 h4 h5 h6
  split at h <;> cases h
  rename_i hc
  obtain ⟨k1, k2, k3, k4, k5, k6⟩ := hc
  subst k2; subst k3
  have k1 := Array.eq_empty_of_size_eq_zero k1
  subst k1
  exact ⟨o1, o2, _, _, by simp_all, h1, h2, h3, h4, h5, h6, k4, k5, by unfold ifaceT at k6; split at k6 <;> first | exact ⟨_, ‹_›⟩ | cases k6⟩
theorem recover_run {P : Program} {o : Oper} {a : Act} {W : World} {ats : Array TypeId} (h : o.op = .call ⟨.builtin .recover, #[], ats⟩) : (execOp a.eval o).run P W = .ok .recover W := by
  simp [execOp, h, resolve, invoke, builtin, Result.andThen]
theorem equalIn_nilIface {P : Program} {t : TypeId} {m : Array (String × TypeId)} (h : P.underlying t = some (.interface m)) {v : Value} (hv : v = .nilIface ∨ ∃ t x, v = .iface t x) (d : Nat) (W : World) : (Op.equalIn (d + 1) t v .nilIface).run P W = .ok (!isIf v) W := by
  rcases hv with rfl | ⟨u, x, rfl⟩ <;> simp [Op.equalIn, run_underlying h, Result.andThen, isIf]
theorem equal_nilIface {P : Program} {t : TypeId} {m : Array (String × TypeId)} (h : P.underlying t = some (.interface m)) {v : Value} (hv : v = .nilIface ∨ ∃ t x, v = .iface t x) (W : World) : (Op.equal t v .nilIface).run P W = .ok (!isIf v) W := equalIn_nilIface h hv 9999 W
theorem neqn_run {P : Program} {o : Oper} {a : Act} {W : World} {r : Nat} {ty y : TypeId} (h : o.op = .binOp .neq ty (.tmp r) (.const .nilIface) y) {m : Array (String × TypeId)} (hm : P.underlying ty = some (.interface m)) {v : Value} (hv : a.eval (.tmp r) = v) (hk : v = .nilIface ∨ ∃ t x, v = .iface t x) : (execOp a.eval o).run P W = .ok (.value (.bool (isIf v))) W := by
  have hn : a.eval (.const .nilIface) = .nilIface := rfl
  generalize a.eval = e at hv hn
  have hq := equal_nilIface (P := P) hm hk W
  rcases hk with rfl | ⟨t, x, rfl⟩ <;> simp only [isIf] at hq <;> simp [execOp, h, hv, hn, binOp, eqGuard, hq, Result.andThen, isIf]


section
variable {pr : Bool} {P : Program}
theorem closure_top {n t : Nat} {ops : Array Oper} {r : Nat × TypeId} (hs : decRv P n t ops.toList = some r) {id : Nat} {a : Act} {cs cs' : List Frame} {W : World} {v : Value} {Q : Exit → Act → List Frame → World → Prop} (hv : v = .nilIface ∨ ∃ t x, v = .iface t x)
    (hr : recoverD cs = some (v, cs') ∨ (recoverD cs = none ∧ cs' = cs ∧ v = .nilIface)) (hn : a.tmps.size = n)
    (h : Q .normal ((a.put (some r.1) v).put (some t) (.bool (isIf v))) cs' W) : (Code.region id ops false).wpS P Q a cs W := by
  obtain ⟨o1, o2, ats, y, rfl, h1, h2, h3, h4, h5, h6, h7, h8, m, h9⟩ := decRv_spec hs
  apply wpS_region
  have e1 : ∀ ys, Region.wanted o1 ys = true := fun ys => by simp [Region.wanted, h3]
  have e2 : ∀ ys, Region.wanted o2 ys = true := fun ys => by simp [Region.wanted, h6]
  have hev : (a.put (some r.1) v).eval (.tmp r.1) = v := by
    simp [Act.eval, Act.put, hn, h7]
  have n2 := neqn_run (P := P) (W := W) h5 h9 hev hv
  have l : List.range (#[o1, o2] : Array Oper).size = [0, 1] := rfl
  rw [l]
  have g0 : (#[o1, o2] : Array Oper)[0]? = some o1 := rfl
  have g1 : (#[o1, o2] : Array Oper)[1]? = some o2 := rfl
  simp only [wpOpsS, g0, e1, if_true, recover_run h2, h1]
  rcases hr with hr | ⟨hr, rfl, rfl⟩
  · simp only [hr, g1, e2, if_true, n2, Oper.upon, h4]
    exact h
  · simp only [hr, g1, e2, if_true, n2, Oper.upon, h4]
    exact h

theorem act_put2 {n : Nat} {ρ : Env} {ds : List Deferred} {r t : Nat} (hr : r < n) (ht : t < n) (v w : Value) : ((act n ρ ds).put (some r) v).put (some t) w = act n (upd (upd ρ r v) t w) ds := by
  rw [act_put (d := some r) (fun _ e => by cases e; exact hr), act_put (d := some t) (fun _ e => by cases e; exact ht)]
  rfl
def clPost (K : PHeap → List PHeap → Prop) : GPost := { n := fun _ => K, ret := fun _ => K, ex := fun _ _ _ _ => False, pan := fun _ _ _ => False }
theorem closure_pan {f : FuncId} {g : GFunV} (hd : decV pr P f = some g) {args : List Value} (ha : args.length ≤ g.n) {F : List PHeap} {W : World} {d : PHeap} {L : List PHeap} {t : TypeId} {v : Value} {K : PHeap → List PHeap → Prop}
    (h : gwp P g.c (clPost K) (upd (upd (env0 args) g.r (.iface t v)) g.t (.bool true)) d L) (hOk : Ok (d :: (L ++ F)) W) :
    CallsD P f args.toArray (.panicking [{ v := .iface t v, recovered := false }]) W fun e u' w' => (∃ r, e = .returned r) ∧ settle u' = .returning ∧ ∃ d' L', Ok (d' :: (L' ++ F)) w' ∧ Le d d' ∧ Keep W w' ∧ K d' L' := by
  simp only [decV] at hd
  split at hd <;> try cases hd
  rename_i fn hf
  split at hd <;> try cases hd
  rename_i hn
  split at hd <;> try cases hd
  rename_i id ops tt x hb
  split at hd <;> try cases hd
  rename_i hz
  rw [Option.map_eq_some_iff] at hd
  obtain ⟨r, hr, rfl⟩ := hd
  simp only [Bool.or_eq_true, not_or, Bool.not_eq_true, Bool.not_eq_false'] at hn
  refine callsD_of_wpS hf hb fun c₀ cs hu => ?_
  rw [act_init ha]
  obtain ⟨o1, o2, ats, y, e0, h1, h2, h3, h4, h5, h6, h7, h8, m, h9⟩ := decRv_spec hr
  apply wpS_seq
  refine closure_top (cs' := { c₀ with mode := .panicking [{ v := .iface t v, recovered := true }] } :: cs) hr (.inr ⟨t, v, rfl⟩) (.inl ?_) (by simp [act]) ?_
  · simp [recoverD, hu]
  · rw [act_put2 h7 h8]
    simp only [Exit.thenS, isIf]
    refine wpS_cond (t := true) ?_ ?_
    · have e : (act fn.ntmps (upd (upd (env0 args) r.1 (.iface t v)) tt (.bool true)) []).eval (.tmp tt) = _ := act_eval (x := .tmp tt) (by simpa [opndOk] using h8)
      rw [e]; simp [ev, upd]
    simp only [if_true]
    refine wpS_of_wp (wp_mono (gwp_sound (ds := []) (F := F) (W0 := W) (d0 := d) (by simpa using hn.2) x _ _ d L W h hOk (Le.refl d) (Keep.refl W)) ?_)
    have hres : ∀ (tm : Array Value) (w : World), (results fn tm).run P w = .ok (.tuple #[]) w := by
      intro tm w
      have : fn.results = #[] := Array.eq_empty_of_size_eq_zero hz
      rw [results_eq, Array.mapM_eq_mapM_toList, this]; simp [Result.andThen]
    intro e a w hq
    cases e with
    | normal =>
      obtain ⟨ρ, d', L', rfl, k1, k2, k3, k4⟩ := hq
      exact ⟨rfl, _, rfl, _, hres _ _, ⟨_, rfl⟩, rfl, d', L', k1, k2, k3, k4⟩
    | ret =>
      obtain ⟨ρ, d', L', rfl, k1, k2, k3, k4⟩ := hq
      exact ⟨rfl, _, rfl, _, hres _ _, ⟨_, rfl⟩, rfl, d', L', k1, k2, k3, k4⟩
    | panic c => obtain ⟨_, _, _, _, _, _, hh⟩ := hq; exact hh.elim
    | exit i => obtain ⟨_, _, _, _, _, _, _, hh⟩ := hq; exact hh.elim
    | goto l => exact hq.elim
    | outgrown => exact hq.elim
theorem closure_ret {f : FuncId} {g : GFunV} (hd : decV pr P f = some g) {args : List Value} (ha : args.length ≤ g.n) {W : World} :
    CallsD P f args.toArray .returning W fun e u' w' => (∃ r, e = .returned r) ∧ u' = .returning ∧ w' = W := by
  simp only [decV] at hd
  split at hd <;> try cases hd
  rename_i fn hf
  split at hd <;> try cases hd
  rename_i hn
  split at hd <;> try cases hd
  rename_i id ops tt x hb
  split at hd <;> try cases hd
  rename_i hz
  rw [Option.map_eq_some_iff] at hd
  obtain ⟨r, hr, rfl⟩ := hd
  refine callsD_of_wpS hf hb fun c₀ cs hu => ?_
  rw [act_init ha]
  obtain ⟨o1, o2, ats, y, e0, h1, h2, h3, h4, h5, h6, h7, h8, m, h9⟩ := decRv_spec hr
  apply wpS_seq
  refine closure_top (v := .nilIface) (cs' := c₀ :: cs) hr (.inl rfl) (.inr ⟨?_, rfl, rfl⟩) (by simp [act]) ?_
  · simp [recoverD, hu]
  · rw [act_put2 h7 h8]
    simp only [Exit.thenS, isIf]
    refine wpS_cond (t := false) ?_ ?_
    · have e : (act fn.ntmps (upd (upd (env0 args) r.1 .nilIface) tt (.bool false)) []).eval (.tmp tt) = _ := act_eval (x := .tmp tt) (by simpa [opndOk] using h8)
      rw [e]; simp [ev, upd]
    simp only [Bool.false_eq_true, if_false]
    refine wpS_of_wp (wp_skip ?_)
    have : fn.results = #[] := Array.eq_empty_of_size_eq_zero hz
    refine ⟨rfl, .returning, by cases c₀; simp_all, .tuple #[], ?_, ⟨_, rfl⟩, rfl, rfl⟩
    rw [results_eq, Array.mapM_eq_mapM_toList, this]; simp [Result.andThen]

def clRun (P : Program) (res : List GRes) (v : GFunV) (R : Ending → PHeap → List PHeap → Prop) (caps : List Value) (ρ : Env) : GPost :=
  { n := retPost res R, ret := retPost res R, ex := fun _ _ _ _ => False,
    pan := fun ch d L => ∃ t x, ch = [{ v := .iface t x, recovered := false }] ∧ gwp P v.c (clPost (retPost res R ρ)) (upd (upd (env0 caps) v.r (.iface t x)) v.t (.bool true)) d L }
def clVal (g : FuncId) (caps : List Value) : Value := .func (.func g) #[] caps.toArray
def dPost (P : Program) (g : GFunD) (v : GFunV) (R : Ending → PHeap → List PHeap → Prop) : GPost :=
  { n := fun ρ d L => gwp P g.c (clRun P g.res v R (g.caps.map ρ) (upd ρ g.fd (clVal g.g (g.caps.map ρ)))) (upd ρ g.fd (clVal g.g (g.caps.map ρ))) d L,
    ret := fun _ _ _ => False, ex := fun _ _ _ _ => False, pan := fun _ _ _ => False }
theorem decDf_spec {n : Nat} {ops : Array Oper} {r : Nat × FuncId × List Nat} (h : decDf n ops.toList = some r) : ∃ o1 o2 caps ats, ops = #[o1, o2] ∧ o1.dst = some r.1 ∧ o1.op = .makeFunc (.func r.2.1) #[] caps ∧ o1.guard = none ∧ o2.dst = none ∧ o2.op = .defer ⟨.value (.tmp r.1), #[], ats⟩ ∧ o2.guard = none ∧ r.1 < n ∧ capsOf n caps.toList = some r.2.2 := by
  obtain ⟨ops⟩ := ops
  simp only [decDf] at h
  split at h <;> try cases h
  rename_i o1 o2
  split at h <;> try cases h
  rename_i h1 h2 h3 h4 h5 h6
  split at h <;> try cases h
  rename_i hc
  obtain ⟨k1, k2, k3, k4⟩ := hc
  simp only [Option.map_eq_some_iff] at h
  obtain ⟨cs, hcs, rfl⟩ := h
  subst k3
  have k1 := Array.eq_empty_of_size_eq_zero k1
  have k2 := Array.eq_empty_of_size_eq_zero k2
  subst k1; subst k2
  exact ⟨o1, o2, _, _, by simp_all, h1, h2, h3, h4, h5, h6, k4, hcs⟩
theorem GCallD_of {pr' : Bool} {f : FuncId} {g : GFunD} {v : GFunV} (hd : decD pr P f = some g) (hv : decV pr' P g.g = some v) {args : List Value} (ha : args.length ≤ g.n) (hcl : g.caps.length ≤ v.n) {d : PHeap} {L : List PHeap} {R : Ending → PHeap → List PHeap → Prop}
    (h : gwp P g.a (dPost P g v R) (env0 args) d L) : GCall P f args d L R := by
  simp only [decD] at hd
  split at hd <;> try cases hd
  rename_i fn hf
  split at hd <;> try cases hd
  rename_i hn
  split at hd <;> try cases hd
  rename_i A id ops C hb
  split at hd <;> try cases hd
  rename_i fd gg cs rs hdf hrs
  split at hd <;> cases hd
  rename_i hall
  simp only [Bool.or_eq_true, not_or, Bool.not_eq_true, Bool.not_eq_false'] at hn
  have hm : P.follows .mixedOrders = true := by simpa using hn.2
  obtain ⟨o1, o2, caps, ats, rfl, h1, h2, h3, h4, h5, h6, h7, h8⟩ := decDf_spec hdf
  simp only at h1 h2 h5 h7 h8 hv hcl ha h
  have hvc : Callable P gg := by
    simp only [decV] at hv
    split at hv <;> try cases hv
    rename_i fn' hf'
    split at hv <;> try cases hv
    rename_i hn'
    split at hv <;> try cases hv
    rename_i hb'
    simp only [Bool.or_eq_true, not_or, Bool.not_eq_true, Bool.not_eq_false'] at hn'
    exact ⟨fn', hf', by rw [hb']; rfl, hn'.1⟩
  refine ⟨⟨fn, hf, by rw [hb]; rfl, hn.1⟩, fun F W hOk => ?_⟩
  refine calls_of_wp_defers hf hb ?_
  rw [act_init ha]
  refine wp_seq (wp_mono (gwp_sound (ds := []) (F := F) (W0 := W) (d0 := d) hm A _ _ d L W h hOk (Le.refl d) (Keep.refl W)) ?_)
  intro e a w hq
  cases e with
  | panic c => obtain ⟨_, _, _, _, _, _, hh⟩ := hq; exact hh.elim
  | exit i => obtain ⟨_, _, _, _, _, _, _, hh⟩ := hq; exact hh.elim
  | ret => obtain ⟨_, _, _, _, _, _, _, hh⟩ := hq; exact hh.elim
  | goto l => exact hq.elim
  | outgrown => exact hq.elim
  | normal =>
  obtain ⟨ρ, d1, L1, rfl, k1, k2, k3, k4⟩ := hq
  simp only [dPost] at k4
  refine wp_seq (wp_region ?_)
  have l : List.range (#[o1, o2] : Array Oper).size = [0, 1] := rfl
  rw [l]
  have g0 : (#[o1, o2] : Array Oper)[0]? = some o1 := rfl
  have g1 : (#[o1, o2] : Array Oper)[1]? = some o2 := rfl
  have e1 : ∀ ys, Region.wanted o1 ys = true := fun ys => by simp [Region.wanted, h3]
  have e2 : ∀ ys, Region.wanted o2 ys = true := fun ys => by simp [Region.wanted, h6]
  have hcv : caps.map (act fn.ntmps ρ []).eval = (cs.map ρ).toArray := by
    have := capsOf_eval (ρ := ρ) (ds := []) h8
    exact Array.ext' (by rw [Array.toList_map, this])
  have x1 : ∀ w, (execOp (act fn.ntmps ρ []).eval o1).run P w = .ok (.value (clVal gg (cs.map ρ))) w := by
    intro w; simp [execOp, h2, Instr.makeFunc, Result.andThen, hcv, clVal]
  have hfd : (act fn.ntmps (upd ρ fd (clVal gg (cs.map ρ))) []).eval (.tmp fd) = clVal gg (cs.map ρ) := by
    rw [act_eval (x := .tmp fd) (by simpa [opndOk] using h7)]; simp [ev, upd]
  have x2 : ∀ w, (execOp (act fn.ntmps (upd ρ fd (clVal gg (cs.map ρ))) []).eval o2).run P w = .ok (.defer { target := .fn (.func gg) (cs.map ρ).toArray, args := #[] }) w := by
    intro w
    generalize (act fn.ntmps (upd ρ fd (clVal gg (cs.map ρ))) []).eval = e at hfd
    simp [execOp, h5, resolve, hfd, clVal, Deferred.ofValue, Result.andThen]
  have p1 : (act fn.ntmps ρ []).put o1.dst (clVal gg (cs.map ρ)) = act fn.ntmps (upd ρ fd (clVal gg (cs.map ρ))) [] := by
    rw [h1, act_put (d := some fd) (fun _ e => by cases e; exact h7)]; rfl
  simp only [wpOps_cons, wpOp, g0, e1, if_true]
  refine .inl ?_
  simp only [Oper.wp, x1, Oper.upon, p1, wpOps_cons, wpOp, g1, e2, if_true]
  refine .inl ?_
  simp only [x2, Oper.upon, h4]
  show Code.wp P C _ (act fn.ntmps (upd ρ fd (clVal gg (cs.map ρ))) [{ target := .fn (.func gg) (cs.map ρ).toArray, args := #[] }]) w
  have hlen : (cs.map ρ).length ≤ v.n := by simpa using hcl
  have hinv : ∀ w, (invoke (.fn (.func gg) (cs.map ρ).toArray) #[]).run P w = .ok (.enter gg (cs.map ρ).toArray) w := by
    intro w; simp [invoke, callFunc_run hvc]
  generalize hD : (⟨.fn (.func gg) (cs.map ρ).toArray, #[]⟩ : Deferred) = D
  refine wp_mono (gwp_soundK (ds := [D]) (F := F) (W0 := W) (d0 := d) hm (X := dstsC C) (a0 := act fn.ntmps (upd ρ fd (clVal gg (cs.map ρ))) [D]) C _ _ d1 L1 w (fun _ h => h) (fun _ _ => rfl) k4 k1 k2 k3) ?_
  subst hD
  have fin : ∀ a w, (∃ ρ' d' L', a = act fn.ntmps ρ' [⟨.fn (.func gg) (cs.map ρ).toArray, #[]⟩] ∧ Ok (d' :: (L' ++ F)) w ∧ Le d d' ∧ Keep W w ∧ retPost rs R ρ' d' L') →
      Leaves P fn a.tmps (fun e W' => ∃ d' L', Ok (d' :: (L' ++ F)) W' ∧ Le d d' ∧ Keep W W' ∧ R e d' L') a.defers .returning w := by
    rintro a w ⟨ρ', d', L', rfl, j1, j2, j3, vs, j4, d'', L'', j5, j6⟩
    refine leaves_cons (by simp) (hinv w) ((closure_ret hv hlen).mono ?_)
    rintro e u' w' ⟨⟨r, rfl⟩, rfl, rfl⟩
    exact ⟨resV vs, resV_run hrs j1 j4, d'', L'', j5.2 F w' j1, j2.trans j5.1, j3, j6⟩
  intro e a w hq
  cases e with
  | normal => exact fin a w hq.1
  | ret => exact fin a w hq.1
  | panic c =>
    obtain ⟨⟨m1, d', L', m2, m3, m4, t, x, rfl, m5⟩, m6⟩ := hq
    have m6 := m6.resolve_left (fun h => by cases h)
    show Leaves P fn a.tmps _ a.defers _ w
    rw [m1]
    refine leaves_cons (by simp) (hinv w) ((closure_pan hv hlen m5 m2).mono ?_)
    rintro e u' w' ⟨⟨r, rfl⟩, hs, d2, L2, q1, q2, q3, vs, q4, d3, L3, q5, q6⟩
    simp only [hs]
    refine ⟨resV vs, ?_, d3, L3, q5.2 F w' q1, (m3.trans q2).trans q5.1, m4.trans q3, q6⟩
    rw [results_kept hrs (t2 := (act fn.ntmps (upd ρ fd (clVal gg (cs.map ρ))) []).tmps) (fun r hr => ?_)]
    · exact resV_run hrs q1 q4
    · have := List.all_eq_true.1 hall r hr
      exact m6 _ (by simpa using this)
  | exit i => obtain ⟨⟨_, _, _, _, _, _, _, hh⟩, _⟩ := hq; exact hh.elim
  | goto l => exact hq.1.elim
  | outgrown => exact hq.1.elim
end
end Go.Gk
end

section
namespace Go.Gk.Val
open Go Go.Gk Go.Gk.Num
attribute [local irreducible] gwp gws

def BEqOk (P : Program) (f : FuncId) : Prop := ∀ {d : PHeap} {v w : Value} {xs ys : List UInt8} {h : PHeap}, GRow 1 RByte emp v xs h → RSl 1 RByte d w ys → GCall P f [v, w] d [h] (Ret fun r d' L' => d' = d ∧ r = .bool (decide (xs = ys)) ∧ L' = [h])
def g_bytes_Equal : GFun :=
 ⟨10, [(.tmp 4)],
 (.seq
 (.reg false (.op false ⟨(some 4), none, (.mv (.const (.bool false)))⟩ .done))
 (.seq
 (.reg false (.op false ⟨(some 5), none, (.mv (.tmp 0))⟩
  (.op false ⟨(some 6), none, (.b2s (.tmp 5))⟩
  (.op false ⟨(some 7), none, (.mv (.tmp 1))⟩
  (.op false ⟨(some 8), none, (.b2s (.tmp 7))⟩
  (.op false ⟨(some 9), none, (.bin .eql (.tmp 6) (.tmp 8))⟩
  (.op false ⟨(some 4), none, (.mv (.tmp 9))⟩ .done))))))) .ret))⟩

theorem beq_ok {P : Program} {f : FuncId} (hd : dec P f = some g_bytes_Equal) : BEqOk P f := by
  intro d v w xs ys h ho hy
  refine GCall_of hd (Nat.le_of_ble_eq_true rfl) ?_
  have ho' : GRow 1 RByte d v xs h := ho.atB
  obtain ⟨va, vc, rfl⟩ := ho.val
  have hy' := hy
  obtain ⟨wa, wc, rfl⟩ := RSl.val hy
  have hy'' : RBytes d (.slice wa ys.length wc) ys := hy
  show gwp P _ _ _ _ _
  (apply w_sq; apply w_reg; apply w_mvb; rfl; apply w_done0; apply w_sq; apply w_reg; apply w_mvs; rfl; refine w_b2sG (by rfl) (by assumption) (by simp [lk]) ?_; apply w_mvs; rfl; apply w_b2sR; rfl; assumption; apply w_seq; rfl; rfl; apply w_mvb; rfl; apply w_done0; apply w_ret)
  exact fin1 (L' := [h]) rfl (List.Sublist.refl _) ⟨rfl, rfl, rfl⟩

theorem res_cell1 {ρ : Env} {d : PHeap} {L : List PHeap} {t b : Nat} {T : TypeId} {v : Value} (i : Nat) (e : ρ t = .pointer (some ⟨b, 0, none⟩)) (hi : L[i]? = some (bx b T [v])) : resOne ρ (HC d L) (.cell t none) v :=
  ⟨b, 0, e, hc_i i hi rfl⟩
def g_key_Read_1 : GFunV :=
 ⟨6, 3, 4,
 (.reg false (.op false ⟨(some 5), none, (.bld [(0, 1), (1, 2), (3, 1), (4, 1), (5, 1)] [(.int .i64 0), (.int .i64 0), (.int .i64 0), (strV []), (.slice none 0 0), (.slice none 0 0)] [])⟩
  (.op false ⟨none, none, (.st 6 (.tmp 0) (.tmp 5))⟩
  (.op false ⟨none, none, (.st 1 (.tmp 1) (.const (.int .i64 0)))⟩
  (.op false ⟨none, none, (.st 1 (.tmp 2) (.const (.int .i64 50)))⟩ .done)))))⟩

theorem read_pan {P : Program} {ρ : Env} {R : Ending → PHeap → List PHeap → Prop} {d : PHeap} {L : List PHeap} {b2 b3 b4 : Nat} {T2 T3 T4 : TypeId} {c2 : List Value} {x3 x4 : Value} {t : TypeId} {x : Value} (e2 : ρ 2 = .pointer (some ⟨b2, 0, none⟩)) (e3 : ρ 3 = .pointer (some ⟨b3, 0, none⟩)) (e4 : ρ 4 = .pointer (some ⟨b4, 0, none⟩))
    (hL : Vs d L d [bx b4 T4 [x4], bx b3 T3 [x3], bx b2 T2 c2]) (hc : c2.length = 6) (hR : R (.returned (.tuple #[.agg zVal.toArray, .int .i64 0, .int .i64 50])) d []) :
    gwp P g_key_Read_1.c (clPost (retPost [.cell 2 (some 6), .cell 3 none, .cell 4 none] R ρ)) (upd (upd (env0 [.pointer (some ⟨b2, 0, none⟩), .pointer (some ⟨b3, 0, none⟩), .pointer (some ⟨b4, 0, none⟩)]) 3 (.iface t x)) 4 (.bool true)) d L := by
  show gwp P _ _ _ _ _
  apply w_reg
  refine w_vs d _ hL ?_
  (apply w_bvZ)
  refine w_stE 2 zVal rfl rfl rfl rfl (by rw [hc]; exact Nat.le_refl _) rfl (patch6 hc rfl) ?_
  refine w_stE 1 [.int .i64 0] rfl rfl rfl rfl (Nat.le_of_ble_eq_true rfl) rfl rfl ?_
  refine w_stE 0 [.int .i64 50] rfl rfl rfl rfl (Nat.le_of_ble_eq_true rfl) rfl rfl ?_
  apply w_done
  exact finS (L' := []) [.agg zVal.toArray, .int .i64 0, .int .i64 50] ⟨res_cell 2 e2 rfl rfl, res_cell1 1 e3 rfl, res_cell1 0 e4 rfl, trivial⟩ (List.nil_sublist _) hR

section
variable {P : Program} {pan : List PanicEntry → Post} {Qn : Env → Post} {Ls L : List PHeap} {ρ : Env} {d : PHeap} {s : GS} {t : Nat} {tk : Bool}
theorem w_brd {x : Operand} {a : Option Addr} {n c : Nat} (ex : ev ρ x = .slice a n c) (h : gws P pan Qn s Ls (upd ρ t (.agg [.slice a n c, .int .i64 ((0 : Nat) : Int)].toArray)) d L) :
    gws P pan Qn (.op tk ⟨some t, none, .bld [(0, 1), (1, 1)] [.slice none 0 0, .int .i64 0] [(0, x)]⟩ s) Ls ρ d L :=
  w_bld (cs := [.slice a n c, .int .i64 ((0 : Nat) : Int)]) (by simp [Instr.fill, ex, Value.cells]) h
end
def KReadOk (T : PHeap → Prop) (P : Program) (f : FuncId) : Prop := ∀ {d : PHeap} {vb : Value} {b : List UInt8}, T d → RSl 1 RByte d vb b → b.length ≤ 1000000000 →
  GCall P f [vb] d [] (Ret fun r d' L' => L' = [] ∧ ((∃ cs x k, rightV x = 0 ∧ b = keyV x ++ b.drop k ∧ k ≤ b.length ∧ r = .tuple #[.agg cs.toArray, .int .i64 (k : Nat), .int .i64 0] ∧ RVal d' cs x) ∨
    ((∀ x r, rightV x = 0 → b ≠ keyV x ++ r) ∧ r = .tuple #[.agg zVal.toArray, .int .i64 0, .int .i64 50])))
def g_key_Read (f_key_Read_1 f_key_reader_value f_value_Right f_key_put f_bytes_Equal T_api_Errno : Nat) : GFunD :=
 ⟨33, [(.cell 2 (some 6)), (.cell 3 none), (.cell 4 none)],
 (.reg false (.op false ⟨(some 2), none, (.alo (.agg #[(.int .i64 0), (.int .i64 0), (.int .i64 0), (strV []), (.slice none 0 0), (.slice none 0 0)]))⟩
  (.op false ⟨(some 3), none, (.alo (.int .i64 0))⟩
  (.op false ⟨(some 4), none, (.alo (.int .i64 0))⟩ .done)))), 6, f_key_Read_1, [2, 3, 4],
 (.seq
 (.reg false (.op false ⟨(some 7), none, (.mv (.tmp 0))⟩
  (.op false ⟨(some 8), none, (.bld [(0, 1), (1, 1)] [(.slice none 0 0), (.int .i64 0)] [(0, (.tmp 7))])⟩
  (.op false ⟨(some 9), none, (.box (.tmp 8))⟩
  (.op false ⟨(some 5), none, (.mv (.tmp 9))⟩ .done)))))
 (.seq
 (.reg false (.op false ⟨(some 10), none, (.mv (.tmp 5))⟩
  (.op false ⟨(some 11), none, (.call f_key_reader_value [(.tmp 10), (.const (.int .i64 48))])⟩
  (.op false ⟨none, none, (.st 6 (.tmp 2) (.tmp 11))⟩ .done))))
 (.seq (.seq
 (.reg true (.op true ⟨(some 12), none, (.ld (some 6) (.tmp 2))⟩
  (.op false ⟨(some 13), none, (.call f_value_Right [(.tmp 12)])⟩
  (.op true ⟨(some 14), none, (.bin .neq (.tmp 13) (.const (.int .i64 0)))⟩
  (.op true ⟨(some 15), none, (.mv (.tmp 14))⟩
  (.op true ⟨(some 16), (some (15, false)), (.ld (some 6) (.tmp 2))⟩
  (.op true ⟨(some 18), (some (15, false)), (.mv (.tmp 0))⟩
  (.op true ⟨(some 19), (some (15, false)), (.mv (.tmp 5))⟩
  (.op true ⟨(some 20), (some (15, false)), (.nilc (.tmp 19))⟩
  (.op true ⟨(some 21), (some (15, false)), (.fld 1 (.tmp 20))⟩
  (.op true ⟨(some 22), (some (15, false)), (.ld none (.tmp 21))⟩
  (.op true ⟨(some 23), (some (15, false)), (.sl 1 (.tmp 18) none (some (.tmp 22)) none)⟩
  (.op false ⟨(some 17), (some (15, false)), (.call f_key_put [(.const (.slice none 0 0)), (.tmp 16)])⟩
  (.op false ⟨(some 24), (some (15, false)), (.call f_bytes_Equal [(.tmp 17), (.tmp 23)])⟩
  (.op true ⟨(some 25), (some (15, false)), (.un .not (.tmp 24))⟩
  (.op true ⟨(some 26), none, (.pick (.tmp 15) (.const (.bool true)) (.tmp 25))⟩ .done)))))))))))))))) (.cond (.tmp 26)
 (.reg false (.op false ⟨(some 27), none, (.mki T_api_Errno (.const (.int .i64 50)))⟩
  (.op false ⟨none, none, (.pan (.tmp 27))⟩ .done))) .skip))
 (.seq
 (.reg true (.op true ⟨(some 29), none, (.mv (.tmp 5))⟩
  (.op true ⟨(some 30), none, (.nilc (.tmp 29))⟩
  (.op true ⟨(some 31), none, (.fld 1 (.tmp 30))⟩
  (.op true ⟨(some 32), none, (.ld none (.tmp 31))⟩
  (.op false ⟨(some 28), none, (.ld (some 6) (.tmp 2))⟩
  (.op false ⟨none, none, (.st 6 (.tmp 2) (.tmp 28))⟩
  (.op false ⟨none, none, (.st 1 (.tmp 3) (.tmp 32))⟩
  (.op false ⟨none, none, (.st 1 (.tmp 4) (.const (.int .i64 0)))⟩ .done))))))))) .ret))))⟩

set_option maxHeartbeats 1000000 in
theorem kread_ok {T : PHeap → Prop} (hTm : ∀ {d d' : PHeap}, T d → Le d d' → T d') {P : Program} {f f1 f2 f3 f4 f5 : FuncId} {t1 : TypeId} (hd : decD false P f = some (g_key_Read f1 f2 f3 f4 f5 t1)) (hv : decV false P f1 = some g_key_Read_1) (h2 : KRValueOk T P f2) (h3 : RightOk T P f3) (h4 : KPutOk T P f4) (h5 : BEqOk P f5) : KReadOk T P f := by
  intro d vb b ht hb hbl
  refine GCallD_of hd hv (Nat.le_of_ble_eq_true rfl) (Nat.le_of_ble_eq_true rfl) ?_
  obtain ⟨ba, bc, rfl⟩ := RSl.val hb
  show gwp P _ _ _ _ _
  (apply w_reg; apply w_alo; intro _ _; apply w_alo; intro _ _; apply w_alo; intro _ _; apply w_done0; apply w_sq; apply w_reg; apply w_mvs; rfl; apply w_brd; rfl; apply w_boxa; rfl; intro _ _; apply w_mvp; rfl; apply w_done0; apply w_sq; apply w_reg; apply w_mvp; rfl)
  rename_i b2 T2 b3 T3 b4 T4 q Tq
  refine w_callE (A := [rdr q Tq (.slice ba b.length bc) 0]) (B := [bx b4 T4 [.int .i64 0], bx b3 T3 [.int .i64 0], bx b2 T2 zVal]) rfl rfl (h2 48 (by omega) ht hb hbl (Nat.zero_le _)) (fun d' L' h => ?_) (fun r d2 L' hl2 h => ?_) (fun c d2 L' _ h => ?_)
  · rcases h with ⟨_, _, _, h, _⟩ | ⟨h, _⟩
    · cases h
    · exact h.out rfl
  rotate_left
  · rcases h with ⟨_, _, _, h, _⟩ | ⟨⟨t, x, h⟩, hno⟩
    · cases h
    · cases h
      exact ⟨t, x, rfl, read_pan rfl rfl rfl (Vs.drop (List.sublist_append_right _ _)) rfl ⟨rfl, .inr ⟨fun y r hy => by
        have := hno y r (may_shp y (right_iff.1 hy).1) (right_iff.1 hy).2
        simpa using this, rfl⟩⟩⟩
  obtain ⟨cs, x, k, hr, hR, hL, hk, _, hs, hdx, hbd⟩ := h.resolve_right (fun h => h.1.ret)
  cases hr; subst hL
  rw [List.drop_zero] at hbd
  have ht2 := hTm ht hl2
  have hb2 : RSl 1 RByte d2 (.slice ba b.length bc) b := RSl.mono (R := RByte) mono_byte hb hl2
  have hkl : (keyV x).length = k := by
    have := congrArg List.length hbd
    simp only [List.length_append, List.length_drop] at this
    omega
  refine w_stE 3 cs rfl rfl rfl hR.len (Nat.le_of_ble_eq_true rfl) (cell1_val _ _ _ hR) (patch6 rfl hR.len) ?_
  (apply w_done0; apply w_sq; apply w_sq)
  refine w_drawnV (d1 := d2) [bx b2 T2 cs, bx q Tq [.slice ba b.length bc, .int .i64 (k : Nat)]] [emp, bx b4 T4 [.int .i64 0], bx b3 T3 [.int .i64 0]] (Vs.emp.trans (Vs.pick (L := [emp, bx q Tq [.slice ba b.length bc, .int .i64 (k : Nat)], bx b4 T4 [.int .i64 0], bx b3 T3 [.int .i64 0], bx b2 T2 cs]) [4, 1, 0, 2, 3] rfl)) ?_
  refine w_ldb 0 rfl rfl hR.len ?_
  refine w_pure rfl (h3 ht2 hR) ?_
  by_cases hrx : rightV x ≠ 0
  · (apply w_neq; rfl; rfl; apply w_mvb; rfl; refine w_gdT rfl (by omega) ?_; apply w_gF; rfl; apply w_gF; rfl; apply w_gF; rfl; apply w_gF; rfl; apply w_gF; rfl; apply w_gF; rfl; apply w_gF; rfl; apply w_gF; rfl; apply w_gF; rfl; apply w_gF; rfl; apply w_pickTb; rfl; rfl; apply w_done; apply w_ifT; rfl; apply w_reg; apply w_mki)
    refine w_pan rfl ⟨_, _, rfl, read_pan rfl rfl rfl (Vs.trans (Vs.pick (L := [bx b2 T2 cs, bx q Tq [.slice ba b.length bc, .int .i64 (k : Nat)], emp, bx b4 T4 [.int .i64 0], bx b3 T3 [.int .i64 0]]) [3, 4, 0, 1, 2] rfl) (Vs.drop (.cons_cons _ (.cons_cons _ (.cons_cons _ (List.nil_sublist _)))))) hR.len ⟨rfl, .inr ⟨fun y r hy e => ?_, rfl⟩⟩⟩
    have := (keyV_inj x hs y _ _ (may_shp y (right_iff.1 hy).1) (e.symm.trans hbd)).1
    rw [this] at hy; exact hrx hy
  have hrx : rightV x = 0 := by omega
  rw [hrx]
  (apply w_neq; rfl; rfl; apply w_mvb; rfl; refine w_gdF rfl (by omega) ?_; apply w_gT; rfl)
  refine w_ldb 0 rfl rfl hR.len ?_
  (apply w_gT; rfl; apply w_mvs; rfl; apply w_gT; rfl; apply w_mvp; rfl; apply w_gT; rfl; apply w_nilc; rfl; apply w_gT; rfl; apply w_fld; rfl; apply w_gT; rfl; apply w_ld; rfl; exact hc_i 1 rfl rfl; apply w_gT; rfl)
  refine w_slTo (n := k) rfl hb2 rfl rfl hk (fun v23 r23 => ?_)
  (apply w_gT; rfl)
  refine w_callA (A := [emp]) (B := [bx b4 T4 [.int .i64 0], bx b3 T3 [.int .i64 0]]) rfl rfl (h4 x (xs := []) (h := emp) ht2 hR (right_iff.1 hrx).1 GRow.nil (by simp; omega)) (fun r d6 L6 _ ⟨hdd, h6, hL, o6⟩ => ?_)
  subst hdd; subst hL
  (apply w_gT; rfl)
  refine w_callA (A := [h6]) (B := [bx b4 T4 [.int .i64 0], bx b3 T3 [.int .i64 0]]) rfl rfl (h5 o6 r23) (fun r d7 L7 _ ⟨hdd, hrr, hL⟩ => ?_)
  subst hdd; subst hL
  have heq : ([] ++ keyV x : List UInt8) = b.take k := by
    rw [List.nil_append]
    conv => rhs; rw [hbd]
    rw [← hkl]; simp
  rw [decide_eq_true heq] at hrr
  subst hrr
  (apply w_gT; rfl; apply w_not; rfl; apply w_pickFb; rfl; rfl; apply w_done; apply w_ifF; rfl; apply w_skip; apply w_sq)
  refine w_drawnV (d1 := d7) [bx q Tq [.slice ba b.length bc, .int .i64 (k : Nat)]] [bx b2 T2 cs, h6, bx b4 T4 [.int .i64 0], bx b3 T3 [.int .i64 0]] (Vs.pick (L := [bx b2 T2 cs, bx q Tq [.slice ba b.length bc, .int .i64 (k : Nat)], h6, bx b4 T4 [.int .i64 0], bx b3 T3 [.int .i64 0]]) [1, 0, 2, 3, 4] rfl) ?_
  (apply w_mvp; rfl; apply w_nilc; rfl; apply w_fld; rfl; apply w_ld; rfl; exact hc_i 0 rfl rfl)
  refine w_ldb 1 rfl rfl hR.len ?_
  refine w_stE 0 cs rfl rfl rfl hR.len (by rw [hR.len]; exact Nat.le_refl _) (cell1_val _ _ _ hR) (patch6 hR.len hR.len) ?_
  refine w_stE 3 [.int .i64 (k : Nat)] rfl rfl rfl rfl (Nat.le_of_ble_eq_true rfl) rfl rfl ?_
  refine w_stE 2 [.int .i64 0] rfl rfl rfl rfl (Nat.le_of_ble_eq_true rfl) rfl rfl ?_
  (apply w_done; apply w_ret)
  simp only [clRun, g_key_Read]
  exact finS (L' := []) [.agg cs.toArray, .int .i64 (k : Nat), .int .i64 0] ⟨res_cell 1 rfl rfl hR.len, res_cell1 4 rfl rfl, res_cell1 3 rfl rfl, trivial⟩ (List.nil_sublist _) ⟨rfl, .inl ⟨cs, x, k, hrx, hbd, hk, rfl, hR⟩⟩
end Go.Gk.Val
end

section
namespace Go.Gk.Val
open Go Go.Gk Go.Gk.Num

theorem digN_1 : digN 1 = [1] := by rw [digN_pos (by omega), show 1 / 10 = 0 from rfl, digN_zero]; rfl
theorem digN_12 : digN 12 = [1, 2] := by rw [digN_pos (by omega), show 12 / 10 = 1 from rfl, digN_1]; rfl
theorem digN_125 : digN 125 = [1, 2, 5] := by rw [digN_pos (by omega), show 125 / 10 = 12 from rfl, digN_12]; rfl
theorem ex1_key : keyV (.mk 3 125 (-1) [] [] []) = [4, 3, 102, 2, 3, 6, 0] := by
  rw [keyV_num, keyN, if_neg (by omega), if_neg (by omega), show (125 : Int).natAbs = 125 from rfl, keyP, digN_125]; rfl
theorem ex2_key : keyV (.mk 3 (-1) 0 [] [] []) = [4, 1, 154, 253, 255] := by
  rw [keyV_num, keyN, if_neg (by omega), if_pos (by omega), show (-1 : Int).natAbs = 1 from rfl, keyP, digN_1]; rfl
theorem ex3_key : keyV (.mk 6 0 0 [] [.mk 2 0 0 [] [] []] [[97]]) = [7, 5, 97, 0, 1, 0, 3] := by
  rw [keyV_map, keyVs_cons, keyV_kind (by omega)]; rfl
theorem ex1_right : rightV (.mk 3 125 (-1) [] [] []) = 0 := rfl
theorem ex2_right : rightV (.mk 3 (-1) 0 [] [] []) = 0 := rfl
theorem ex3_right : rightV (.mk 6 0 0 [] [.mk 2 0 0 [] [] []] [[97]]) = 0 := rfl
end Go.Gk.Val
end

section
namespace Go.Gk.Val
open Go Go.Gk
section
variable {P : Program} {pan : List PanicEntry → Post} {Qn : Env → Post} {Ls L : List PHeap} {ρ : Env} {d : PHeap} {s : GS} {t : Nat} {tk : Bool}
theorem w_bsV2 {x y : Operand} {a b : List Value} (ex : ev ρ x = .agg a.toArray) (ha : a.length = 6) (ey : ev ρ y = .agg b.toArray) (hb : b.length = 6) (h : ∀ q T, gws P pan Qn s Ls (upd ρ t (.slice (some ⟨q, 0, none⟩) 2 2)) d (bx q T (a ++ b) :: L)) :
    gws P pan Qn (.op false ⟨some t, none, .bsl 2 6 [.int .i64 0, .int .i64 0, .int .i64 0, strV [], .slice none 0 0, .slice none 0 0] [(0, x), (1, y)]⟩ s) Ls ρ d L := by
  obtain ⟨a0, a1, a2, a3, a4, a5, rfl⟩ := six ha
  obtain ⟨b0, b1, b2, b3, b4, b5, rfl⟩ := six hb
  refine w_bsl (by omega) ?_ h
  simp [Instr.fill, zrow, List.range, List.range.loop, ex, ey, Value.cells]
theorem w_bsV3 {x y z : Operand} {a b c : List Value} (ex : ev ρ x = .agg a.toArray) (ha : a.length = 6) (ey : ev ρ y = .agg b.toArray) (hb : b.length = 6) (ez : ev ρ z = .agg c.toArray) (hc : c.length = 6)
    (h : ∀ q T, gws P pan Qn s Ls (upd ρ t (.slice (some ⟨q, 0, none⟩) 3 3)) d (bx q T (a ++ b ++ c) :: L)) :
    gws P pan Qn (.op false ⟨some t, none, .bsl 3 6 [.int .i64 0, .int .i64 0, .int .i64 0, strV [], .slice none 0 0, .slice none 0 0] [(0, x), (1, y), (2, z)]⟩ s) Ls ρ d L := by
  obtain ⟨a0, a1, a2, a3, a4, a5, rfl⟩ := six ha
  obtain ⟨b0, b1, b2, b3, b4, b5, rfl⟩ := six hb
  obtain ⟨c0, c1, c2, c3, c4, c5, rfl⟩ := six hc
  refine w_bsl (by omega) ?_ h
  simp [Instr.fill, zrow, List.range, List.range.loop, ex, ey, ez, Value.cells]
end
theorem rvals2 {d d' : PHeap} {q : Nat} {T : TypeId} {a b : List Value} {x y : V} (hx : RVal d a x) (hy : RVal d b y) (hl : Le d d') (h : Le (bx q T (a ++ b)) d') : RVals d' (.slice (some ⟨q, 0, none⟩) 2 2) [x, y] := by
  obtain ⟨a0, a1, a2, a3, a4, a5, rfl⟩ := six hx.len
  obtain ⟨b0, b1, b2, b3, b4, b5, rfl⟩ := six hy.len
  have o := ORow.lit (sz := 6) (b := q) (T := T) (n := 2) (l := [a0, a1, a2, a3, a4, a5] ++ [b0, b1, b2, b3, b4, b5]) rfl (by omega)
  refine o.rsl (R := RVal) h rfl (by omega) (fun i hi => ?_)
  have hi2 : i < 2 := hi
  obtain rfl | rfl : i = 0 ∨ i = 1 := by omega
  · exact RVal.mono hl hx
  · exact RVal.mono hl hy
theorem rvals3 {d d' : PHeap} {q : Nat} {T : TypeId} {a b c : List Value} {x y z : V} (hx : RVal d a x) (hy : RVal d b y) (hz : RVal d c z) (hl : Le d d') (h : Le (bx q T (a ++ b ++ c)) d') : RVals d' (.slice (some ⟨q, 0, none⟩) 3 3) [x, y, z] := by
  obtain ⟨a0, a1, a2, a3, a4, a5, rfl⟩ := six hx.len
  obtain ⟨b0, b1, b2, b3, b4, b5, rfl⟩ := six hy.len
  obtain ⟨c0, c1, c2, c3, c4, c5, rfl⟩ := six hz.len
  have o := ORow.lit (sz := 6) (b := q) (T := T) (n := 3) (l := [a0, a1, a2, a3, a4, a5] ++ [b0, b1, b2, b3, b4, b5] ++ [c0, c1, c2, c3, c4, c5]) rfl (by omega)
  refine o.rsl (R := RVal) h rfl (by omega) (fun i hi => ?_)
  have hi2 : i < 3 := hi
  obtain rfl | rfl | rfl : i = 0 ∨ i = 1 ∨ i = 2 := by omega
  · exact RVal.mono hl hx
  · exact RVal.mono hl hy
  · exact RVal.mono hl hz
end Go.Gk.Val
end

section
namespace Go.Gk.Val
open Go Go.Gk Go.Gk.Utf
attribute [local irreducible] gwp gws

section
variable {P : Program} {pan : List PanicEntry → Post} {Qn : Env → Post} {Ls L : List PHeap} {ρ : Env} {d : PHeap} {s : GS} {t : Nat} {tk : Bool}
theorem w_bnum {x : Operand} {a : Int} (ex : ev ρ x = .int .i64 a) (h : gws P pan Qn s Ls (upd ρ t (.agg [.int .i64 a, .int .i64 0].toArray)) d L) :
    gws P pan Qn (.op tk ⟨some t, none, .bld [(0, 1), (1, 1)] [.int .i64 0, .int .i64 0] [(0, x)]⟩ s) Ls ρ d L :=
  w_bld (cs := [.int .i64 a, .int .i64 0]) (by simp [Instr.fill, ex, Value.cells]) h
theorem w_bvD {x y : Operand} {k : IntKind} {a m e : Int} (ex : ev ρ x = .int k a) (ey : ev ρ y = .agg [.int .i64 m, .int .i64 e].toArray) (h : gws P pan Qn s Ls (upd ρ t (.agg [.int k a, .int .i64 m, .int .i64 e, strV [], .slice none 0 0, .slice none 0 0].toArray)) d L) :
    gws P pan Qn (.op tk ⟨some t, none, .bld [(0, 1), (1, 2), (3, 1), (4, 1), (5, 1)] [.int .i64 0, .int .i64 0, .int .i64 0, strV [], .slice none 0 0, .slice none 0 0] [(0, x), (1, y)]⟩ s) Ls ρ d L :=
  w_bld (cs := [.int k a, .int .i64 m, .int .i64 e, strV [], .slice none 0 0, .slice none 0 0]) (by simp [Instr.fill, ex, ey, Value.cells, strV]) h
theorem w_bvQ {y z : Operand} {b b' : Option Addr} {n c n' c' : Nat} (ey : ev ρ y = .slice b' n' c') (ez : ev ρ z = .slice b n c)
    (h : gws P pan Qn s Ls (upd ρ t (.agg [.int .i64 0, .int .i64 0, .int .i64 0, strV [], .slice b n c, .slice b' n' c'].toArray)) d L) :
    gws P pan Qn (.op tk ⟨some t, none, .bld [(0, 1), (1, 2), (3, 1), (4, 1), (5, 1)] [.int .i64 0, .int .i64 0, .int .i64 0, strV [], .slice none 0 0, .slice none 0 0] [(4, y), (3, z)]⟩ s) Ls ρ d L :=
  w_bld (cs := [.int .i64 0, .int .i64 0, .int .i64 0, strV [], .slice b n c, .slice b' n' c']) (by simp [Instr.fill, ey, ez, Value.cells, strV]) h
end
theorem row_strs {d : PHeap} {ks : List (List UInt8)} (h : ∀ k ∈ ks, k.length ≤ 140737488355328) : ∀ i (hi : i < ks.length), RStr d (chunk (ks.map strV) i 1) ks[i] := fun i hi => by
  have hc : chunk (ks.map strV) i 1 = [strV ks[i]] := by
    simp only [chunk, Nat.mul_one]
    rw [List.drop_eq_getElem_cons (by simpa using hi)]; simp
  rw [hc]
  exact ⟨rfl, h _ (List.getElem_mem hi)⟩
theorem rstrs_lit {d : PHeap} {q : Nat} {T : TypeId} {ks : List (List UInt8)} (hk : ∀ k ∈ ks, k.length ≤ 140737488355328) (hl : ks.length ≤ 140737488355328) (h : Le (bx q T (ks.map strV)) d) : RStrs d (.slice (some ⟨q, 0, none⟩) ks.length ks.length) ks :=
  (ORow.lit (sz := 1) (b := q) (T := T) (n := ks.length) (l := ks.map strV) (by simp) hl).rsl (R := RStr) h rfl (by omega) (row_strs hk)
def digV (n : Int) : V := .mk 3 n 0 [] [] []
abbrev digL (n : Int) : List Value := [.int .i64 3, .int .i64 n, .int .i64 0, strV [], .slice none 0 0, .slice none 0 0]
theorem i64_3 : I64 3 := ⟨by decide, by decide⟩
theorem dig_rval {d : PHeap} {n : Int} (h : I64 n) : RVal d (digL n) (digV n) := RVal.close (v := digV n) i64_3 h i64_0 (by simp [digV, V.text]) RSl.nil RSl.nil
theorem orow_openP {sz n : Nat} {v : Value} {us : List Value} {h : PHeap} (o : ORow sz v n us h) {m : Nat} (hm : m < n) :
    ∃ b T l c, v = .slice (some ⟨b, 0, none⟩) n c ∧ h = bx b T l ∧ n * sz ≤ l.length ∧ l.take (n * sz) = us ∧ ∀ xs, xs.length = sz → ORow sz v n (patch us (m * sz) xs) (bx b T (patch l (m * sz) xs)) := by
  obtain ⟨h1, h2, ⟨rfl, rfl, rfl⟩ | ⟨b, T, l, c, rfl, rfl, h3, h4, h5, h6⟩⟩ := o
  · omega
  · have hmz : m * sz + sz ≤ n * sz := by have := Nat.mul_le_mul_right sz (show m + 1 ≤ n from hm); rwa [Nat.add_mul, Nat.one_mul] at this
    have hnc : n * sz ≤ c * sz := Nat.mul_le_mul_right sz h3
    refine ⟨b, T, l, c, rfl, rfl, by omega, by rw [← h1]; exact h6, fun xs hx => ?_⟩
    have hp : (patch us (m * sz) xs).length = us.length := patch_len (by omega)
    refine ⟨by rw [hp, h1], h2, .inr ⟨b, T, _, c, rfl, rfl, h3, h4, by rw [patch_len (by omega)]; exact h5, ?_⟩⟩
    rw [hp, take_patch (by omega) (by omega), h6]
theorem patch_one {l cs : List Value} {o k sz : Nat} {x : Value} (hl : o + sz ≤ l.length) (hc : (l.drop o).take sz = cs) (hk : k < sz) : patch l (o + k) [x] = patch l o (cs.set k x) := by
  have hcl : cs.length = sz := by rw [← hc]; simp; omega
  refine List.ext_getElem? fun m => ?_
  rw [get_patch (by simp; omega), get_patch (by rw [List.length_set]; omega), List.length_set, hcl]
  by_cases h1 : o + k ≤ m ∧ m < o + k + [x].length
  · have : m = o + k := by simp at h1; omega
    subst this
    rw [if_pos (by simp), if_pos (by omega), Nat.sub_self, show o + k - o = k by omega, List.getElem?_set_self (by omega)]; rfl
  · rw [if_neg h1]
    simp only [List.length_cons, List.length_nil] at h1
    by_cases h2 : o ≤ m ∧ m < o + sz
    · rw [if_pos h2, List.getElem?_set_ne (by omega), ← hc, List.getElem?_take, if_pos (by omega), List.getElem?_drop, show o + (m - o) = m by omega]
    · rw [if_neg h2]
end Go.Gk.Val
end

section
namespace Go.Gk.Val
open Go Go.Gk Go.Gk.Num
attribute [local irreducible] gwp gws

def KWorksOk (T : PHeap → Prop) (P : Program) (f : FuncId) : Prop := ∀ {d : PHeap}, T d → GPure P f [] d (.bool true)
def g_thimblelaw05_works (f_key_Bytes f_key_Read : Nat) : GFun :=
 ⟨68, [(.tmp 0)],
 (.seq
 (.reg false (.op false ⟨(some 0), none, (.mv (.const (.bool false)))⟩ .done))
 (.seq
 (.reg false (.op false ⟨(some 9), none, (.bld [(0, 1), (1, 1)] [(.int .i64 0), (.int .i64 0)] [(0, (.const (.int .i64 125))), (1, (.const (.int .i64 (-1))))])⟩
  (.op false ⟨(some 10), none, (.bld [(0, 1), (1, 2), (3, 1), (4, 1), (5, 1)] [(.int .i64 0), (.int .i64 0), (.int .i64 0), (strV []), (.slice none 0 0), (.slice none 0 0)] [(0, (.const (.int .i64 3))), (1, (.tmp 9))])⟩
  (.op false ⟨(some 11), none, (.call f_key_Bytes [(.tmp 10)])⟩
  (.op false ⟨(some 8), none, (.mv (.tmp 11))⟩
  (.op false ⟨(some 12), none, (.ext (.tmp 8) 0)⟩
  (.op false ⟨(some 13), none, (.ext (.tmp 8) 1)⟩
  (.op false ⟨(some 1), none, (.mv (.tmp 12))⟩
  (.op false ⟨(some 2), none, (.mv (.tmp 13))⟩ .done)))))))))
 (.seq
 (.reg false (.op false ⟨(some 15), none, (.bld [(0, 1), (1, 1)] [(.int .i64 0), (.int .i64 0)] [(0, (.const (.int .i64 (-1))))])⟩
  (.op false ⟨(some 16), none, (.bld [(0, 1), (1, 2), (3, 1), (4, 1), (5, 1)] [(.int .i64 0), (.int .i64 0), (.int .i64 0), (strV []), (.slice none 0 0), (.slice none 0 0)] [(0, (.const (.int .i64 3))), (1, (.tmp 15))])⟩
  (.op false ⟨(some 17), none, (.call f_key_Bytes [(.tmp 16)])⟩
  (.op false ⟨(some 14), none, (.mv (.tmp 17))⟩
  (.op false ⟨(some 18), none, (.ext (.tmp 14) 0)⟩
  (.op false ⟨(some 19), none, (.ext (.tmp 14) 1)⟩
  (.op false ⟨(some 3), none, (.mv (.tmp 18))⟩
  (.op false ⟨(some 4), none, (.mv (.tmp 19))⟩ .done)))))))))
 (.seq
 (.reg false (.op false ⟨(some 21), none, (.bsl 8 1 [(.int .u8 0)] [(0, (.const (.int .u8 7))), (1, (.const (.int .u8 5))), (2, (.const (.int .u8 97))), (3, (.const (.int .u8 0))), (4, (.const (.int .u8 1))), (5, (.const (.int .u8 0))), (6, (.const (.int .u8 3))), (7, (.const (.int .u8 9)))])⟩
  (.op false ⟨(some 22), none, (.call f_key_Read [(.tmp 21)])⟩
  (.op false ⟨(some 20), none, (.mv (.tmp 22))⟩
  (.op false ⟨(some 23), none, (.ext (.tmp 20) 0)⟩
  (.op false ⟨(some 24), none, (.ext (.tmp 20) 1)⟩
  (.op false ⟨(some 25), none, (.ext (.tmp 20) 2)⟩
  (.op false ⟨(some 5), none, (.alo (.agg #[(.int .i64 0), (.int .i64 0), (.int .i64 0), (strV []), (.slice none 0 0), (.slice none 0 0)]))⟩
  (.op false ⟨none, none, (.st 6 (.tmp 5) (.tmp 23))⟩
  (.op false ⟨(some 6), none, (.mv (.tmp 24))⟩
  (.op false ⟨(some 7), none, (.mv (.tmp 25))⟩ .done)))))))))))
 (.seq
 (.reg false (.op false ⟨(some 26), none, (.mv (.tmp 2))⟩
  (.op false ⟨(some 27), none, (.bin .eql (.tmp 26) (.const (.int .i64 0)))⟩
  (.op false ⟨(some 28), none, (.mv (.tmp 27))⟩
  (.op false ⟨(some 29), (some (28, true)), (.mv (.tmp 4))⟩
  (.op false ⟨(some 30), (some (28, true)), (.bin .eql (.tmp 29) (.const (.int .i64 0)))⟩
  (.op false ⟨(some 31), none, (.pick (.tmp 28) (.tmp 30) (.const (.bool false)))⟩
  (.op false ⟨(some 32), none, (.mv (.tmp 31))⟩
  (.op false ⟨(some 33), (some (32, true)), (.mv (.tmp 7))⟩
  (.op false ⟨(some 34), (some (32, true)), (.bin .eql (.tmp 33) (.const (.int .i64 0)))⟩
  (.op false ⟨(some 35), none, (.pick (.tmp 32) (.tmp 34) (.const (.bool false)))⟩
  (.op false ⟨(some 36), none, (.mv (.tmp 35))⟩
  (.op false ⟨(some 37), (some (36, true)), (.mv (.tmp 1))⟩
  (.op false ⟨(some 38), (some (36, true)), (.b2s (.tmp 37))⟩
  (.op false ⟨(some 39), (some (36, true)), (.bin .eql (.tmp 38) (.const (strV [4, 3, 102, 2, 3, 6, 0])))⟩
  (.op false ⟨(some 40), none, (.pick (.tmp 36) (.tmp 39) (.const (.bool false)))⟩
  (.op false ⟨(some 41), none, (.mv (.tmp 40))⟩
  (.op false ⟨(some 42), (some (41, true)), (.mv (.tmp 3))⟩
  (.op false ⟨(some 43), (some (41, true)), (.b2s (.tmp 42))⟩
  (.op false ⟨(some 44), (some (41, true)), (.bin .eql (.tmp 43) (.const (strV [4, 1, 154, 253, 255])))⟩
  (.op false ⟨(some 45), none, (.pick (.tmp 41) (.tmp 44) (.const (.bool false)))⟩
  (.op false ⟨(some 46), none, (.mv (.tmp 45))⟩
  (.op false ⟨(some 47), (some (46, true)), (.fld 0 (.tmp 5))⟩
  (.op false ⟨(some 48), (some (46, true)), (.ld none (.tmp 47))⟩
  (.op false ⟨(some 49), (some (46, true)), (.bin .eql (.tmp 48) (.const (.int .i64 6)))⟩
  (.op false ⟨(some 50), none, (.pick (.tmp 46) (.tmp 49) (.const (.bool false)))⟩
  (.op false ⟨(some 51), none, (.mv (.tmp 50))⟩
  (.op false ⟨(some 52), (some (51, true)), (.mv (.tmp 6))⟩
  (.op false ⟨(some 53), (some (51, true)), (.bin .eql (.tmp 52) (.const (.int .i64 7)))⟩
  (.op false ⟨(some 54), none, (.pick (.tmp 51) (.tmp 53) (.const (.bool false)))⟩
  (.op false ⟨(some 55), none, (.mv (.tmp 54))⟩
  (.op false ⟨(some 56), (some (55, true)), (.fld 5 (.tmp 5))⟩
  (.op false ⟨(some 57), (some (55, true)), (.ld none (.tmp 56))⟩
  (.op false ⟨(some 58), (some (55, true)), (.len (.tmp 57))⟩
  (.op false ⟨(some 59), (some (55, true)), (.bin .eql (.tmp 58) (.const (.int .i64 1)))⟩
  (.op false ⟨(some 60), none, (.pick (.tmp 55) (.tmp 59) (.const (.bool false)))⟩
  (.op false ⟨(some 61), none, (.mv (.tmp 60))⟩
  (.op false ⟨(some 62), (some (61, true)), (.fld 5 (.tmp 5))⟩
  (.op false ⟨(some 63), (some (61, true)), (.ld none (.tmp 62))⟩
  (.op false ⟨(some 64), (some (61, true)), (.idx 1 (.tmp 63) (.const (.int .i64 0)))⟩
  (.op false ⟨(some 65), (some (61, true)), (.ld none (.tmp 64))⟩
  (.op false ⟨(some 66), (some (61, true)), (.bin .eql (.tmp 65) (.const (strV [97])))⟩
  (.op false ⟨(some 67), none, (.pick (.tmp 61) (.tmp 66) (.const (.bool false)))⟩
  (.op false ⟨(some 0), none, (.mv (.tmp 67))⟩ .done)))))))))))))))))))))))))))))))))))))))))))) .ret)))))⟩

set_option maxHeartbeats 1000000 in
theorem kworks_ok {T : PHeap → Prop} (hTm : ∀ {d d' : PHeap}, T d → Le d d' → T d') {P : Program} {f f1 f2 : FuncId} (hd : dec P f = some (g_thimblelaw05_works f1 f2)) (h1 : KBytesOk T P f1) (h2 : KReadOk T P f2) : KWorksOk T P f := by
  intro d ht
  refine GPure.of' hd (Nat.le_of_ble_eq_true rfl) ?_
  have r1 : RVal d [.int .i64 3, .int .i64 125, .int .i64 (-1), strV [], .slice none 0 0, .slice none 0 0] (.mk 3 125 (-1) [] [] []) := RVal.close (v := .mk 3 125 (-1) [] [] []) i64_3 ⟨by decide, by decide⟩ ⟨by decide, by decide⟩ (by simp) RSl.nil RSl.nil
  have r2 : RVal d [.int .i64 3, .int .i64 (-1), .int .i64 0, strV [], .slice none 0 0, .slice none 0 0] (.mk 3 (-1) 0 [] [] []) := RVal.close (v := .mk 3 (-1) 0 [] [] []) i64_3 ⟨by decide, by decide⟩ i64_0 (by simp) RSl.nil RSl.nil
  show gwp P _ _ _ _ _
  (apply w_sq; apply w_reg; apply w_mvb; rfl; apply w_done0; apply w_sq; apply w_reg; apply w_bnum2; rfl; rfl; apply w_bvD; rfl; rfl)
  refine w_call0 rfl (h1 ht r1 (fun _ => by rw [ex1_key]; decide)) (fun r d2 L2 _ ⟨hdd, hr⟩ => ?_)
  subst hdd
  rcases hr with ⟨_, va, ha, hr, hL, oa⟩ | ⟨hr, _⟩
  rotate_left
  · exact absurd ex1_right hr
  subst hr; subst hL
  rw [ex1_key] at oa
  obtain ⟨aa, ac, rfl⟩ := oa.val
  (apply w_mvu; rfl; apply w_ext; rfl; rfl; apply w_ext; rfl; rfl; apply w_mvs; rfl; apply w_mvi; rfl; apply w_done0; apply w_sq; apply w_reg; apply w_bnum; rfl; apply w_bvD; rfl; rfl)
  refine w_call0 rfl (h1 ht r2 (fun _ => by rw [ex2_key]; decide)) (fun r d3 L3 _ ⟨hdd, hr⟩ => ?_)
  subst hdd
  rcases hr with ⟨_, vc, hc, hr, hL, oc⟩ | ⟨hr, _⟩
  rotate_left
  · exact absurd ex2_right hr
  subst hr; subst hL
  rw [ex2_key] at oc
  obtain ⟨ca, cc, rfl⟩ := oc.val
  (apply w_mvu; rfl; apply w_ext; rfl; rfl; apply w_ext; rfl; rfl; apply w_mvs; rfl; apply w_mvi; rfl; apply w_done0; apply w_sq; apply w_reg)
  refine w_bsl (cs := ([7, 5, 97, 0, 1, 0, 3, 9] : List UInt8).map byteV) (by omega) (by simp [Instr.fill, zrow, List.range, List.range.loop, ev, Value.cells, byteV]) (fun b21 T21 => ?_)
  refine w_frz (fun d4 hl4 hg4 => ?_)
  have rb : RSl 1 RByte d4 (.slice (some ⟨b21, 0, none⟩) 8 8) ([7, 5, 97, 0, 1, 0, 3, 9] : List UInt8) := (GRow.litB (d := d4) (l := [7, 5, 97, 0, 1, 0, 3, 9]) rfl rfl (by simp)).rsl (R := RByte) mono_byte (by omega) (Le.refl _) hg4
  refine w_call0 rfl (h2 (hTm ht hl4) rb (by decide)) (fun r d5 L5 hl5 ⟨hL, hr⟩ => ?_)
  subst hL
  have e3 : ([7, 5, 97, 0, 1, 0, 3, 9] : List UInt8) = keyV (.mk 6 0 0 [] [.mk 2 0 0 [] [] []] [[97]]) ++ [9] := by rw [ex3_key]; rfl
  rcases hr with ⟨cs, x, k, hx, hbx, hk, hr, hR⟩ | ⟨hno, _⟩
  rotate_left
  · exact absurd e3 (hno _ _ ex3_right)
  obtain ⟨rfl, he⟩ := keyV_inj _ (may_shp _ (right_iff.1 ex3_right).1) x _ _ (may_shp _ (right_iff.1 hx).1) (hbx.symm.trans e3)
  have hk7 : k = 7 := by
    have := congrArg List.length he
    simp at this; omega
  subst hk7
  obtain ⟨lv, kv, rfl, _, _, _, _, hlv, hkv⟩ := hR.open
  obtain ⟨ka, kc, rfl⟩ := RSl.val hkv
  have hkv' : RSl 1 RStr d5 (.slice ka 1 kc) [[97]] := hkv
  have hcs : r = .tuple #[.agg [.int .i64 6, .int .i64 0, .int .i64 0, strV [], lv, .slice ka 1 kc].toArray, .int .i64 7, .int .i64 0] := hr
  clear hr
  subst hcs
  have oa' : GRow 1 RByte d5 (.slice aa 7 ac) [4, 3, 102, 2, 3, 6, 0] ha := oa.atB
  clear oa
  have oc' : GRow 1 RByte d5 (.slice ca 5 cc) [4, 1, 154, 253, 255] hc := oc.atB
  have hlc : Cell1 RVal := cell1_val
  have hall := cell1_val _ _ _ hR
  clear oc rb r1 r2
  (apply w_mvu; rfl; apply w_ext; rfl; rfl; apply w_ext; rfl; rfl; apply w_ext; rfl; rfl; apply w_alo; intro _ _)
  refine w_stE 0 [.int .i64 6, .int .i64 0, .int .i64 0, strV [], lv, .slice ka 1 kc] rfl rfl rfl rfl (Nat.le_of_ble_eq_true rfl) hall rfl ?_
  (apply w_mvi; rfl; apply w_mvi; rfl; apply w_done0; apply w_sq; apply w_reg; apply w_mvi; rfl; apply w_eql; rfl; rfl; apply w_mvb; rfl; refine w_gdT rfl (by omega) ?_; apply w_gT; rfl; apply w_mvi; rfl; apply w_gT; rfl; apply w_eql; rfl; rfl; apply w_pickTb; rfl; rfl; apply w_mvb; rfl; refine w_gdT rfl (by omega) ?_; apply w_gT; rfl; apply w_mvi; rfl; apply w_gT; rfl; apply w_eql; rfl; rfl; apply w_pickTb; rfl; rfl; apply w_mvb; rfl; refine w_gdT rfl (by omega) ?_; apply w_gT; rfl; apply w_mvs; rfl; apply w_gT; rfl; refine w_b2sG (by rfl) (by assumption) (by simp [lk]) ?_; apply w_gT; rfl; apply w_seq; rfl; rfl; apply w_pickTb; rfl; rfl; apply w_mvb; rfl; refine w_gdT rfl (by with_reducible rfl) ?_; apply w_gT; rfl; apply w_mvs; rfl; apply w_gT; rfl; refine w_b2sG (by rfl) (by assumption) (by simp [lk]) ?_; apply w_gT; rfl; apply w_seq; rfl; rfl; apply w_pickTb; rfl; rfl; apply w_mvb; rfl; refine w_gdT rfl (by with_reducible rfl) ?_; apply w_gT; rfl; apply w_fld; rfl; apply w_gT; rfl; apply w_ld; rfl; exact hc_i 0 rfl rfl; apply w_gT; rfl; apply w_eql; rfl; rfl; apply w_pickTb; rfl; rfl; apply w_mvb; rfl; refine w_gdT rfl (by omega) ?_; apply w_gT; rfl; apply w_mvi; rfl; apply w_gT; rfl; apply w_eql; rfl; rfl; apply w_pickTb; rfl; rfl; apply w_mvb; rfl; refine w_gdT rfl (by omega) ?_; apply w_gT; rfl; apply w_fld; rfl; apply w_gT; rfl; apply w_ld; rfl; exact hc_i 0 rfl rfl; apply w_gT; rfl; apply w_len; rfl; apply w_gT; rfl; apply w_eql; rfl; rfl; apply w_pickTb; rfl; rfl; apply w_mvb; rfl; refine w_gdT rfl (by omega) ?_; apply w_gT; rfl; apply w_fld; rfl; apply w_gT; rfl; apply w_ld; rfl; exact hc_i 0 rfl rfl; apply w_gT; rfl)
  refine w_idxR (sz := 1) (R := RStr) (m := 0) (by rfl) hkv' (by rfl) rfl (by simp) ?_
  rintro _ _ _ _ _ ⟨rfl, _⟩
  (apply w_gT; rfl; apply w_ld; rfl; exact hc_ds0 (by assumption) rfl; apply w_gT; rfl; apply w_seq; rfl; rfl; apply w_pickTb; rfl; rfl; apply w_mvb; rfl; apply w_done0; apply w_ret)
  exact finQ rfl
end Go.Gk.Val
end

section
namespace Go.Gk.Val
open Go Go.Gk

def Great4Ok (P : Program) (f : FuncId) : Prop := ∀ {d : PHeap} {v : Value} {l : List V}, RVals d v l → GCall P f [v] d [] (Ret fun r d' L' => d' = d ∧ L' = [] ∧ ∃ b : Bool, r = .bool b ∧ (b = false → bulkV (.mk 0 0 0 [] l []) ≤ 2000))
theorem bulk_list {l : List V} {n : Nat} (h : bulkV (.mk 0 0 0 [] l []) ≤ n) : l.length ≤ n ∧ ∀ x ∈ l, cntV x ≤ n ∧ depthV x ≤ n ∧ bulkV x ≤ n := by
  have h1 := cnt_bulk (.mk 0 0 0 [] l [])
  have h2 := cntV_eq (.mk 0 0 0 [] l [])
  have h3 := cnts_len l
  simp only [V.keys, V.list, List.length_nil] at h2
  refine ⟨by omega, fun x hx => ?_⟩
  have h4 := cnts_mem hx
  have hb : bulkV x ≤ n := by
    have h5 := bulkV_eq (.mk 0 0 0 [] l [])
    simp only [V.keys, V.list, V.text] at h5
    have h6 := bulks_mem hx
    omega
  have h7 := depth_txt x
  have h8 := txt_bulk x
  exact ⟨by omega, by omega, hb⟩
end Go.Gk.Val
end

section
namespace Go.Gk.Val
open Go Go.Gk Go.Gk.Num
attribute [local irreducible] gwp gws

def RKTextOk (P : Program) (f : FuncId) : Prop := ∀ {d : PHeap} {s : List UInt8}, s.length ≤ 1000000000 → GCall P f [strV s] d [] (Ret fun r d' L' => d' = d ∧ ∃ h', L' = [h'] ∧ GRow 1 RByte emp r (keyT s) h')
def g_thimbleref05_text : GFun :=
 ⟨27, [(.tmp 2)],
 (.seq
 (.reg false (.op false ⟨(some 2), none, (.mv (.const (.slice none 0 0)))⟩ .done))
 (.seq
 (.reg false (.op false ⟨(some 3), none, (.mv (.const (.slice none 0 0)))⟩ .done))
 (.seq (.seq
 (.reg false (.op false ⟨(some 4), none, (.mv (.const (.int .i64 0)))⟩ .done)) (.block 0 (.loop
 (.seq (.seq
 (.reg false (.op false ⟨(some 5), none, (.mv (.tmp 4))⟩
  (.op false ⟨(some 6), none, (.mv (.tmp 0))⟩
  (.op false ⟨(some 7), none, (.lens (.tmp 6))⟩
  (.op false ⟨(some 8), none, (.bin .lss (.tmp 5) (.tmp 7))⟩ .done))))) (.cond (.tmp 8) .skip (.exit 0)))
 (.seq (.block 1
 (.seq
 (.reg false (.op false ⟨(some 11), none, (.mv (.tmp 3))⟩
  (.op false ⟨(some 12), none, (.mv (.tmp 0))⟩
  (.op false ⟨(some 13), none, (.mv (.tmp 4))⟩
  (.op false ⟨(some 14), none, (.sidx (.tmp 12) (.tmp 13))⟩
  (.op false ⟨(some 15), none, (.bsl 1 1 [(.int .u8 0)] [(0, (.tmp 14))])⟩
  (.op false ⟨(some 16), none, (.app 1 1 [(.int .u8 0)] (.tmp 11) (.tmp 15))⟩
  (.op false ⟨(some 3), none, (.mv (.tmp 16))⟩ .done))))))))
 (.seq
 (.reg false (.op false ⟨(some 17), none, (.mv (.tmp 0))⟩
  (.op false ⟨(some 18), none, (.mv (.tmp 4))⟩
  (.op false ⟨(some 19), none, (.sidx (.tmp 17) (.tmp 18))⟩
  (.op false ⟨(some 20), none, (.bin .eql (.tmp 19) (.const (.int .u8 0)))⟩ .done))))) (.cond (.tmp 20)
 (.reg false (.op false ⟨(some 21), none, (.mv (.tmp 3))⟩
  (.op false ⟨(some 22), none, (.bsl 1 1 [(.int .u8 0)] [(0, (.const (.int .u8 255)))])⟩
  (.op false ⟨(some 23), none, (.app 1 1 [(.int .u8 0)] (.tmp 21) (.tmp 22))⟩
  (.op false ⟨(some 3), none, (.mv (.tmp 23))⟩ .done))))) .skip))))
 (.reg false (.op false ⟨(some 9), none, (.mv (.tmp 4))⟩
  (.op false ⟨(some 10), none, (.bin .add (.tmp 9) (.const (.int .i64 1)))⟩
  (.op false ⟨(some 4), none, (.mv (.tmp 10))⟩ .done)))))))))
 (.seq
 (.reg false (.op false ⟨(some 24), none, (.mv (.tmp 3))⟩
  (.op false ⟨(some 25), none, (.bsl 2 1 [(.int .u8 0)] [(0, (.const (.int .u8 0))), (1, (.const (.int .u8 1)))])⟩
  (.op false ⟨(some 26), none, (.app 1 1 [(.int .u8 0)] (.tmp 24) (.tmp 25))⟩
  (.op false ⟨(some 2), none, (.mv (.tmp 26))⟩ .done))))) .ret))))⟩

theorem rktext_ok {P : Program} {f : FuncId} (hd : dec P f = some g_thimbleref05_text) : RKTextOk P f := by
  intro d s hs
  refine GCall_of hd (Nat.le_of_ble_eq_true rfl) ?_
  have hkl : (keyT s).length = (esc s).length + 2 := by simp [keyT]
  have hkl2 := keyT_len s
  show gwp P _ _ _ _ _
  apply w_sq; apply w_reg
  refine w_vs d [emp] Vs.emp ?_
  (apply w_mvs; rfl; apply w_done0; apply w_sq; apply w_reg; apply w_mvs; rfl; apply w_done0; apply w_sq; apply w_sq; apply w_reg; apply w_mvi; rfl; apply w_done0; apply w_block)
  refine w_loopV (α := Nat) (fun i v => [(0, strV s), (3, v), (4, .int .i64 i)]) (fun i v h d' L' => d' = d ∧ i ≤ s.length ∧ GRow 1 RByte emp v (esc (s.take i)) h ∧ L' = [h]) (fun i => s.length - i) 0 (.slice none 0 0) emp
    ⟨rfl, rfl, rfl, trivial⟩ ⟨rfl, Nat.zero_le _, by simpa [esc] using (GRow.nil : GRow 1 RByte emp (.slice none 0 0) [] emp), rfl⟩ ?_
  rintro i v1 h1 ρ d1 L1 ⟨hdd, hi, ho1, hL⟩
  subst hdd; subst hL
  have ho1' : GRow 1 RByte d1 v1 (esc (s.take i)) h1 := let ⟨cs, a, b⟩ := ho1; ⟨cs, a, b⟩
  by_cases hc : i < s.length
  · have het := esc_take hc
    have hsi : s[i]? = some s[i] := List.getElem?_eq_getElem hc
    have hle : (esc (s.take (i + 1))).length ≤ (esc s).length := by
      conv => rhs; rw [← List.take_append_drop (i + 1) s, esc_append]
      simp
    rw [het, List.length_append] at hle
    (apply w_sq; apply w_sq; apply w_reg; apply w_mvi; rfl; apply w_mvt; rfl; apply w_lens; rfl; apply w_lss; rfl; rfl; apply w_done0; refine w_ifdT rfl (by omega) ?_; apply w_skip; apply w_sq; apply w_block; apply w_sq; apply w_reg; apply w_mv; apply w_mvt; rfl; apply w_mvi; rfl)
    refine w_sidx i rfl rfl rfl hsi ?_
    refine w_push (b := s[i]) rfl ho1' (fun _ => rfl) (by split at hle <;> simp at hle <;> omega) (fun u2 v2 h2 o2 => ?_)
    (apply w_mv; apply w_done0; apply w_sq; apply w_reg; apply w_mvt; rfl; apply w_mvi; rfl)
    refine w_sidx i rfl rfl rfl hsi ?_
    by_cases h0 : s[i] = 0
    · have h0' : ((s[i].toNat : Nat) : Int) = 0 := by rw [h0]; rfl
      rw [if_pos h0] at het hle
      (apply w_eql; rfl; rfl; apply w_done0; refine w_ifdT rfl (by omega) ?_; apply w_reg; apply w_mv)
      refine w_push (b := 255) rfl o2 (fun _ => rfl) (by rw [List.length_append]; simp at hle ⊢; omega) (fun u3 v3 h3 o3 => ?_)
      (apply w_mv; apply w_done0; apply w_reg; apply w_mvi; rfl; apply w_add; rfl; rfl; omega; omega; apply w_mvi; rfl; apply w_done0)
      refine ⟨i + 1, v3, h3, by omega, ⟨rfl, rfl, int_eq (by omega), trivial⟩, rfl, hc, ?_, rfl⟩
      rw [het]
      have o4 : GRow 1 RByte emp v3 (esc (s.take i) ++ [s[i]] ++ [255]) h3 := let ⟨cs, a, b⟩ := o3; ⟨cs, a, b⟩
      simpa [h0] using o4
    · have h0' : ((s[i].toNat : Nat) : Int) ≠ 0 := fun e => h0 (UInt8.toNat_inj.1 (by simpa using e))
      rw [if_neg h0] at het hle
      (apply w_eql; rfl; rfl; apply w_done0; refine w_ifdF rfl (by omega) ?_; apply w_skip; apply w_reg; apply w_mvi; rfl; apply w_add; rfl; rfl; omega; omega; apply w_mvi; rfl; apply w_done0)
      refine ⟨i + 1, v2, h2, by omega, ⟨rfl, rfl, int_eq (by omega), trivial⟩, rfl, hc, ?_, rfl⟩
      rw [het]
      exact let ⟨cs, a, b⟩ := o2; ⟨cs, a, b⟩
  · obtain rfl : i = s.length := by omega
    rw [List.take_length] at ho1'
    (apply w_sq; apply w_sq; apply w_reg; apply w_mvi; rfl; apply w_mvt; rfl; apply w_lens; rfl; apply w_lss; rfl; rfl; apply w_done0; refine w_ifdF rfl (by omega) ?_; apply w_exit; apply w_sq; apply w_reg; apply w_mv)
    refine w_push2 (b := 0) (b' := 1) rfl rfl ho1' (fun _ => rfl) (by omega) (fun u2 v2 h2 o2 => ?_)
    (apply w_mv; apply w_done0; apply w_ret)
    have o3 : GRow 1 RByte emp v2 (keyT s) h2 := let ⟨cs, a, b⟩ := o2; ⟨cs, a, b⟩
    exact fin1 (v := v2) (L' := [h2]) rfl (List.Sublist.refl _) ⟨rfl, h2, rfl, o3⟩

def RKNumberOk (P : Program) (f : FuncId) : Prop := ∀ {d : PHeap} {m : Nat} {e : Int}, m < 1000000000000000000 → -64 ≤ e → e ≤ 64 → GCall P f [.agg [.int .i64 (m : Nat), .int .i64 e].toArray] d [] (Ret fun r d' L' => d' = d ∧ ∃ h', L' = [h'] ∧ GRow 1 RByte emp r (keyP 0 m e) h')
theorem tn0 (b : UInt8) : tn 0 b = b := by rw [tn, UInt8.zero_xor]
def g_thimbleref05_number : GFun :=
 ⟨32, [(.tmp 2)],
 (.seq
 (.reg false (.op false ⟨(some 1), none, (.box (.tmp 0))⟩
  (.op false ⟨(some 2), none, (.mv (.const (.slice none 0 0)))⟩ .done)))
 (.seq
 (.reg false (.op false ⟨(some 3), none, (.mv (.const (.slice none 0 0)))⟩ .done))
 (.seq (.seq
 (.reg false (.op false ⟨(some 6), none, (.fld 0 (.tmp 1))⟩
  (.op false ⟨(some 7), none, (.ld none (.tmp 6))⟩
  (.op false ⟨(some 4), none, (.mv (.tmp 7))⟩ .done)))) (.block 0 (.loop
 (.seq (.seq
 (.reg false (.op false ⟨(some 8), none, (.mv (.tmp 4))⟩
  (.op false ⟨(some 9), none, (.bin .gtr (.tmp 8) (.const (.int .i64 0)))⟩ .done))) (.cond (.tmp 9) .skip (.exit 0)))
 (.seq (.block 1
 (.reg false (.op false ⟨(some 12), none, (.mv (.tmp 4))⟩
  (.op false ⟨(some 13), none, (.bin .rem (.tmp 12) (.const (.int .i64 10)))⟩
  (.op false ⟨(some 14), none, (.bin .add (.const (.int .i64 1)) (.tmp 13))⟩
  (.op false ⟨(some 15), none, (.cvi .u8 (.tmp 14))⟩
  (.op false ⟨(some 16), none, (.bsl 1 1 [(.int .u8 0)] [(0, (.tmp 15))])⟩
  (.op false ⟨(some 17), none, (.mv (.tmp 3))⟩
  (.op false ⟨(some 18), none, (.app 1 1 [(.int .u8 0)] (.tmp 16) (.tmp 17))⟩
  (.op false ⟨(some 3), none, (.mv (.tmp 18))⟩ .done))))))))))
 (.reg false (.op false ⟨(some 10), none, (.mv (.tmp 4))⟩
  (.op false ⟨(some 11), none, (.bin .quo (.tmp 10) (.const (.int .i64 10)))⟩
  (.op false ⟨(some 4), none, (.mv (.tmp 11))⟩ .done)))))))))
 (.seq
 (.reg false (.op false ⟨(some 19), none, (.mv (.tmp 3))⟩
  (.op false ⟨(some 20), none, (.len (.tmp 19))⟩
  (.op false ⟨(some 21), none, (.bin .add (.const (.int .i64 100)) (.tmp 20))⟩
  (.op false ⟨(some 22), none, (.fld 1 (.tmp 1))⟩
  (.op false ⟨(some 23), none, (.ld none (.tmp 22))⟩
  (.op false ⟨(some 24), none, (.bin .add (.tmp 21) (.tmp 23))⟩
  (.op false ⟨(some 25), none, (.cvi .u8 (.tmp 24))⟩
  (.op false ⟨(some 26), none, (.bsl 1 1 [(.int .u8 0)] [(0, (.tmp 25))])⟩
  (.op false ⟨(some 27), none, (.mv (.tmp 3))⟩
  (.op false ⟨(some 28), none, (.app 1 1 [(.int .u8 0)] (.tmp 26) (.tmp 27))⟩
  (.op false ⟨(some 5), none, (.mv (.tmp 28))⟩ .done))))))))))))
 (.seq
 (.reg false (.op false ⟨(some 29), none, (.mv (.tmp 5))⟩
  (.op false ⟨(some 30), none, (.bsl 1 1 [(.int .u8 0)] [(0, (.const (.int .u8 0)))])⟩
  (.op false ⟨(some 31), none, (.app 1 1 [(.int .u8 0)] (.tmp 29) (.tmp 30))⟩
  (.op false ⟨(some 2), none, (.mv (.tmp 31))⟩ .done))))) .ret)))))⟩

theorem rknumber_ok {P : Program} {f : FuncId} (hd : dec P f = some g_thimbleref05_number) : RKNumberOk P f := by
  intro d m e hm he1 he2
  refine GCall_of hd (Nat.le_of_ble_eq_true rfl) ?_
  have hml : (digN m).length ≤ 18 := (digN_len _ 18).2 hm
  show gwp P _ _ _ _ _
  apply w_sq; apply w_reg
  refine w_boxa (l := [.int .i64 (m : Nat), .int .i64 e]) rfl (fun b1 T1 => ?_)
  refine w_vs d [emp, bx b1 T1 [.int .i64 (m : Nat), .int .i64 e]] Vs.emp ?_
  (apply w_mvs; rfl; apply w_done0; apply w_sq; apply w_reg; apply w_mvs; rfl; apply w_done0; apply w_sq; apply w_sq; apply w_reg; apply w_fld; rfl; apply w_ld; rfl; exact hc_i 1 rfl rfl; apply w_mvi; rfl; apply w_done0; apply w_block)
  refine w_loopV (α := Nat × List Nat) (fun x v => [(1, .pointer (some ⟨b1, 0, none⟩)), (3, v), (4, .int .i64 x.1)]) (fun x v h d' L' => d' = d ∧ x.1 ≤ m ∧ digN m = digN x.1 ++ x.2 ∧ GRow 1 RByte d v (x.2.map fun a => UInt8.ofNat (a + 1)) h ∧ L' = [h, bx b1 T1 [.int .i64 (m : Nat), .int .i64 e]]) (fun x => x.1) (m, []) (.slice none 0 0) emp
    ⟨rfl, rfl, rfl, trivial⟩ ⟨rfl, Nat.le_refl _, by simp, GRow.nil, rfl⟩ ?_
  rintro ⟨n, D⟩ v1 h1 ρ d1 L1 ⟨hdd, hn, hdg, ho1, hL⟩
  subst hdd; subst hL
  simp only at hn hdg ho1 ⊢
  have hDl : D.length ≤ 18 := by have := congrArg List.length hdg; simp at this; omega
  by_cases hc : (0 : Int) < (n : Nat)
  · have hp := digN_pos (n := n) (by omega)
    have hb : UInt8.ofNat ((1 + (n : Int) % 10) % 256).toNat = UInt8.ofNat (n % 10 + 1) := by congr 1; omega
    (apply w_sq; apply w_sq; apply w_reg; apply w_mvi; rfl; apply w_gtr; rfl; rfl; apply w_done0; refine w_ifdT rfl (by omega) ?_; apply w_skip; apply w_sq; apply w_block; apply w_reg; apply w_mvi; rfl; apply w_rem; rfl; rfl; omega; omega; apply w_add; rfl; rfl; omega; omega; apply w_cvb; rfl)
    refine w_bs1 (v0 := byteV (UInt8.ofNat (n % 10 + 1))) (by rw [← hb]; rfl) rfl (fun b16 T16 => ?_)
    (apply w_mv)
    refine w_appG (R := RByte) (xs := [UInt8.ofNat (n % 10 + 1)]) 0 rfl rfl (GRow.litB (l := [UInt8.ofNat (n % 10 + 1)]) rfl rfl (by simp)) rfl (ho1.src cell1_byte (by simp)) (by omega) (by simp; omega) (by simp; omega) (fun v18 h18 o18 => ?_)
    refine w_vs d1 [h18, bx b1 T1 [.int .i64 (m : Nat), .int .i64 e]] (Vs.drop (.cons_cons _ (.cons _ (.cons_cons _ .slnil)))) ?_
    (apply w_mv; apply w_done0; apply w_reg; apply w_mvi; rfl; apply w_quo; rfl; rfl; omega; omega; omega; apply w_mvi; rfl; apply w_done0)
    refine ⟨(n / 10, (n % 10) :: D), v18, h18, by simp only; omega, ⟨rfl, rfl, int_eq (by simp only; omega), trivial⟩, rfl, by simp only; omega, ?_, by simpa using o18, rfl⟩
    simp only
    rw [hdg, hp]; simp
  · obtain rfl : n = 0 := by omega
    rw [digN_zero, List.nil_append] at hdg
    subst hdg
    obtain ⟨va, vc, rfl⟩ := ho1.val
    have hll : (((digN m).map fun a => UInt8.ofNat (a + 1)).length : Int) = (digN m).length := by simp
    obtain ⟨ll, hll2⟩ : ∃ ll : Nat, ((digN m).map fun a => UInt8.ofNat (a + 1)).length = ll := ⟨_, rfl⟩
    have ho2 := ho1
    rw [hll2] at ho2 hll ⊢
    (apply w_sq; apply w_sq; apply w_reg; apply w_mvi; rfl; apply w_gtr; rfl; rfl; apply w_done0; refine w_ifdF rfl (by omega) ?_; apply w_exit; apply w_sq; apply w_reg; apply w_mvs; rfl; apply w_len; rfl; apply w_add; rfl; rfl; omega; omega; apply w_fld; rfl; apply w_ld; rfl; exact hc_i 1 rfl rfl; apply w_add; rfl; rfl; omega; omega; apply w_cvb; rfl)
    have hX : 100 + (ll : Int) + e = 100 + ((digN m).length : Int) + e := by omega
    refine w_bs1 (v0 := byteV (UInt8.ofNat ((100 + (ll : Int) + e) % 256).toNat)) rfl rfl (fun b16 T16 => ?_)
    (apply w_mvs; rfl)
    refine w_appG (R := RByte) (xs := [UInt8.ofNat ((100 + (ll : Int) + e) % 256).toNat]) 0 rfl rfl (GRow.litB (l := [UInt8.ofNat ((100 + (ll : Int) + e) % 256).toNat]) rfl rfl (by simp)) rfl (ho2.src cell1_byte (by simp)) (by omega) (by simp; omega) (by simp; omega) (fun v18 h18 o18 => ?_)
    (apply w_mv; apply w_done0; apply w_sq; apply w_reg; apply w_mv)
    refine w_push (b := 0) rfl o18 (fun _ => rfl) (by simp; omega) (fun u2 v2 h2 o2 => ?_)
    (apply w_mv; apply w_done0; apply w_ret)
    have o3 : GRow 1 RByte emp v2 (keyP 0 m e) h2 := by
      have : keyP 0 m e = [UInt8.ofNat ((100 + (ll : Int) + e) % 256).toNat] ++ ((digN m).map fun a => UInt8.ofNat (a + 1)) ++ [0] := by simp [keyP, tn0, hX]
      rw [this]; exact let ⟨cs, a, b⟩ := o2; ⟨cs, a, b⟩
    exact fin1 (v := v2) (L' := [h2]) rfl (by simp) ⟨rfl, h2, rfl, o3⟩
end Go.Gk.Val
end

section
namespace Go.Gk.Val
open Go Go.Gk Go.Gk.Num
attribute [local irreducible] gwp gws

theorem xor255 (b : UInt8) : (255 : UInt8) ^^^ b = UInt8.ofNat (255 - b.toNat) := by
  rw [show (255 : UInt8) = -1 from rfl, UInt8.neg_one_xor]
  apply UInt8.toNat_inj.1
  have hb := b.toNat_lt
  rw [UInt8.toNat_not]
  simp; omega
def flip (b : UInt8) : UInt8 := UInt8.ofNat (255 - b.toNat)
theorem keyP_flip (m : Nat) (e : Int) : (keyP 0 m e).map flip = keyP 255 m e := by
  have h : ∀ b, flip (tn 0 b) = tn 255 b := fun b => by rw [tn0, flip, tn, xor255]
  simp [keyP, h]
def RKDigitOk (P : Program) (f : FuncId) : Prop := ∀ {d : PHeap} {m e : Int}, numRight m e = true → GCall P f [.agg [.int .i64 m, .int .i64 e].toArray] d [] (Ret fun r d' L' => d' = d ∧ ∃ h', L' = [h'] ∧ GRow 1 RByte emp r (keyN m e) h')
def g_thimbleref05_digit (f_thimbleref05_number : Nat) : GFun :=
 ⟨40, [(.tmp 2)],
 (.seq
 (.reg false (.op false ⟨(some 1), none, (.box (.tmp 0))⟩
  (.op false ⟨(some 2), none, (.mv (.const (.slice none 0 0)))⟩ .done)))
 (.seq (.seq
 (.reg false (.op false ⟨(some 5), none, (.fld 0 (.tmp 1))⟩
  (.op false ⟨(some 6), none, (.ld none (.tmp 5))⟩
  (.op false ⟨(some 7), none, (.bin .gtr (.tmp 6) (.const (.int .i64 0)))⟩ .done)))) (.cond (.tmp 7)
 (.seq
 (.reg false (.op false ⟨(some 8), none, (.bsl 1 1 [(.int .u8 0)] [(0, (.const (.int .u8 3)))])⟩
  (.op false ⟨(some 9), none, (.ld (some 2) (.tmp 1))⟩
  (.op false ⟨(some 10), none, (.call f_thimbleref05_number [(.tmp 9)])⟩
  (.op false ⟨(some 11), none, (.app 1 1 [(.int .u8 0)] (.tmp 8) (.tmp 10))⟩
  (.op false ⟨(some 2), none, (.mv (.tmp 11))⟩ .done)))))) .ret) .skip))
 (.seq (.seq
 (.reg false (.op false ⟨(some 12), none, (.fld 0 (.tmp 1))⟩
  (.op false ⟨(some 13), none, (.ld none (.tmp 12))⟩
  (.op false ⟨(some 14), none, (.bin .eql (.tmp 13) (.const (.int .i64 0)))⟩ .done)))) (.cond (.tmp 14)
 (.seq
 (.reg false (.op false ⟨(some 15), none, (.bsl 1 1 [(.int .u8 0)] [(0, (.const (.int .u8 2)))])⟩
  (.op false ⟨(some 2), none, (.mv (.tmp 15))⟩ .done))) .ret) .skip))
 (.seq
 (.reg false (.op false ⟨(some 16), none, (.fld 0 (.tmp 1))⟩
  (.op false ⟨(some 17), none, (.ld none (.tmp 16))⟩
  (.op false ⟨(some 18), none, (.un .neg (.tmp 17))⟩
  (.op false ⟨(some 19), none, (.fld 1 (.tmp 1))⟩
  (.op false ⟨(some 20), none, (.ld none (.tmp 19))⟩
  (.op false ⟨(some 21), none, (.bld [(0, 1), (1, 1)] [(.int .i64 0), (.int .i64 0)] [(0, (.tmp 18)), (1, (.tmp 20))])⟩
  (.op false ⟨(some 22), none, (.call f_thimbleref05_number [(.tmp 21)])⟩
  (.op false ⟨(some 3), none, (.mv (.tmp 22))⟩ .done)))))))))
 (.seq (.seq
 (.reg false (.op false ⟨(some 4), none, (.mv (.const (.int .i64 0)))⟩ .done)) (.block 0 (.loop
 (.seq (.seq
 (.reg false (.op false ⟨(some 23), none, (.mv (.tmp 4))⟩
  (.op false ⟨(some 24), none, (.mv (.tmp 3))⟩
  (.op false ⟨(some 25), none, (.len (.tmp 24))⟩
  (.op false ⟨(some 26), none, (.bin .lss (.tmp 23) (.tmp 25))⟩ .done))))) (.cond (.tmp 26) .skip (.exit 0)))
 (.seq (.block 1
 (.reg false (.op false ⟨(some 29), none, (.mv (.tmp 3))⟩
  (.op false ⟨(some 30), none, (.mv (.tmp 4))⟩
  (.op false ⟨(some 31), none, (.mv (.tmp 3))⟩
  (.op false ⟨(some 32), none, (.mv (.tmp 4))⟩
  (.op false ⟨(some 33), none, (.idx 1 (.tmp 31) (.tmp 32))⟩
  (.op false ⟨(some 34), none, (.ld none (.tmp 33))⟩
  (.op false ⟨(some 35), none, (.bin .sub (.const (.int .u8 255)) (.tmp 34))⟩
  (.op false ⟨(some 36), none, (.idx 1 (.tmp 29) (.tmp 30))⟩
  (.op false ⟨none, none, (.st 1 (.tmp 36) (.tmp 35))⟩ .done)))))))))))
 (.reg false (.op false ⟨(some 27), none, (.mv (.tmp 4))⟩
  (.op false ⟨(some 28), none, (.bin .add (.tmp 27) (.const (.int .i64 1)))⟩
  (.op false ⟨(some 4), none, (.mv (.tmp 28))⟩ .done)))))))))
 (.seq
 (.reg false (.op false ⟨(some 37), none, (.bsl 1 1 [(.int .u8 0)] [(0, (.const (.int .u8 1)))])⟩
  (.op false ⟨(some 38), none, (.mv (.tmp 3))⟩
  (.op false ⟨(some 39), none, (.app 1 1 [(.int .u8 0)] (.tmp 37) (.tmp 38))⟩
  (.op false ⟨(some 2), none, (.mv (.tmp 39))⟩ .done))))) .ret))))))⟩

theorem rkdigit_ok {P : Program} {f f1 : FuncId} (hd : dec P f = some (g_thimbleref05_digit f1)) (h1 : RKNumberOk P f1) : RKDigitOk P f := by
  intro d m e hr
  refine GCall_of hd (Nat.le_of_ble_eq_true rfl) ?_
  obtain ⟨r1, r2, r3, r4⟩ := numR0 hr
  have hkl := keyN_len hr
  show gwp P _ _ _ _ _
  apply w_sq; apply w_reg
  refine w_boxa (l := [.int .i64 m, .int .i64 e]) rfl (fun b1 T1 => ?_)
  by_cases hp : m > 0
  · have hp' : (0 : Int) < m := hp
    have hk : keyN m e = 3 :: keyP 0 m.natAbs e := by rw [keyN, if_neg (by omega), if_neg (by omega)]; simp [turnB, show ¬ m < 0 by omega]
    rw [hk] at hkl ⊢
    (apply w_mvs; rfl; apply w_done0; apply w_sq; apply w_sq; apply w_reg; apply w_fld; rfl; apply w_ld; rfl; exact hc_i 0 rfl rfl; apply w_gtr; rfl; rfl; apply w_done0; refine w_ifdT rfl (by omega) ?_; apply w_sq; apply w_reg)
    refine w_bs1 (v0 := byteV 3) rfl rfl (fun b8 T8 => ?_)
    (apply w_ldb 1; rfl; rfl; rfl)
    have hM : m = ((m.natAbs : Nat) : Int) := by omega
    refine w_call0 (show [Value.agg [Value.int .i64 m, Value.int .i64 e].toArray] = [Value.agg [Value.int .i64 ((m.natAbs : Nat) : Int), Value.int .i64 e].toArray] by rw [← hM]) (h1 (m := m.natAbs) (e := e) (by omega) r3 r4) (fun r d4 L4 _ ⟨hdd, g, hL, o4⟩ => ?_)
    subst hdd; subst hL
    have o4' : GRow 1 RByte d4 r (keyP 0 m.natAbs e) g := let ⟨cs, a, b⟩ := o4; ⟨cs, a, b⟩
    refine w_appG (R := RByte) (xs := [3]) 1 rfl rfl (GRow.litB (l := [3]) rfl rfl (by simp)) rfl (o4'.src cell1_byte (by simp)) (by omega) (by simp at hkl ⊢; omega) (by simp at hkl ⊢; omega) (fun v18 h18 o18 => ?_)
    (apply w_mv; apply w_done0; apply w_ret)
    have o5 : GRow 1 RByte emp v18 (3 :: keyP 0 m.natAbs e) h18 := let ⟨cs, a, b⟩ := o18; ⟨cs, a, b⟩
    exact fin1 (v := v18) (L' := [h18]) rfl (.cons _ (.cons_cons _ (.cons _ .slnil))) ⟨rfl, h18, rfl, o5⟩
  by_cases h0 : m = 0
  · subst h0
    have hk : keyN 0 e = [2] := rfl
    rw [hk]
    (apply w_mvs; rfl; apply w_done0; apply w_sq; apply w_sq; apply w_reg; apply w_fld; rfl; apply w_ld; rfl; exact hc_i 0 rfl rfl; apply w_gtr; rfl; rfl; apply w_done0; refine w_ifdF rfl (by omega) ?_; apply w_skip; apply w_sq; apply w_sq; apply w_reg; apply w_fld; rfl; apply w_ld; rfl; exact hc_i 0 rfl rfl; apply w_eql; rfl; rfl; apply w_done0; refine w_ifdT rfl (by omega) ?_; apply w_sq; apply w_reg)
    refine w_bs1 (v0 := byteV 2) rfl rfl (fun b15 T15 => ?_)
    (apply w_mvs; rfl; apply w_done0; apply w_ret)
    exact fin1 (L' := [bx b15 T15 [byteV 2]]) rfl (by simp) ⟨rfl, _, rfl, GRow.litB (l := [2]) rfl rfl (by simp)⟩
  have hn : m < 0 := by omega
  have hk : keyN m e = 1 :: keyP 255 m.natAbs e := by rw [keyN, if_neg (by omega), if_pos hn]; simp [turnB, hn]
  rw [hk] at hkl ⊢
  (apply w_mvs; rfl; apply w_done0; apply w_sq; apply w_sq; apply w_reg; apply w_fld; rfl; apply w_ld; rfl; exact hc_i 0 rfl rfl; apply w_gtr; rfl; rfl; apply w_done0; refine w_ifdF rfl (by omega) ?_; apply w_skip; apply w_sq; apply w_sq; apply w_reg; apply w_fld; rfl; apply w_ld; rfl; exact hc_i 0 rfl rfl; apply w_eql; rfl; rfl; apply w_done0; refine w_ifdF rfl (by omega) ?_; apply w_skip; apply w_sq; apply w_reg; apply w_fld; rfl; apply w_ld; rfl; exact hc_i 0 rfl rfl; apply w_neg; rfl; omega; omega; apply w_fld; rfl; apply w_ld; rfl; exact hc_i 0 rfl rfl; apply w_bnum2; rfl; rfl)
  have hM : -m = ((m.natAbs : Nat) : Int) := by omega
  refine w_call0 (show [Value.agg [Value.int .i64 (-m), Value.int .i64 e].toArray] = [Value.agg [Value.int .i64 ((m.natAbs : Nat) : Int), Value.int .i64 e].toArray] by rw [← hM]) (h1 (m := m.natAbs) (e := e) (by omega) r3 r4) (fun r d4 L4 _ ⟨hdd, g, hL, o4⟩ => ?_)
  subst hdd; subst hL
  rw [← keyP_flip] at hkl ⊢
  obtain ⟨B, hB⟩ : ∃ B, keyP 0 m.natAbs e = B := ⟨_, rfl⟩
  rw [hB] at o4 hkl ⊢
  have hBl : B.length ≤ 21 := by simp at hkl; omega
  have o4' : GRow 1 RByte d4 r B g := let ⟨cs, a, b⟩ := o4; ⟨cs, a, b⟩
  (apply w_mv; apply w_done0; apply w_sq; apply w_sq; apply w_reg; apply w_mvi; rfl; apply w_done0; apply w_block)
  refine w_loopV (α := Nat) (fun i v => [(3, v), (4, .int .i64 i)]) (fun i v h d' L' => d' = d4 ∧ i ≤ B.length ∧ GRow 1 RByte d4 v ((B.take i).map flip ++ B.drop i) h ∧ L' = [h, bx b1 T1 [.int .i64 m, .int .i64 e]]) (fun i => B.length - i) 0 r g ⟨rfl, rfl, trivial⟩ ⟨rfl, Nat.zero_le _, by simpa using o4', rfl⟩ ?_
  rintro i v5 h5 ρ d5 L5 ⟨hdd, hi, o5, hL⟩
  subst hdd; subst hL
  have hlen : ((B.take i).map flip ++ B.drop i).length = B.length := by simp; omega
  obtain ⟨C, hC⟩ : ∃ C, (B.take i).map flip ++ B.drop i = C := ⟨_, rfl⟩
  rw [hC] at o5 hlen
  by_cases hc : i < B.length
  · have hcC : i < C.length := by omega
    obtain ⟨bb, Tb, lb, cb, hv, hh, hml, hget, hset⟩ := o5.openB hcC
    subst hv; subst hh
    have hCi : C[i] = B[i] := by
      subst hC
      rw [List.getElem_append_right (by simp; omega)]
      simp [Nat.min_eq_left hi]
    rw [hCi] at hget
    have hbl := B[i].toNat_lt
    rw [hlen]
    (apply w_sq; apply w_sq; apply w_reg; apply w_mvi; rfl; apply w_mvs; rfl; apply w_len; rfl; apply w_lss; rfl; rfl; apply w_done0; refine w_ifdT rfl (by omega) ?_; apply w_skip; apply w_sq; apply w_block; apply w_reg; apply w_mvs; rfl; apply w_mvi; rfl; apply w_mvs; rfl; apply w_mvi; rfl)
    refine w_idx i rfl rfl rfl hc (SAd.some _ bb 0) ?_
    refine w_ld rfl (hc_i 0 rfl (by simpa using hget)) ?_
    refine w_sub8 (a := 255) (b := B[i].toNat) rfl rfl (by omega) (by omega) ?_
    refine w_idx i rfl rfl rfl hc (SAd.some _ bb 0) ?_
    have hfl : Value.int .u8 (255 - ((B[i].toNat : Nat) : Int)) = byteV (flip B[i]) := by
      simp only [byteV, flip]
      have : (UInt8.ofNat (255 - B[i].toNat)).toNat = 255 - B[i].toNat := by simp; omega
      rw [this]; exact int_eq (by omega)
    refine w_stE 0 (patch lb i [byteV (flip B[i])]) rfl rfl hfl rfl (by simp; omega) rfl (by rw [Nat.zero_add, Nat.mul_one]; rfl) ?_
    (apply w_done0; apply w_reg; apply w_mvi; rfl; apply w_add; rfl; rfl; omega; omega; apply w_mvi; rfl; apply w_done0)
    have hs := hset (flip B[i])
    rw [hlen] at hs
    have e : C.set i (flip B[i]) = (B.take (i + 1)).map flip ++ B.drop (i + 1) := by
      have hz : i - ((B.take i).map flip).length = 0 := by simp; omega
      rw [← hC, List.drop_eq_getElem_cons hc, List.set_append_right _ _ (by simp; omega), hz, List.set_cons_zero, List.take_succ_eq_append_getElem hc, List.map_append, List.append_assoc]
      rfl
    rw [e] at hs
    exact ⟨i + 1, _, _, by omega, ⟨rfl, int_eq (by omega), trivial⟩, rfl, hc, hs, rfl⟩
  · obtain rfl : i = B.length := by omega
    rw [List.take_length, List.drop_length, List.append_nil] at hC
    subst hC
    obtain ⟨va, vc, rfl⟩ := o5.val
    have o5' := o5
    rw [hlen] at o5' ⊢
    (apply w_sq; apply w_sq; apply w_reg; apply w_mvi; rfl; apply w_mvs; rfl; apply w_len; rfl; apply w_lss; rfl; rfl; apply w_done0; refine w_ifdF rfl (by omega) ?_; apply w_exit; apply w_sq; apply w_reg)
    refine w_bs1 (v0 := byteV 1) rfl rfl (fun b37 T37 => ?_)
    (apply w_mvs; rfl)
    refine w_appG (R := RByte) (xs := [1]) 0 rfl rfl (GRow.litB (l := [1]) rfl rfl (by simp)) rfl (o5'.src cell1_byte (by simp)) (by omega) (by simp; omega) (by simp; omega) (fun v18 h18 o18 => ?_)
    (apply w_mv; apply w_done0; apply w_ret)
    have o6 : GRow 1 RByte emp v18 (1 :: B.map flip) h18 := let ⟨cs, a, b⟩ := o18; ⟨cs, a, b⟩
    exact fin1 (v := v18) (L' := [h18]) rfl (.cons_cons _ (.cons _ (.cons _ .slnil))) ⟨rfl, h18, rfl, o6⟩
end Go.Gk.Val
end

section
namespace Go.Gk
open Go
theorem w_mid3 {P : Program} {Q : GPost} {ρ : Env} {d : PHeap} {L : List PHeap} {a b c r : GCode} (M : Env → Post) (h1 : gwp P (.seq a (.seq b c)) { Q with n := M } ρ d L) (h2 : ∀ ρ d L, M ρ d L → gwp P r Q ρ d L) : gwp P (.seq a (.seq b (.seq c r))) Q ρ d L := by
  simp only [gwp] at h1 ⊢
  exact gwp_mono (Q := Q) (fun _ _ _ h => gwp_mono (Q := Q) (fun _ _ _ h => gwp_mono (Q := Q) h2 h) h) h1
end Go.Gk
namespace Go.Gk.Val
open Go Go.Gk Go.Gk.Num
attribute [local irreducible] gwp gws

def RKeyOk (P : Program) (f : FuncId) : Prop := ∀ (x : V) {d : PHeap} {cs : List Value}, RVal d cs x → mayV x = true → (keyV x).length ≤ 1000000000 →
  GCall P f [.agg cs.toArray] d [] (Ret fun r d' L' => d' = d ∧ ∃ h', L' = [h'] ∧ GRow 1 RByte emp r (keyV x) h')
theorem keyV_txt1 (s : List UInt8) : s.length ≤ (keyT s).length := by
  have : ∀ s : List UInt8, s.length ≤ (esc s).length := fun s => by
    induction s with
    | nil => simp
    | cons c s ih => rw [esc_cons, List.length_append, List.length_cons]; split <;> simp <;> omega
  have := this s
  simp [keyT]; omega
def g_thimbleref05_Key (f_thimbleref05_digit f_thimbleref05_text f_thimbleref05_Key : Nat) : GFun :=
 ⟨72, [(.tmp 2)],
 (.seq
 (.reg false (.op false ⟨(some 1), none, (.box (.tmp 0))⟩
  (.op false ⟨(some 2), none, (.mv (.const (.slice none 0 0)))⟩ .done)))
 (.seq
 (.reg false (.op false ⟨(some 6), none, (.fld 0 (.tmp 1))⟩
  (.op false ⟨(some 7), none, (.ld none (.tmp 6))⟩
  (.op false ⟨(some 8), none, (.bin .add (.tmp 7) (.const (.int .i64 1)))⟩
  (.op false ⟨(some 9), none, (.cvi .u8 (.tmp 8))⟩
  (.op false ⟨(some 10), none, (.bsl 1 1 [(.int .u8 0)] [(0, (.tmp 9))])⟩
  (.op false ⟨(some 3), none, (.mv (.tmp 10))⟩ .done)))))))
 (.seq (.seq
 (.reg false (.op false ⟨(some 11), none, (.fld 0 (.tmp 1))⟩
  (.op false ⟨(some 12), none, (.ld none (.tmp 11))⟩
  (.op false ⟨(some 13), none, (.bin .eql (.tmp 12) (.const (.int .i64 3)))⟩ .done)))) (.cond (.tmp 13)
 (.reg false (.op false ⟨(some 14), none, (.mv (.tmp 3))⟩
  (.op false ⟨(some 15), none, (.fld 1 (.tmp 1))⟩
  (.op false ⟨(some 16), none, (.ld (some 2) (.tmp 15))⟩
  (.op false ⟨(some 17), none, (.call f_thimbleref05_digit [(.tmp 16)])⟩
  (.op false ⟨(some 18), none, (.app 1 1 [(.int .u8 0)] (.tmp 14) (.tmp 17))⟩
  (.op false ⟨(some 3), none, (.mv (.tmp 18))⟩ .done))))))) .skip))
 (.seq (.seq
 (.reg false (.op false ⟨(some 19), none, (.fld 0 (.tmp 1))⟩
  (.op false ⟨(some 20), none, (.ld none (.tmp 19))⟩
  (.op false ⟨(some 21), none, (.bin .eql (.tmp 20) (.const (.int .i64 4)))⟩ .done)))) (.cond (.tmp 21)
 (.reg false (.op false ⟨(some 22), none, (.mv (.tmp 3))⟩
  (.op false ⟨(some 23), none, (.fld 3 (.tmp 1))⟩
  (.op false ⟨(some 24), none, (.ld none (.tmp 23))⟩
  (.op false ⟨(some 25), none, (.call f_thimbleref05_text [(.tmp 24)])⟩
  (.op false ⟨(some 26), none, (.app 1 1 [(.int .u8 0)] (.tmp 22) (.tmp 25))⟩
  (.op false ⟨(some 3), none, (.mv (.tmp 26))⟩ .done))))))) .skip))
 (.seq (.seq
 (.reg false (.op false ⟨(some 27), none, (.fld 0 (.tmp 1))⟩
  (.op false ⟨(some 28), none, (.ld none (.tmp 27))⟩
  (.op false ⟨(some 29), none, (.bin .eql (.tmp 28) (.const (.int .i64 6)))⟩ .done)))) (.cond (.tmp 29)
 (.seq (.seq
 (.reg false (.op false ⟨(some 4), none, (.mv (.const (.int .i64 0)))⟩ .done)) (.block 0 (.loop
 (.seq (.seq
 (.reg false (.op false ⟨(some 30), none, (.mv (.tmp 4))⟩
  (.op false ⟨(some 31), none, (.fld 5 (.tmp 1))⟩
  (.op false ⟨(some 32), none, (.ld none (.tmp 31))⟩
  (.op false ⟨(some 33), none, (.len (.tmp 32))⟩
  (.op false ⟨(some 34), none, (.bin .lss (.tmp 30) (.tmp 33))⟩ .done)))))) (.cond (.tmp 34) .skip (.exit 0)))
 (.seq (.block 1
 (.reg true (.op true ⟨(some 37), none, (.mv (.tmp 3))⟩
  (.op true ⟨(some 40), none, (.fld 5 (.tmp 1))⟩
  (.op true ⟨(some 41), none, (.ld none (.tmp 40))⟩
  (.op true ⟨(some 42), none, (.mv (.tmp 4))⟩
  (.op true ⟨(some 43), none, (.idx 1 (.tmp 41) (.tmp 42))⟩
  (.op true ⟨(some 44), none, (.ld none (.tmp 43))⟩
  (.op false ⟨(some 38), none, (.bsl 1 1 [(.int .u8 0)] [(0, (.const (.int .u8 5)))])⟩
  (.op false ⟨(some 39), none, (.app 1 1 [(.int .u8 0)] (.tmp 37) (.tmp 38))⟩
  (.op false ⟨(some 45), none, (.call f_thimbleref05_text [(.tmp 44)])⟩
  (.op false ⟨(some 46), none, (.app 1 1 [(.int .u8 0)] (.tmp 39) (.tmp 45))⟩
  (.bar (.op true ⟨(some 3), none, (.mv (.tmp 46))⟩ .done))))))))))))))
 (.reg false (.op false ⟨(some 35), none, (.mv (.tmp 4))⟩
  (.op false ⟨(some 36), none, (.bin .add (.tmp 35) (.const (.int .i64 1)))⟩
  (.op false ⟨(some 4), none, (.mv (.tmp 36))⟩ .done)))))))))
 (.reg false (.op false ⟨(some 47), none, (.mv (.tmp 3))⟩
  (.op false ⟨(some 48), none, (.bsl 1 1 [(.int .u8 0)] [(0, (.const (.int .u8 0)))])⟩
  (.op false ⟨(some 49), none, (.app 1 1 [(.int .u8 0)] (.tmp 47) (.tmp 48))⟩
  (.op false ⟨(some 3), none, (.mv (.tmp 49))⟩ .done)))))) .skip))
 (.seq (.seq
 (.reg false (.op false ⟨(some 5), none, (.mv (.const (.int .i64 0)))⟩ .done)) (.block 2 (.loop
 (.seq (.seq
 (.reg false (.op false ⟨(some 50), none, (.mv (.tmp 5))⟩
  (.op false ⟨(some 51), none, (.fld 4 (.tmp 1))⟩
  (.op false ⟨(some 52), none, (.ld none (.tmp 51))⟩
  (.op false ⟨(some 53), none, (.len (.tmp 52))⟩
  (.op false ⟨(some 54), none, (.bin .lss (.tmp 50) (.tmp 53))⟩ .done)))))) (.cond (.tmp 54) .skip (.exit 2)))
 (.seq (.block 3
 (.reg false (.op false ⟨(some 57), none, (.mv (.tmp 3))⟩
  (.op false ⟨(some 58), none, (.fld 4 (.tmp 1))⟩
  (.op false ⟨(some 59), none, (.ld none (.tmp 58))⟩
  (.op false ⟨(some 60), none, (.mv (.tmp 5))⟩
  (.op false ⟨(some 61), none, (.idx 6 (.tmp 59) (.tmp 60))⟩
  (.op false ⟨(some 62), none, (.ld (some 6) (.tmp 61))⟩
  (.op false ⟨(some 63), none, (.call f_thimbleref05_Key [(.tmp 62)])⟩
  (.op false ⟨(some 64), none, (.app 1 1 [(.int .u8 0)] (.tmp 57) (.tmp 63))⟩
  (.op false ⟨(some 3), none, (.mv (.tmp 64))⟩ .done)))))))))))
 (.reg false (.op false ⟨(some 55), none, (.mv (.tmp 5))⟩
  (.op false ⟨(some 56), none, (.bin .add (.tmp 55) (.const (.int .i64 1)))⟩
  (.op false ⟨(some 5), none, (.mv (.tmp 56))⟩ .done)))))))))
 (.seq (.seq
 (.reg false (.op false ⟨(some 65), none, (.fld 0 (.tmp 1))⟩
  (.op false ⟨(some 66), none, (.ld none (.tmp 65))⟩
  (.op false ⟨(some 67), none, (.bin .eql (.tmp 66) (.const (.int .i64 5)))⟩ .done)))) (.cond (.tmp 67)
 (.reg false (.op false ⟨(some 68), none, (.mv (.tmp 3))⟩
  (.op false ⟨(some 69), none, (.bsl 1 1 [(.int .u8 0)] [(0, (.const (.int .u8 0)))])⟩
  (.op false ⟨(some 70), none, (.app 1 1 [(.int .u8 0)] (.tmp 68) (.tmp 69))⟩
  (.op false ⟨(some 3), none, (.mv (.tmp 70))⟩ .done))))) .skip))
 (.seq
 (.reg false (.op false ⟨(some 71), none, (.mv (.tmp 3))⟩
  (.op false ⟨(some 2), none, (.mv (.tmp 71))⟩ .done))) .ret))))))))⟩

set_option maxHeartbeats 1000000 in
theorem rkey_ok {P : Program} {f f1 f2 : FuncId} (hd : dec P f = some (g_thimbleref05_Key f1 f2 f)) (h1 : RKDigitOk P f1) (h2 : RKTextOk P f2) : RKeyOk P f := by
  intro x
  induction x using V.ind with
  | h x ih =>
  intro d cs hv hmay hb
  refine GCall.forget (Q := fun r L' => ∃ h', L' = [h'] ∧ GRow 1 RByte emp r (keyV x) h') (GCall_of hd (Nat.le_of_ble_eq_true rfl) ?_)
  obtain ⟨lv, kv, rfl, ik, im, ie, it, hl, hks⟩ := hv.open
  obtain ⟨la, lc, rfl⟩ := RSl.val hl
  obtain ⟨ka, kc, rfl⟩ := RSl.val hks
  obtain ⟨hk, hkm, hkt, hkl, hkk, hnr⟩ := may_bare hmay
  have hml := may_subs hmay
  have hkey := keyV_eq x
  rw [hkey, List.length_cons] at hb
  show gwp P _ _ _ _ _
  apply w_sq; apply w_reg
  refine w_boxa (l := [.int .i64 x.kind, .int .i64 x.m, .int .i64 x.e, strV x.text, .slice la x.list.length lc, .slice ka x.keys.length kc]) rfl (fun b1 T1 => ?_)
  refine w_frz (fun d1 hl1 hg1 => ?_)
  have hc1 : DCs d1 b1 0 [.int .i64 x.kind, .int .i64 x.m, .int .i64 x.e, strV x.text, .slice la x.list.length lc, .slice ka x.keys.length kc] := dcs_bx hg1
  have hl' : RSl 6 RVal d1 (.slice la x.list.length lc) x.list := RVals.mono hl hl1
  have hks' : RSl 1 RStr d1 (.slice ka x.keys.length kc) x.keys := RStrs.mono hks hl1
  have nk := RSl.len_le hks'
  have nl := RSl.len_le hl'
  (apply w_mvs; rfl; apply w_done0)
  apply w_sq; apply w_reg
  (apply w_fld; rfl; apply w_ld; rfl; exact hc_ds (by assumption) rfl; apply w_add; rfl; rfl; omega; omega; apply w_cvb; rfl)
  obtain ⟨kb, hkb⟩ : ∃ kb, UInt8.ofNat ((x.kind + 1) % 256).toNat = kb := ⟨_, rfl⟩
  refine w_bs1 (v0 := byteV kb) (by rw [← hkb]; rfl) rfl (fun b10 T10 => ?_)
  (apply w_mvs; rfl; apply w_done0)
  rw [hkb] at hkey
  obtain ⟨W, hW⟩ : ∃ W, kb :: (if x.kind = 3 then keyN x.m x.e else if x.kind = 4 then keyT x.text else if x.kind = 6 then keyKs x.keys ++ [0] else []) = W := ⟨_, rfl⟩
  refine w_mid3 (fun ρ d' L' => d' = d1 ∧ ∃ v3 h3, SlotsAre ρ [(1, .pointer (some ⟨b1, 0, none⟩)), (3, v3)] ∧ GRow 1 RByte d1 v3 W h3 ∧ L' = [h3]) ?_ ?_
  · by_cases k3 : x.kind = 3
    · rw [if_pos k3] at hW hb
      (apply w_sq; apply w_sq; apply w_reg; apply w_fld; rfl; apply w_ld; rfl; exact hc_ds (by assumption) rfl; apply w_eql; rfl; rfl; apply w_done0; refine w_ifdT rfl (by omega) ?_; apply w_reg; apply w_mvs; rfl; apply w_fld; rfl; apply w_lddp; rfl; assumption; rfl)
      refine w_call0 rfl (h1 hnr) (fun r d4 L4 _ ⟨hdd, g, hL, o4⟩ => ?_)
      subst hdd; subst hL
      have o4' : GRow 1 RByte d4 r (keyN x.m x.e) g := o4.atB
      refine w_appG (R := RByte) (xs := [kb]) 1 rfl rfl (GRow.litB (l := [kb]) rfl rfl (by simp)) rfl (o4'.src cell1_byte (by simp)) (by omega) (by simp; omega) (by simp; omega) (fun v18 h18 o18 => ?_)
      refine w_vs d4 [h18] (Vs.drop (.cons _ (.cons_cons _ .slnil))) ?_
      (apply w_mv; apply w_done0; apply w_sq; apply w_sq; apply w_reg; apply w_fld; rfl; apply w_ld; rfl; exact hc_ds (by assumption) rfl; apply w_eql; rfl; rfl; apply w_done0; refine w_ifdF rfl (by omega) ?_; apply w_skip; apply w_sq; apply w_reg; apply w_fld; rfl; apply w_ld; rfl; exact hc_ds (by assumption) rfl; apply w_eql; rfl; rfl; apply w_done0; refine w_ifdF rfl (by omega) ?_; apply w_skip)
      exact ⟨rfl, v18, h18, ⟨rfl, rfl, trivial⟩, by rw [← hW]; exact o18, rfl⟩
    by_cases k4 : x.kind = 4
    · rw [if_neg k3, if_pos k4] at hW hb
      have hx1 := keyV_txt1 x.text
      (apply w_sq; apply w_sq; apply w_reg; apply w_fld; rfl; apply w_ld; rfl; exact hc_ds (by assumption) rfl; apply w_eql; rfl; rfl; apply w_done0; refine w_ifdF rfl (by omega) ?_; apply w_skip; apply w_sq; apply w_sq; apply w_reg; apply w_fld; rfl; apply w_ld; rfl; exact hc_ds (by assumption) rfl; apply w_eql; rfl; rfl; apply w_done0; refine w_ifdT rfl (by omega) ?_; apply w_reg; apply w_mvs; rfl; apply w_fld; rfl; apply w_ld; rfl; exact hc_ds (by assumption) rfl)
      refine w_call0 rfl (h2 (by omega)) (fun r d4 L4 _ ⟨hdd, g, hL, o4⟩ => ?_)
      subst hdd; subst hL
      have o4' : GRow 1 RByte d4 r (keyT x.text) g := o4.atB
      refine w_appG (R := RByte) (xs := [kb]) 1 rfl rfl (GRow.litB (l := [kb]) rfl rfl (by simp)) rfl (o4'.src cell1_byte (by simp)) (by omega) (by simp; omega) (by simp; omega) (fun v18 h18 o18 => ?_)
      refine w_vs d4 [h18] (Vs.drop (.cons _ (.cons_cons _ .slnil))) ?_
      (apply w_mv; apply w_done0; apply w_sq; apply w_reg; apply w_fld; rfl; apply w_ld; rfl; exact hc_ds (by assumption) rfl; apply w_eql; rfl; rfl; apply w_done0; refine w_ifdF rfl (by omega) ?_; apply w_skip)
      exact ⟨rfl, v18, h18, ⟨rfl, rfl, trivial⟩, by rw [← hW]; exact o18, rfl⟩
    by_cases k6 : x.kind = 6
    · rw [if_neg k3, if_neg k4, if_pos k6] at hW hb
      simp only [List.length_append, List.length_cons] at hb
      (apply w_sq; apply w_sq; apply w_reg; apply w_fld; rfl; apply w_ld; rfl; exact hc_ds (by assumption) rfl; apply w_eql; rfl; rfl; apply w_done0; refine w_ifdF rfl (by omega) ?_; apply w_skip; apply w_sq; apply w_sq; apply w_reg; apply w_fld; rfl; apply w_ld; rfl; exact hc_ds (by assumption) rfl; apply w_eql; rfl; rfl; apply w_done0; refine w_ifdF rfl (by omega) ?_; apply w_skip; apply w_sq; apply w_reg; apply w_fld; rfl; apply w_ld; rfl; exact hc_ds (by assumption) rfl; apply w_eql; rfl; rfl; apply w_done0; refine w_ifdT rfl (by omega) ?_; apply w_sq; apply w_sq; apply w_reg; apply w_mvi; rfl; apply w_done0; apply w_block)
      refine w_loopV (α := Nat) (fun i v => [(1, .pointer (some ⟨b1, 0, none⟩)), (3, v), (4, .int .i64 i)]) (fun i v h d' L' => d' = d1 ∧ i ≤ x.keys.length ∧ GRow 1 RByte d1 v (kb :: keyKs (x.keys.take i)) h ∧ L' = [h]) (fun i => x.keys.length - i) 0 _ (bx b10 T10 [byteV kb])
        ⟨rfl, rfl, rfl, trivial⟩ ⟨rfl, Nat.zero_le _, GRow.litB (l := [kb]) rfl rfl (by simp), rfl⟩ ?_
      rintro i v4 h4 ρ d4 L4 ⟨hdd, hi, o4, hL⟩
      subst hdd; subst hL
      by_cases hc : i < x.keys.length
      · have hle := keyKs_take_le x.keys (i + 1)
        rw [keyKs_take hc, List.length_append, List.length_cons] at hle
        have hx1 := keyV_txt1 x.keys[i]
        (apply w_sq; apply w_sq; apply w_reg; apply w_mvi; rfl; apply w_fld; rfl; apply w_ld; rfl; exact hc_ds (by assumption) rfl; apply w_len; rfl; apply w_lss; rfl; rfl; apply w_done0; refine w_ifdT rfl (by omega) ?_; apply w_skip; apply w_sq; apply w_block)
        refine w_drawnV (d1 := d4) [] [h4] (Vs.refl _ _) ?_
        (apply w_mv; apply w_fld; rfl; apply w_ld; rfl; exact hc_ds (by assumption) rfl; apply w_mvi; rfl; refine w_idxR (sz := 1) (R := RStr) (by rfl) (by assumption) (by rfl) rfl (by omega) ?_; rintro _ _ _ _ _ ⟨rfl, _⟩; apply w_ld; rfl; exact hc_ds0 (by assumption) rfl)
        refine w_push (b := 5) rfl o4 (fun _ => rfl) (by simp only [List.length_cons]; omega) (fun u5 v5 h5 o5 => ?_)
        refine w_call0 rfl (h2 (by omega)) (fun r d6 L6 _ ⟨hdd, g, hL, o6⟩ => ?_)
        subst hdd; subst hL
        have o6' : GRow 1 RByte d6 r (keyT x.keys[i]) g := o6.atB
        refine w_appG (R := RByte) 1 rfl rfl o5 rfl (o6'.src cell1_byte (by simp)) (by omega) (by simp only [List.length_append, List.length_cons, List.length_nil]; omega) (by simp only [List.length_append, List.length_cons, List.length_nil]; omega) (fun v18 h18 o18 => ?_)
        (apply w_bar; apply w_mv; apply w_done0)
        show gwp P _ _ _ _ _
        apply w_reg
        refine w_vs d6 [h18] (Vs.drop (.cons _ (.cons_cons _ .slnil))) ?_
        (apply w_mvi; rfl; apply w_add; rfl; rfl; omega; omega; apply w_mvi; rfl; apply w_done0)
        exact ⟨i + 1, v18, h18, by omega, ⟨rfl, rfl, int_eq (by omega), trivial⟩, rfl, hc, by rw [keyKs_take hc]; simpa using o18, rfl⟩
      · obtain rfl : i = x.keys.length := by omega
        rw [List.take_length] at o4
        (apply w_sq; apply w_sq; apply w_reg; apply w_mvi; rfl; apply w_fld; rfl; apply w_ld; rfl; exact hc_ds (by assumption) rfl; apply w_len; rfl; apply w_lss; rfl; rfl; apply w_done0; refine w_ifdF rfl (by omega) ?_; apply w_exit; apply w_reg; apply w_mv)
        refine w_push (b := 0) rfl o4 (fun _ => rfl) (by simp only [List.length_cons]; omega) (fun u5 v5 h5 o5 => ?_)
        (apply w_mv; apply w_done0)
        exact ⟨rfl, v5, h5, ⟨rfl, rfl, trivial⟩, by rw [← hW]; simpa using o5, rfl⟩
    · rw [if_neg k3, if_neg k4, if_neg k6] at hW
      (apply w_sq; apply w_sq; apply w_reg; apply w_fld; rfl; apply w_ld; rfl; exact hc_ds (by assumption) rfl; apply w_eql; rfl; rfl; apply w_done0; refine w_ifdF rfl (by omega) ?_; apply w_skip; apply w_sq; apply w_sq; apply w_reg; apply w_fld; rfl; apply w_ld; rfl; exact hc_ds (by assumption) rfl; apply w_eql; rfl; rfl; apply w_done0; refine w_ifdF rfl (by omega) ?_; apply w_skip; apply w_sq; apply w_reg; apply w_fld; rfl; apply w_ld; rfl; exact hc_ds (by assumption) rfl; apply w_eql; rfl; rfl; apply w_done0; refine w_ifdF rfl (by omega) ?_; apply w_skip)
      exact ⟨rfl, _, _, ⟨rfl, rfl, trivial⟩, by rw [← hW]; exact GRow.litB (l := [kb]) rfl rfl (by simp), rfl⟩
  rintro ρ d2 L' ⟨hdd, v3, h3, hsl, o3, hL⟩
  subst hdd; subst hL
  refine gwp_slots _ hsl ?_
  clear hsl
  have hfin : keyV x = W ++ keyVs x.list ++ (if x.kind = 5 then [0] else []) := by
    rw [hkey, ← hW]
    by_cases k3 : x.kind = 3
    · rw [if_pos k3, if_pos k3, if_neg (by omega), hkl.resolve_left (by omega)]; simp [keyVs]
    by_cases k4 : x.kind = 4
    · rw [if_neg k3, if_neg k3, if_pos k4, if_pos k4, if_neg (by omega), hkl.resolve_left (by omega)]; simp [keyVs]
    by_cases k6 : x.kind = 6
    · rw [if_neg k3, if_neg k3, if_neg k4, if_neg k4, if_pos k6, if_pos k6, if_neg (by omega)]; simp
    by_cases k5 : x.kind = 5
    · rw [if_neg k3, if_neg k3, if_neg k4, if_neg k4, if_neg k6, if_neg k6, if_pos k5, if_pos k5]; simp
    · rw [if_neg k3, if_neg k3, if_neg k4, if_neg k4, if_neg k6, if_neg k6, if_neg k5, if_neg k5, hkl.resolve_left (by omega)]; simp [keyVs]
  have hWb : W.length + (keyVs x.list).length + (if x.kind = 5 then [(0 : UInt8)] else []).length ≤ 1000000000 := by
    have := congrArg List.length hfin
    rw [hkey] at this
    simp only [List.length_append, List.length_cons] at this
    omega
  (apply w_sq; apply w_sq; apply w_reg; apply w_mvi; rfl; apply w_done0; apply w_block)
  refine w_loopV (α := Nat) (fun i v => [(1, .pointer (some ⟨b1, 0, none⟩)), (3, v), (5, .int .i64 i)]) (fun i v h d' L' => d' = d2 ∧ i ≤ x.list.length ∧ GRow 1 RByte d2 v (W ++ keyVs (x.list.take i)) h ∧ L' = [h]) (fun i => x.list.length - i) 0 v3 h3
    ⟨rfl, rfl, rfl, trivial⟩ ⟨rfl, Nat.zero_le _, by simpa [keyVs] using o3, rfl⟩ ?_
  rintro i v5 h5 ρ d5 L5 ⟨hdd, hi, o5, hL⟩
  subst hdd; subst hL
  by_cases hc : i < x.list.length
  · have hle := keyVs_take_le x.list (i + 1)
    rw [keyVs_take hc, List.length_append] at hle
    (apply w_sq; apply w_sq; apply w_reg; apply w_mvi; rfl; apply w_fld; rfl; apply w_ld; rfl; exact hc_ds (by assumption) rfl; apply w_len; rfl; apply w_lss; rfl; rfl; apply w_done0; refine w_ifdT rfl (by omega) ?_; apply w_skip; apply w_sq; apply w_block; apply w_reg; apply w_mv; apply w_fld; rfl; apply w_ld; rfl; exact hc_ds (by assumption) rfl; apply w_mvi; rfl; refine w_idxR (sz := 6) (R := RVal) (by rfl) (by assumption) (by rfl) rfl (by omega) ?_; rintro _ _ _ _ _ _; apply w_ldd; rfl; assumption; assumption)
    rename_i cs6 hcs6 hD6 hR6
    refine w_call0 rfl (ih _ (List.getElem_mem hc) hR6 (hml _ (List.getElem_mem hc)) (by omega)) (fun r d6 L6 _ ⟨hdd, g, hL, o6⟩ => ?_)
    subst hdd; subst hL
    have o6' : GRow 1 RByte d6 r (keyV x.list[i]) g := o6.atB
    refine w_appG (R := RByte) 1 rfl rfl o5 rfl (o6'.src cell1_byte (by simp)) (by omega) (by simp only [List.length_append]; omega) (by simp only [List.length_append]; omega) (fun v18 h18 o18 => ?_)
    refine w_vs d6 [h18] (Vs.drop (.cons _ (.cons_cons _ .slnil))) ?_
    (apply w_mv; apply w_done0; apply w_reg; apply w_mvi; rfl; apply w_add; rfl; rfl; omega; omega; apply w_mvi; rfl; apply w_done0)
    exact ⟨i + 1, v18, h18, by omega, ⟨rfl, rfl, int_eq (by omega), trivial⟩, rfl, hc, by rw [keyVs_take hc, ← List.append_assoc]; exact o18, rfl⟩
  · obtain rfl : i = x.list.length := by omega
    rw [List.take_length] at o5
    by_cases k5 : x.kind = 5
    · rw [if_pos k5] at hfin hWb
      simp only [List.length_cons, List.length_nil] at hWb
      (apply w_sq; apply w_sq; apply w_reg; apply w_mvi; rfl; apply w_fld; rfl; apply w_ld; rfl; exact hc_ds (by assumption) rfl; apply w_len; rfl; apply w_lss; rfl; rfl; apply w_done0; refine w_ifdF rfl (by omega) ?_; apply w_exit; apply w_sq; apply w_sq; apply w_reg; apply w_fld; rfl; apply w_ld; rfl; exact hc_ds (by assumption) rfl; apply w_eql; rfl; rfl; apply w_done0; refine w_ifdT rfl (by omega) ?_; apply w_reg; apply w_mv)
      refine w_push (b := 0) rfl o5 (fun _ => rfl) (by rw [List.length_append]; omega) (fun u7 v7 h7 o7 => ?_)
      (apply w_mv; apply w_done0; apply w_sq; apply w_reg; apply w_mv; apply w_mv; apply w_done0; apply w_ret)
      exact fin1 (v := v7) (L' := [h7]) rfl (by simp) ⟨h7, rfl, by rw [hfin]; exact o7.atB⟩
    · rw [if_neg k5, List.append_nil] at hfin
      (apply w_sq; apply w_sq; apply w_reg; apply w_mvi; rfl; apply w_fld; rfl; apply w_ld; rfl; exact hc_ds (by assumption) rfl; apply w_len; rfl; apply w_lss; rfl; rfl; apply w_done0; refine w_ifdF rfl (by omega) ?_; apply w_exit; apply w_sq; apply w_sq; apply w_reg; apply w_fld; rfl; apply w_ld; rfl; exact hc_ds (by assumption) rfl; apply w_eql; rfl; rfl; apply w_done0; refine w_ifdF rfl (by omega) ?_; apply w_skip; apply w_sq; apply w_reg; apply w_mv; apply w_mv; apply w_done0; apply w_ret)
      exact fin1 (v := v5) (L' := [h5]) rfl (by simp) ⟨h5, rfl, by rw [hfin]; exact o5.atB⟩
end Go.Gk.Val
end

section
namespace Go.Gk.Val
open Go Go.Gk Go.Gk.Num
attribute [local irreducible] gwp gws

def RKBytesOk (T : PHeap → Prop) (P : Program) (f : FuncId) : Prop := ∀ {x : V} {d : PHeap} {cs : List Value}, T d → RVal d cs x → depthV x ≤ 1000000000 → (mayV x = true → (keyV x).length ≤ 1000000000) →
  GCall P f [.agg cs.toArray] d [] (Ret fun r d' L' => d' = d ∧ ((rightV x = 0 ∧ ∃ v h, r = .tuple #[v, .int .i64 0] ∧ L' = [h] ∧ GRow 1 RByte emp v (keyV x) h) ∨ (rightV x ≠ 0 ∧ r = .tuple #[.slice none 0 0, .int .i64 (rightV x)] ∧ L' = [])))
def g_thimbleref05_Bytes (f_thimbleref03_Right f_thimbleref05_Key : Nat) : GFun :=
 ⟨12, [(.tmp 2), (.tmp 3)],
 (.seq
 (.reg false (.op false ⟨(some 1), none, (.box (.tmp 0))⟩
  (.op false ⟨(some 2), none, (.mv (.const (.slice none 0 0)))⟩
  (.op false ⟨(some 3), none, (.mv (.const (.int .i64 0)))⟩ .done))))
 (.seq
 (.reg false (.op false ⟨(some 5), none, (.ld (some 6) (.tmp 1))⟩
  (.op false ⟨(some 6), none, (.call f_thimbleref03_Right [(.tmp 5)])⟩
  (.op false ⟨(some 4), none, (.mv (.tmp 6))⟩ .done))))
 (.seq (.seq
 (.reg false (.op false ⟨(some 7), none, (.mv (.tmp 4))⟩
  (.op false ⟨(some 8), none, (.bin .neq (.tmp 7) (.const (.int .i64 0)))⟩ .done))) (.cond (.tmp 8)
 (.seq
 (.reg false (.op false ⟨(some 9), none, (.mv (.tmp 4))⟩
  (.op false ⟨(some 2), none, (.mv (.const (.slice none 0 0)))⟩
  (.op false ⟨(some 3), none, (.mv (.tmp 9))⟩ .done)))) .ret) .skip))
 (.seq
 (.reg false (.op false ⟨(some 10), none, (.ld (some 6) (.tmp 1))⟩
  (.op false ⟨(some 11), none, (.call f_thimbleref05_Key [(.tmp 10)])⟩
  (.op false ⟨(some 2), none, (.mv (.tmp 11))⟩
  (.op false ⟨(some 3), none, (.mv (.const (.int .i64 0)))⟩ .done))))) .ret))))⟩

theorem rkbytes_ok {T : PHeap → Prop} {P : Program} {f f1 f2 : FuncId} (hd : dec P f = some (g_thimbleref05_Bytes f1 f2)) (h1 : RRightOk T P f1) (h2 : RKeyOk P f2) : RKBytesOk T P f := by
  intro x d cs ht hv hdp hb
  refine GCall_of hd (Nat.le_of_ble_eq_true rfl) ?_
  show gwp P _ _ _ _ _
  apply w_sq; apply w_reg
  refine w_boxa (l := cs) rfl (fun b1 T1 => ?_)
  (apply w_mvs; rfl; apply w_mvi; rfl; apply w_done0; apply w_sq; apply w_reg)
  refine w_ldb 0 rfl rfl hv.len ?_
  refine w_pure rfl (h1 ht hv hdp) ?_
  by_cases hr : rightV x ≠ 0
  · (apply w_mvi; rfl; apply w_done0; apply w_sq; apply w_sq; apply w_reg; apply w_mvi; rfl; apply w_neq; rfl; rfl; apply w_done0; refine w_ifdT rfl (by omega) ?_; apply w_sq; apply w_reg; apply w_mvi; rfl; apply w_mvs; rfl; apply w_mvi; rfl; apply w_done0; apply w_ret)
    exact fin2n rfl rfl ⟨rfl, .inr ⟨hr, rfl, rfl⟩⟩
  · have hr : rightV x = 0 := by omega
    rw [hr]
    (apply w_mvi; rfl; apply w_done0; apply w_sq; apply w_sq; apply w_reg; apply w_mvi; rfl; apply w_neq; rfl; rfl; apply w_done0; refine w_ifdF rfl (by omega) ?_; apply w_skip; apply w_sq; apply w_reg)
    refine w_ldb 0 rfl rfl hv.len ?_
    refine w_call0 rfl (h2 x hv (right_iff.1 hr).1 (hb (right_iff.1 hr).1)) (fun r d6 L6 _ ⟨hdd, h6, hL, o6⟩ => ?_)
    subst hdd; subst hL
    (apply w_mv; apply w_mvi; rfl; apply w_done0; apply w_ret)
    exact fin2 (v := r) (L' := [h6]) rfl rfl (by simp) ⟨rfl, .inl ⟨rfl, r, h6, rfl, rfl, o6⟩⟩

def RReadTextOk (P : Program) (f : FuncId) : Prop := ∀ {d : PHeap} {vb : Value} {b : List UInt8} {n : Nat}, RSl 1 RByte d vb b → n ≤ b.length → b.length ≤ 1000000000 →
  GCall P f [vb, .int .i64 (n : Nat)] d [] (Ret fun r d' L' => d' = d ∧ L' = [] ∧ ((∃ s k, r = .tuple #[strV s, .int .i64 (k : Nat)] ∧ k ≤ b.length ∧ n ≤ k ∧ b.drop n = keyT s ++ b.drop k) ∨ (r = .tuple #[strV [], .int .i64 (-1)] ∧ ∀ t r, b.drop n ≠ keyT t ++ r)))
def g_thimbleref05_readText : GFun :=
 ⟨47, [(.tmp 4), (.tmp 5)],
 (.seq
 (.reg false (.op false ⟨(some 4), none, (.mv (.const (strV [])))⟩
  (.op false ⟨(some 5), none, (.mv (.const (.int .i64 0)))⟩ .done)))
 (.seq
 (.reg false (.op false ⟨(some 6), none, (.mv (.const (.slice none 0 0)))⟩ .done))
 (.seq (.block 0 (.loop
 (.seq (.seq
 (.reg false (.op false ⟨(some 7), none, (.mv (.tmp 1))⟩
  (.op false ⟨(some 8), none, (.bin .add (.tmp 7) (.const (.int .i64 1)))⟩
  (.op false ⟨(some 9), none, (.mv (.tmp 0))⟩
  (.op false ⟨(some 10), none, (.len (.tmp 9))⟩
  (.op false ⟨(some 11), none, (.bin .lss (.tmp 8) (.tmp 10))⟩ .done)))))) (.cond (.tmp 11) .skip (.exit 0))) (.block 1
 (.seq (.seq
 (.reg false (.op false ⟨(some 12), none, (.mv (.tmp 0))⟩
  (.op false ⟨(some 13), none, (.mv (.tmp 1))⟩
  (.op false ⟨(some 14), none, (.idx 1 (.tmp 12) (.tmp 13))⟩
  (.op false ⟨(some 15), none, (.ld none (.tmp 14))⟩
  (.op false ⟨(some 16), none, (.bin .neq (.tmp 15) (.const (.int .u8 0)))⟩ .done)))))) (.cond (.tmp 16)
 (.seq
 (.reg false (.op false ⟨(some 17), none, (.mv (.tmp 6))⟩
  (.op false ⟨(some 18), none, (.mv (.tmp 0))⟩
  (.op false ⟨(some 19), none, (.mv (.tmp 1))⟩
  (.op false ⟨(some 20), none, (.idx 1 (.tmp 18) (.tmp 19))⟩
  (.op false ⟨(some 21), none, (.ld none (.tmp 20))⟩
  (.op false ⟨(some 22), none, (.bsl 1 1 [(.int .u8 0)] [(0, (.tmp 21))])⟩
  (.op false ⟨(some 23), none, (.app 1 1 [(.int .u8 0)] (.tmp 17) (.tmp 22))⟩
  (.op false ⟨(some 6), none, (.mv (.tmp 23))⟩ .done)))))))))
 (.seq
 (.reg false (.op false ⟨(some 24), none, (.mv (.tmp 1))⟩
  (.op false ⟨(some 25), none, (.bin .add (.tmp 24) (.const (.int .i64 1)))⟩
  (.op false ⟨(some 1), none, (.mv (.tmp 25))⟩ .done)))) (.exit 1))) .skip))
 (.seq (.seq
 (.reg false (.op false ⟨(some 26), none, (.mv (.tmp 0))⟩
  (.op false ⟨(some 27), none, (.mv (.tmp 1))⟩
  (.op false ⟨(some 28), none, (.bin .add (.tmp 27) (.const (.int .i64 1)))⟩
  (.op false ⟨(some 29), none, (.idx 1 (.tmp 26) (.tmp 28))⟩
  (.op false ⟨(some 30), none, (.ld none (.tmp 29))⟩
  (.op false ⟨(some 31), none, (.bin .eql (.tmp 30) (.const (.int .u8 1)))⟩ .done))))))) (.cond (.tmp 31)
 (.seq
 (.reg false (.op false ⟨(some 32), none, (.mv (.tmp 6))⟩
  (.op false ⟨(some 33), none, (.b2s (.tmp 32))⟩
  (.op false ⟨(some 34), none, (.mv (.tmp 1))⟩
  (.op false ⟨(some 35), none, (.bin .add (.tmp 34) (.const (.int .i64 2)))⟩
  (.op false ⟨(some 4), none, (.mv (.tmp 33))⟩
  (.op false ⟨(some 5), none, (.mv (.tmp 35))⟩ .done))))))) .ret) .skip))
 (.seq (.seq
 (.reg false (.op false ⟨(some 36), none, (.mv (.tmp 0))⟩
  (.op false ⟨(some 37), none, (.mv (.tmp 1))⟩
  (.op false ⟨(some 38), none, (.bin .add (.tmp 37) (.const (.int .i64 1)))⟩
  (.op false ⟨(some 39), none, (.idx 1 (.tmp 36) (.tmp 38))⟩
  (.op false ⟨(some 40), none, (.ld none (.tmp 39))⟩
  (.op false ⟨(some 41), none, (.bin .neq (.tmp 40) (.const (.int .u8 255)))⟩ .done))))))) (.cond (.tmp 41)
 (.seq
 (.reg false (.op false ⟨(some 4), none, (.mv (.const (strV [])))⟩
  (.op false ⟨(some 5), none, (.mv (.const (.int .i64 (-1))))⟩ .done))) .ret) .skip))
 (.seq
 (.reg false (.op false ⟨(some 42), none, (.mv (.tmp 6))⟩
  (.op false ⟨(some 43), none, (.bsl 1 1 [(.int .u8 0)] [(0, (.const (.int .u8 0)))])⟩
  (.op false ⟨(some 44), none, (.app 1 1 [(.int .u8 0)] (.tmp 42) (.tmp 43))⟩
  (.op false ⟨(some 6), none, (.mv (.tmp 44))⟩ .done)))))
 (.reg false (.op false ⟨(some 45), none, (.mv (.tmp 1))⟩
  (.op false ⟨(some 46), none, (.bin .add (.tmp 45) (.const (.int .i64 2)))⟩
  (.op false ⟨(some 1), none, (.mv (.tmp 46))⟩ .done))))))))))))
 (.seq
 (.reg false (.op false ⟨(some 4), none, (.mv (.const (strV [])))⟩
  (.op false ⟨(some 5), none, (.mv (.const (.int .i64 (-1))))⟩ .done))) .ret))))⟩

theorem rreadtext_ok {P : Program} {f : FuncId} (hd : dec P f = some g_thimbleref05_readText) : RReadTextOk P f := by
  intro d vb b n hb hn hbl
  refine GCall_of hd (Nat.le_of_ble_eq_true rfl) ?_
  obtain ⟨ba, bc, rfl⟩ := RSl.val hb
  have hb' : RSl 1 RByte d (.slice ba b.length bc) b := hb
  show gwp P _ _ _ _ _
  apply w_sq; apply w_reg
  refine w_vs d [emp] Vs.emp ?_
  (apply w_mvt; rfl; apply w_mvi; rfl; apply w_done0; apply w_sq; apply w_reg; apply w_mvs; rfl; apply w_done0; apply w_sq; apply w_block)
  refine w_loopV (α := List UInt8 × Nat) (fun x v => [(0, .slice ba b.length bc), (1, .int .i64 x.2), (6, v)]) (fun x v h d' L' => d' = d ∧ x.2 ≤ b.length ∧ n ≤ x.2 ∧ x.1.length ≤ x.2 ∧ b.drop n = esc x.1 ++ b.drop x.2 ∧ GRow 1 RByte d v x.1 h ∧ L' = [h]) (fun x => b.length - x.2) ([], n) (.slice none 0 0) emp
    ⟨rfl, rfl, rfl, trivial⟩ ⟨rfl, hn, Nat.le_refl _, Nat.zero_le _, rfl, GRow.nil, rfl⟩ ?_
  rintro ⟨out, k⟩ v g ρ d' L' ⟨hdd, hk, hnk, hol, hbd, ho, hL⟩
  subst hdd; subst hL
  simp only at hk hnk hol hbd ho ⊢
  by_cases hc1 : k + 1 < b.length
  · have hc : k < b.length := by omega
    have hdk := List.drop_eq_getElem_cons hc
    have hdk1 := List.drop_eq_getElem_cons hc1
    by_cases h0 : b[k] = 0
    · have h0' : ((b[k].toNat : Nat) : Int) = 0 := by rw [h0]; rfl
      (apply w_sq; apply w_sq; apply w_reg; apply w_mvi; rfl; apply w_add; rfl; rfl; omega; omega; apply w_mvs; rfl; apply w_len; rfl; apply w_lss; rfl; rfl; apply w_done0; refine w_ifdT rfl (by omega) ?_; apply w_skip; apply w_block; apply w_sq; apply w_sq; apply w_reg; apply w_mvs; rfl; apply w_mvi; rfl; refine w_idxR (sz := 1) (R := RByte) (by rfl) (by assumption) (by rfl) rfl (by omega) ?_; rintro _ _ _ _ _ rfl; apply w_ld; rfl; exact hc_ds0 (by assumption) rfl; apply w_neq; rfl; rfl; apply w_done0; refine w_ifdF rfl (by omega) ?_; apply w_skip; apply w_sq; apply w_sq; apply w_reg; apply w_mvs; rfl; apply w_mvi; rfl; apply w_add; rfl; rfl; omega; omega; refine w_idxR (sz := 1) (R := RByte) (by rfl) (by assumption) (by rfl) rfl (by omega) ?_; rintro _ _ _ _ _ rfl; apply w_ld; rfl; exact hc_ds0 (by assumption) rfl; apply w_eql; rfl; rfl; apply w_done0)
      by_cases c1 : b[k + 1] = 1
      · have c1' : ((b[k + 1].toNat : Nat) : Int) = 1 := by rw [c1]; rfl
        (refine w_ifdT rfl (by omega) ?_; apply w_sq; apply w_reg; apply w_mv; refine w_b2sG (by rfl) (by assumption) (by simp [lk]) ?_; apply w_mvi; rfl; apply w_add; rfl; rfl; omega; omega; apply w_mvt; rfl; apply w_mvi; rfl; apply w_done0; apply w_ret)
        have hk2 : n ≤ k + 2 := by omega
        exact fin2 (v := strV out) (w := .int .i64 ((k + 2 : Nat) : Int)) (L' := []) rfl (int_eq (by omega)) (by simp) ⟨rfl, rfl, .inl ⟨out, k + 2, rfl, hc1, hk2, by rw [hbd, hdk, hdk1, h0, c1]; simp [keyT]⟩⟩
      have c1' : ((b[k + 1].toNat : Nat) : Int) ≠ 1 := fun e => c1 (UInt8.toNat_inj.1 (show b[k + 1].toNat = 1 by omega))
      (refine w_ifdF rfl (by omega) ?_; apply w_skip; apply w_sq; apply w_sq; apply w_reg; apply w_mvs; rfl; apply w_mvi; rfl; apply w_add; rfl; rfl; omega; omega; refine w_idxR (sz := 1) (R := RByte) (by rfl) (by assumption) (by rfl) rfl (by omega) ?_; rintro _ _ _ _ _ rfl; apply w_ld; rfl; exact hc_ds0 (by assumption) rfl; apply w_neq; rfl; rfl; apply w_done0)
      by_cases c2 : b[k + 1] = 255
      · have c2' : ((b[k + 1].toNat : Nat) : Int) = 255 := by rw [c2]; rfl
        refine w_ifdF rfl (fun h => h c2') ?_
        (apply w_skip; apply w_sq; apply w_reg; apply w_mv)
        refine w_push (b := 0) rfl ho (fun _ => rfl) (by omega) (fun u2 v2 h2 o2 => ?_)
        (apply w_mv; apply w_done0; apply w_reg; apply w_mvi; rfl; apply w_add; rfl; rfl; omega; omega; apply w_mvi; rfl; apply w_done0)
        refine ⟨(out ++ [0], k + 2), v2, h2, by simp only; omega, ⟨rfl, int_eq (by simp only; omega), rfl, trivial⟩, rfl, hc1, by simp only; omega, by simp; omega, ?_, o2, rfl⟩
        simp only
        rw [hbd, hdk, hdk1, c2, esc_snoc, if_pos rfl, h0]; simp
      · have c2' : ((b[k + 1].toNat : Nat) : Int) ≠ 255 := fun e => c2 (UInt8.toNat_inj.1 (show b[k + 1].toNat = 255 by omega))
        (refine w_ifdT rfl (by omega) ?_; apply w_sq; apply w_reg; apply w_mvt; rfl; apply w_mvi; rfl; apply w_done0; apply w_ret)
        exact fin2 (L' := []) rfl rfl (by simp) ⟨rfl, rfl, .inr ⟨rfl, fun t r e => noT (e.symm.trans hbd) (.inr (.inr ⟨b[k + 1], b.drop (k + 1 + 1), by rw [hdk, hdk1, h0], c1, c2⟩))⟩⟩
    · have h0' : ((b[k].toNat : Nat) : Int) ≠ 0 := fun e => h0 (UInt8.toNat_inj.1 (by simpa using e))
      (apply w_sq; apply w_sq; apply w_reg; apply w_mvi; rfl; apply w_add; rfl; rfl; omega; omega; apply w_mvs; rfl; apply w_len; rfl; apply w_lss; rfl; rfl; apply w_done0; refine w_ifdT rfl (by omega) ?_; apply w_skip; apply w_block; apply w_sq; apply w_sq; apply w_reg; apply w_mvs; rfl; apply w_mvi; rfl; refine w_idxR (sz := 1) (R := RByte) (by rfl) (by assumption) (by rfl) rfl (by omega) ?_; rintro _ _ _ _ _ rfl; apply w_ld; rfl; exact hc_ds0 (by assumption) rfl; apply w_neq; rfl; rfl; apply w_done0; refine w_ifdT rfl (by omega) ?_; apply w_sq; apply w_reg; apply w_mv; apply w_mvs; rfl; apply w_mvi; rfl; refine w_idxR (sz := 1) (R := RByte) (by rfl) (by assumption) (by rfl) rfl (by omega) ?_; rintro _ _ _ _ _ rfl; apply w_ld; rfl; exact hc_ds0 (by assumption) rfl)
      refine w_push (b := b[k]) rfl ho (fun _ => rfl) (by omega) (fun u2 v2 h2 o2 => ?_)
      (apply w_mv; apply w_done0; apply w_sq; apply w_reg; apply w_mvi; rfl; apply w_add; rfl; rfl; omega; omega; apply w_mvi; rfl; apply w_done0; apply w_exit)
      refine ⟨(out ++ [b[k]], k + 1), v2, h2, by simp only; omega, ⟨rfl, int_eq (by simp only; omega), rfl, trivial⟩, rfl, hc, by simp only; omega, by simp; omega, ?_, o2, rfl⟩
      simp only
      rw [hbd, hdk, esc_snoc, if_neg h0]; simp
  · (apply w_sq; apply w_sq; apply w_reg; apply w_mvi; rfl; apply w_add; rfl; rfl; omega; omega; apply w_mvs; rfl; apply w_len; rfl; apply w_lss; rfl; rfl; apply w_done0; refine w_ifdF rfl (by omega) ?_; apply w_exit; apply w_sq; apply w_reg; apply w_mvt; rfl; apply w_mvi; rfl; apply w_done0; apply w_ret)
    refine fin2 (L' := []) rfl rfl (by simp) ⟨rfl, rfl, .inr ⟨rfl, fun t r e => ?_⟩⟩
    by_cases hc : k < b.length
    · have hdk := List.drop_eq_getElem_cons hc
      have hl : b.drop (k + 1) = [] := List.drop_eq_nil_of_le (by omega)
      rw [hl] at hdk
      by_cases h0 : b[k] = 0
      · exact noT (e.symm.trans hbd) (.inr (.inl (by rw [hdk, h0])))
      · exact noT (s := out ++ [b[k]]) (rest := []) (e.symm.trans (hbd.trans (by rw [hdk, esc_snoc, if_neg h0]; simp))) (.inl rfl)
    · exact noT (e.symm.trans hbd) (.inl (List.drop_eq_nil_of_le (by omega)))
end Go.Gk.Val
end

section
namespace Go.Gk
open Go
theorem wrap64_range (a : Int) : -9223372036854775808 ≤ IntKind.i64.wrap a ∧ IntKind.i64.wrap a ≤ 9223372036854775807 := by
  simp [IntKind.wrap, IntKind.signed, IntKind.bits]; omega
section
variable {P : Program} {pan : List PanicEntry → Post} {Qn : Env → Post} {Ls L : List PHeap} {ρ : Env} {d : PHeap} {s : GS} {t : Nat} {tk : Bool}
theorem w_addW {x y : Operand} {a b : Int} (ex : ev ρ x = .int .i64 a) (ey : ev ρ y = .int .i64 b) (h : ∀ u, -9223372036854775808 ≤ u → u ≤ 9223372036854775807 → (-9223372036854775808 ≤ a + b → a + b ≤ 9223372036854775807 → u = a + b) → gws P pan Qn s Ls (upd ρ t (.int .i64 u)) d L) :
    gws P pan Qn (.op tk ⟨some t, none, .bin .add x y⟩ s) Ls ρ d L :=
  w_bin (by rw [ex, ey]; simp [binV]) (h (IntKind.i64.wrap (a + b)) (wrap64_range _).1 (wrap64_range _).2 (fun h1 h2 => wrap64_eq h1 h2))
theorem w_subW {x y : Operand} {a b : Int} (ex : ev ρ x = .int .i64 a) (ey : ev ρ y = .int .i64 b) (h : ∀ u, -9223372036854775808 ≤ u → u ≤ 9223372036854775807 → (-9223372036854775808 ≤ a - b → a - b ≤ 9223372036854775807 → u = a - b) → gws P pan Qn s Ls (upd ρ t (.int .i64 u)) d L) :
    gws P pan Qn (.op tk ⟨some t, none, .bin .sub x y⟩ s) Ls ρ d L :=
  w_bin (by rw [ex, ey]; simp [binV]) (h (IntKind.i64.wrap (a - b)) (wrap64_range _).1 (wrap64_range _).2 (fun h1 h2 => wrap64_eq h1 h2))
theorem w_mulW {x y : Operand} {a b : Int} (ex : ev ρ x = .int .i64 a) (ey : ev ρ y = .int .i64 b) (h : ∀ u, -9223372036854775808 ≤ u → u ≤ 9223372036854775807 → (-9223372036854775808 ≤ a * b → a * b ≤ 9223372036854775807 → u = a * b) → gws P pan Qn s Ls (upd ρ t (.int .i64 u)) d L) :
    gws P pan Qn (.op tk ⟨some t, none, .bin .mul x y⟩ s) Ls ρ d L :=
  w_bin (by rw [ex, ey]; simp [binV]) (h (IntKind.i64.wrap (a * b)) (wrap64_range _).1 (wrap64_range _).2 (fun h1 h2 => wrap64_eq h1 h2))
theorem w_negW {x : Operand} {a : Int} (ex : ev ρ x = .int .i64 a) (h : ∀ u, -9223372036854775808 ≤ u → u ≤ 9223372036854775807 → (-9223372036854775808 ≤ -a → -a ≤ 9223372036854775807 → u = -a) → gws P pan Qn s Ls (upd ρ t (.int .i64 u)) d L) :
    gws P pan Qn (.op tk ⟨some t, none, .un .neg x⟩ s) Ls ρ d L :=
  w_q rfl (by simp only [evq, unV, ex, Int.zero_sub]) (h (IntKind.i64.wrap (-a)) (wrap64_range _).1 (wrap64_range _).2 (fun h1 h2 => wrap64_eq h1 h2))
end
end Go.Gk
end
