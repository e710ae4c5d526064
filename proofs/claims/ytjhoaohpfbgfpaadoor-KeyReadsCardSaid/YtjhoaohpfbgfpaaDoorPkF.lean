/-
  Our own texts, one behind the other: GkO5 GkO6 GkO7 GkO8 GkK0 Gk30 GkK1 GkK2 GkK3 GkK4 GkK5 GkK6 GkK7.
-/
import Derived.Test.YtjhoaohpfbgfpaaDoorPkE
section
namespace Go.Gk.Val
open Go Go.Gk Go.Gk.Num
attribute [local irreducible] gwp gws

def ansF (neg : Bool) (C : List Nat) : Int := if val C = 0 then 0 else if neg then -1 else 1
def sg (b : Bool) : Int := if b then -1 else 1
def plusA (na nb : Bool) (z : Bool) (c : Int) : Int := if na = nb then (if z then 0 else sg na) else if c < 0 then sg nb else if c = 0 then 0 else sg na
theorem plus_sum {D1 D2 X Y : List Nat} {e1 e2 : Int} (h : PairR D1 e1 D2 e2 X Y) : val (totF false X Y).1 = val X + val Y := by
  obtain ⟨hl, h2, hX, hY, l1, l2, _⟩ := h
  have ht := tot_val false X Y hl hX hY
  have hb := val_bound (tot_lt false X Y hX hY)
  rw [tot_len false X Y hl] at hb
  have hc := tot_carry false X Y
  simp only [Bool.false_eq_true, if_false] at ht
  rcases hc with hc | hc | hc <;> rw [hc] at ht <;> omega
theorem plus_diff {X Y : List Nat} (hl : X.length = Y.length) (hX : ∀ d ∈ X, d < 10) (hY : ∀ d ∈ Y, d < 10) (h : val Y ≤ val X) : val (totF true X Y).1 = val X - val Y := by
  have ht := tot_val true X Y hl hX hY
  have hb := val_bound (tot_lt true X Y hX hY)
  have hbx := val_bound hX
  rw [tot_len true X Y hl] at hb
  have hc := tot_carry true X Y
  simp only [if_true] at ht
  rcases hc with hc | hc | hc <;> rw [hc] at ht <;> omega
theorem plus_same {D1 D2 X Y : List Nat} {e1 e2 : Int} (n : Bool) (h : PairR D1 e1 D2 e2 X Y) : ansF n (totF false X Y).1 = plusA n n (decide (val D1 = 0 ∧ val D2 = 0)) (numC (val D1) e1 (val D2) e2) := by
  have z1 := h.2.2.2.2.2.2.2.1
  have z2 := h.2.2.2.2.2.2.2.2
  rw [ansF, plus_sum h, plusA, if_pos rfl]
  by_cases q : val X = 0 ∧ val Y = 0
  · rw [if_pos (show val X + val Y = 0 by omega), decide_eq_true (by omega)]; rfl
  · rw [if_neg (show ¬ val X + val Y = 0 by omega), decide_eq_false (by omega)]; rfl
theorem plus_up {D1 D2 X Y : List Nat} {e1 e2 : Int} {na nb : Bool} (hn : na ≠ nb) (h : PairR D1 e1 D2 e2 X Y) (hlt : val X < val Y) : ansF nb (totF true Y X).1 = plusA na nb (decide (val D1 = 0 ∧ val D2 = 0)) (numC (val D1) e1 (val D2) e2) := by
  obtain ⟨hl, h2, hX, hY, l1, l2, hc, _⟩ := h
  rw [ansF, plus_diff hl.symm hY hX (by omega), plusA, if_neg hn, ← hc, cmpI_lt (by omega), if_neg (show ¬ val Y - val X = 0 by omega), if_pos (show (-1 : Int) < 0 by decide)]; rfl
theorem plus_down {D1 D2 X Y : List Nat} {e1 e2 : Int} {na nb : Bool} (hn : na ≠ nb) (h : PairR D1 e1 D2 e2 X Y) (hlt : ¬ val X < val Y) : ansF na (totF true X Y).1 = plusA na nb (decide (val D1 = 0 ∧ val D2 = 0)) (numC (val D1) e1 (val D2) e2) := by
  obtain ⟨hl, h2, hX, hY, l1, l2, hc, _⟩ := h
  rw [ansF, plus_diff hl hX hY (by omega), plusA, if_neg hn, ← hc]
  by_cases q : val X = val Y
  · rw [if_pos (show val X - val Y = 0 by omega), cmpI_eq (by omega)]; rfl
  · rw [if_neg (show ¬ val X - val Y = 0 by omega), cmpI_gt (by omega), if_neg (show ¬ (1 : Int) < 0 by decide), if_neg (show ¬ (1 : Int) = 0 by decide)]; rfl
def RLong (d : PHeap) (r : Value) (ans : Int) : Prop := ∃ neg a c C, ∃ e : Int, r = .agg [.bool neg, .slice a C.length c, .int .i64 e].toArray ∧ RInts d (.slice a C.length c) (ints C) ∧ (∀ x ∈ C, x < 10) ∧ C.length ≤ 2000 ∧ ansF neg C = ans
def PlusOk (P : Program) (f : FuncId) : Prop := ∀ {d : PHeap} {na nb : Bool} {v w : Value} {D1 D2 : List Nat} {e1 e2 : Int}, RInts d v (ints D1) → RInts d w (ints D2) → D1.length ≤ 100 → D2.length ≤ 100 → (∀ x ∈ D1, x < 10) → (∀ x ∈ D2, x < 10) →
  -100 ≤ e1 → e1 ≤ 100 → -100 ≤ e2 → e2 ≤ 100 →
  GCall P f [.agg [.bool na, v, .int .i64 e1].toArray, .agg [.bool nb, w, .int .i64 e2].toArray] d [] (Ret fun r d' L' => L' = [] ∧ RLong d' r (plusA na nb (decide (val D1 = 0 ∧ val D2 = 0)) (numC (val D1) e1 (val D2) e2)))
def g_thimbleref01_plus (f_thimbleref01_pair f_thimbleref01_total f_thimbleref01_above : Nat) : GFun :=
 ⟨44, [(.cell 4 (some 3))],
 (.seq
 (.reg false (.op false ⟨(some 2), none, (.box (.tmp 0))⟩
  (.op false ⟨(some 3), none, (.box (.tmp 1))⟩
  (.op false ⟨(some 4), none, (.alo (.agg #[(.bool false), (.slice none 0 0), (.int .i64 0)]))⟩ .done))))
 (.seq
 (.reg false (.op false ⟨(some 9), none, (.ld (some 3) (.tmp 2))⟩
  (.op false ⟨(some 10), none, (.ld (some 3) (.tmp 3))⟩
  (.op false ⟨(some 11), none, (.call f_thimbleref01_pair [(.tmp 9), (.tmp 10)])⟩
  (.op false ⟨(some 8), none, (.mv (.tmp 11))⟩
  (.op false ⟨(some 12), none, (.ext (.tmp 8) 0)⟩
  (.op false ⟨(some 13), none, (.ext (.tmp 8) 1)⟩
  (.op false ⟨(some 14), none, (.ext (.tmp 8) 2)⟩
  (.op false ⟨(some 5), none, (.mv (.tmp 12))⟩
  (.op false ⟨(some 6), none, (.mv (.tmp 13))⟩
  (.op false ⟨(some 7), none, (.mv (.tmp 14))⟩ .done)))))))))))
 (.seq (.seq
 (.reg false (.op false ⟨(some 15), none, (.fld 0 (.tmp 2))⟩
  (.op false ⟨(some 16), none, (.ld none (.tmp 15))⟩
  (.op false ⟨(some 17), none, (.fld 0 (.tmp 3))⟩
  (.op false ⟨(some 18), none, (.ld none (.tmp 17))⟩
  (.op false ⟨(some 19), none, (.eqb false (.tmp 16) (.tmp 18))⟩ .done)))))) (.cond (.tmp 19)
 (.seq
 (.reg true (.op true ⟨(some 20), none, (.fld 0 (.tmp 2))⟩
  (.op true ⟨(some 21), none, (.ld none (.tmp 20))⟩
  (.op true ⟨(some 22), none, (.mv (.tmp 5))⟩
  (.op true ⟨(some 23), none, (.mv (.tmp 6))⟩
  (.op true ⟨(some 25), none, (.mv (.tmp 7))⟩
  (.op false ⟨(some 24), none, (.call f_thimbleref01_total [(.tmp 22), (.tmp 23), (.const (.bool false))])⟩
  (.op true ⟨(some 26), none, (.bld [(0, 1), (1, 1), (2, 1)] [(.bool false), (.slice none 0 0), (.int .i64 0)] [(0, (.tmp 21)), (1, (.tmp 24)), (2, (.tmp 25))])⟩
  (.bar (.op false ⟨none, none, (.st 3 (.tmp 4) (.tmp 26))⟩ .done)))))))))) .ret) .skip))
 (.seq (.seq
 (.reg false (.op false ⟨(some 27), none, (.mv (.tmp 6))⟩
  (.op false ⟨(some 28), none, (.mv (.tmp 5))⟩
  (.op false ⟨(some 29), none, (.call f_thimbleref01_above [(.tmp 27), (.tmp 28)])⟩ .done)))) (.cond (.tmp 29)
 (.seq
 (.reg true (.op true ⟨(some 30), none, (.fld 0 (.tmp 3))⟩
  (.op true ⟨(some 31), none, (.ld none (.tmp 30))⟩
  (.op true ⟨(some 32), none, (.mv (.tmp 6))⟩
  (.op true ⟨(some 33), none, (.mv (.tmp 5))⟩
  (.op true ⟨(some 35), none, (.mv (.tmp 7))⟩
  (.op false ⟨(some 34), none, (.call f_thimbleref01_total [(.tmp 32), (.tmp 33), (.const (.bool true))])⟩
  (.op true ⟨(some 36), none, (.bld [(0, 1), (1, 1), (2, 1)] [(.bool false), (.slice none 0 0), (.int .i64 0)] [(0, (.tmp 31)), (1, (.tmp 34)), (2, (.tmp 35))])⟩
  (.bar (.op false ⟨none, none, (.st 3 (.tmp 4) (.tmp 36))⟩ .done)))))))))) .ret) .skip))
 (.seq
 (.reg true (.op true ⟨(some 37), none, (.fld 0 (.tmp 2))⟩
  (.op true ⟨(some 38), none, (.ld none (.tmp 37))⟩
  (.op true ⟨(some 39), none, (.mv (.tmp 5))⟩
  (.op true ⟨(some 40), none, (.mv (.tmp 6))⟩
  (.op true ⟨(some 42), none, (.mv (.tmp 7))⟩
  (.op false ⟨(some 41), none, (.call f_thimbleref01_total [(.tmp 39), (.tmp 40), (.const (.bool true))])⟩
  (.op true ⟨(some 43), none, (.bld [(0, 1), (1, 1), (2, 1)] [(.bool false), (.slice none 0 0), (.int .i64 0)] [(0, (.tmp 38)), (1, (.tmp 41)), (2, (.tmp 42))])⟩
  (.bar (.op false ⟨none, none, (.st 3 (.tmp 4) (.tmp 43))⟩ .done)))))))))) .ret)))))⟩

set_option maxHeartbeats 1000000 in
theorem plus_ok {P : Program} {f f1 f2 f3 : FuncId} (hd : dec P f = some (g_thimbleref01_plus f1 f2 f3)) (h1 : PairOk P f1) (h2 : TotalOk P f2) (h3 : AboveOk P f3) : PlusOk P f := by
  intro d na nb v w D1 D2 e1 e2 hv hw n1 n2 b1 b2 p1 p2 p3 p4
  refine GCall_of hd (Nat.le_of_ble_eq_true rfl) ?_
  obtain ⟨a, c, rfl⟩ := RSl.val hv
  obtain ⟨a', c', rfl⟩ := RSl.val hw
  rw [ints_len] at hv hw
  rw [ints_len, ints_len]
  show gwp P _ _ _ _ _
  apply w_sq; apply w_reg
  refine w_boxa (l := [.bool na, .slice a D1.length c, .int .i64 e1]) rfl (fun t2 T2 => ?_)
  refine w_boxa (l := [.bool nb, .slice a' D2.length c', .int .i64 e2]) rfl (fun t3 T3 => ?_)
  (apply w_alo; intro _ _; apply w_done0; apply w_sq; apply w_reg; apply w_ldb 2; rfl; rfl; rfl; apply w_ldb 1; rfl; rfl; rfl)
  rename_i t4 T4
  refine w_call0 rfl (h1 hv hw n1 n2 b1 b2 p1 p2 p3 p4) (fun r d2 L2 hl2 ⟨hL, x, y, X, Y, e, hr, rx, ry, hp⟩ => ?_)
  subst hL; subst hr
  obtain ⟨xa, xc, hx⟩ := RSl.val rx
  rw [ints_len] at hx
  subst hx
  obtain ⟨ya, yc, hy⟩ := RSl.val ry
  rw [ints_len] at hy
  subst hy
  have hp' := hp
  obtain ⟨hl, hX2, hX, hY, _⟩ := hp'
  have hfl1 := tot_len false X Y hl
  have hfl2 := tot_len true X Y hl
  have hfl3 := tot_len true Y X hl.symm
  by_cases hn : na = nb
  · subst hn
    have hb : (false ^^ (na == na)) = true := by simp
    (apply w_mvu; rfl; apply w_ext; rfl; rfl; apply w_ext; rfl; rfl; apply w_ext; rfl; rfl; apply w_mvs; rfl; apply w_mvs; rfl; apply w_mvi; rfl; apply w_done0; apply w_sq; apply w_sq; apply w_reg; apply w_fld; rfl; apply w_ld; rfl; exact hc_i 2 rfl rfl; apply w_fld; rfl; apply w_ld; rfl; exact hc_i 1 rfl rfl; apply w_eqb; rfl; rfl; apply w_done0; apply w_ifbT; rfl; (with_reducible assumption); apply w_sq; apply w_drawn; apply w_fld; rfl; apply w_ld; rfl; exact hc_i 2 rfl rfl; apply w_mvs; rfl; apply w_mvs; rfl; apply w_mvi; rfl)
    refine w_call0 rfl (h2 (mi := false) rx ry hl hX hY (by omega)) (fun r d3 L3 hl3 ⟨hL, rr⟩ => ?_)
    subst hL
    obtain ⟨ra, rc, hre⟩ := RSl.val rr
    rw [ints_len] at hre
    subst hre
    (apply w_bld; rfl; apply w_bar)
    refine w_stE 0 [.bool na, .slice ra (totF false X Y).1.length rc, .int .i64 e] rfl rfl rfl rfl (Nat.le_of_ble_eq_true rfl) rfl rfl ?_
    (apply w_done0; apply w_ret)
    exact finS [_] ⟨res_cell 0 rfl rfl rfl, trivial⟩ (List.nil_sublist _) ⟨rfl, na, ra, rc, _, e, rfl, rr, tot_lt false X Y hX hY, by omega, plus_same na hp⟩
  have hb : (false ^^ (na == nb)) = false := by simpa using hn
  by_cases hlt : val X < val Y
  · have hlt' := decide_eq_true hlt
    (apply w_mvu; rfl; apply w_ext; rfl; rfl; apply w_ext; rfl; rfl; apply w_ext; rfl; rfl; apply w_mvs; rfl; apply w_mvs; rfl; apply w_mvi; rfl; apply w_done0; apply w_sq; apply w_sq; apply w_reg; apply w_fld; rfl; apply w_ld; rfl; exact hc_i 2 rfl rfl; apply w_fld; rfl; apply w_ld; rfl; exact hc_i 1 rfl rfl; apply w_eqb; rfl; rfl; apply w_done0; apply w_ifbF; rfl; (with_reducible assumption); apply w_skip; apply w_sq; apply w_sq; apply w_reg; apply w_mvs; rfl; apply w_mvs; rfl)
    refine w_pure rfl (h3 ry rx hl.symm hY hX (by omega)) ?_
    (apply w_done0; refine w_ifdT rfl (by omega) ?_; apply w_sq; apply w_drawn; apply w_fld; rfl; apply w_ld; rfl; exact hc_i 1 rfl rfl; apply w_mvs; rfl; apply w_mvs; rfl; apply w_mvi; rfl)
    refine w_call0 rfl (h2 (mi := true) ry rx hl.symm hY hX (by omega)) (fun r d3 L3 hl3 ⟨hL, rr⟩ => ?_)
    subst hL
    obtain ⟨ra, rc, hre⟩ := RSl.val rr
    rw [ints_len] at hre
    subst hre
    (apply w_bld; rfl; apply w_bar)
    refine w_stE 0 [.bool nb, .slice ra (totF true Y X).1.length rc, .int .i64 e] rfl rfl rfl rfl (Nat.le_of_ble_eq_true rfl) rfl rfl ?_
    (apply w_done0; apply w_ret)
    exact finS [_] ⟨res_cell 0 rfl rfl rfl, trivial⟩ (List.nil_sublist _) ⟨rfl, nb, ra, rc, _, e, rfl, rr, tot_lt true Y X hY hX, by omega, plus_up hn hp hlt⟩
  · have hlt' := decide_eq_false hlt
    (apply w_mvu; rfl; apply w_ext; rfl; rfl; apply w_ext; rfl; rfl; apply w_ext; rfl; rfl; apply w_mvs; rfl; apply w_mvs; rfl; apply w_mvi; rfl; apply w_done0; apply w_sq; apply w_sq; apply w_reg; apply w_fld; rfl; apply w_ld; rfl; exact hc_i 2 rfl rfl; apply w_fld; rfl; apply w_ld; rfl; exact hc_i 1 rfl rfl; apply w_eqb; rfl; rfl; apply w_done0; apply w_ifbF; rfl; (with_reducible assumption); apply w_skip; apply w_sq; apply w_sq; apply w_reg; apply w_mvs; rfl; apply w_mvs; rfl)
    refine w_pure rfl (h3 ry rx hl.symm hY hX (by omega)) ?_
    (apply w_done0; refine w_ifdF rfl (by omega) ?_; apply w_skip; apply w_sq; apply w_drawn; apply w_fld; rfl; apply w_ld; rfl; exact hc_i 2 rfl rfl; apply w_mvs; rfl; apply w_mvs; rfl; apply w_mvi; rfl)
    refine w_call0 rfl (h2 (mi := true) rx ry hl hX hY (by omega)) (fun r d3 L3 hl3 ⟨hL, rr⟩ => ?_)
    subst hL
    obtain ⟨ra, rc, hre⟩ := RSl.val rr
    rw [ints_len] at hre
    subst hre
    (apply w_bld; rfl; apply w_bar)
    refine w_stE 0 [.bool na, .slice ra (totF true X Y).1.length rc, .int .i64 e] rfl rfl rfl rfl (Nat.le_of_ble_eq_true rfl) rfl rfl ?_
    (apply w_done0; apply w_ret)
    exact finS [_] ⟨res_cell 0 rfl rfl rfl, trivial⟩ (List.nil_sublist _) ⟨rfl, na, ra, rc, _, e, rfl, rr, tot_lt true X Y hX hY, by omega, plus_down hn hp hlt⟩
theorem plusA_num {m1 e1 m2 e2 : Int} : plusA (decide (m1 < 0)) (!decide (m2 < 0)) (decide (val (digN m1.natAbs) = 0 ∧ val (digN m2.natAbs) = 0)) (numC (val (digN m1.natAbs)) e1 (val (digN m2.natAbs)) e2) = numC m1 e1 m2 e2 := by
  rw [val_digN, val_digN]
  have sgn1 : ∀ m : Int, 0 ≤ m → m ≠ 0 → sgn m = 1 := fun m a b => sgn_pos (by omega)
  by_cases q1 : m1 < 0
  · by_cases q2 : m2 < 0
    · have := numC_abs (m1 := m1) (e1 := e1) (m2 := m2) (e2 := e2) (by rw [sgn_neg q1, sgn_neg q2]) (by rw [sgn_neg q1]; decide)
      rw [sgn_neg q1] at this
      have h2 : numC m1.natAbs e1 m2.natAbs e2 = -numC m1 e1 m2 e2 := by rw [this, numC, Int.natCast_mul, Int.natCast_mul]; omega
      rw [h2, plusA, if_neg (by simp [q1, q2])]
      rcases cmpI_range (m1 * ((10 ^ (e1 - min e1 e2).toNat : Nat) : Int)) (m2 * ((10 ^ (e2 - min e1 e2).toNat : Nat) : Int)) with h | h | h <;> (have h : numC m1 e1 m2 e2 = _ := h; rw [h]; simp [sg, q1, q2])
    · rw [plusA, if_pos (by simp [q1, q2]), decide_eq_false (by omega), sg]
      rw [numC_sgn (.inl (by rw [sgn_neg q1]; by_cases z : m2 = 0; (· subst z; decide); rw [sgn1 m2 (by omega) z]; decide)), sgn_neg q1]
      by_cases z : m2 = 0
      · subst z; simp [q1]; decide
      · rw [sgn1 m2 (by omega) z]; simp [q1]; decide
  · by_cases q2 : m2 < 0
    · rw [plusA, if_pos (by simp [q1, q2]), decide_eq_false (by omega), sg]
      rw [numC_sgn (.inl (by rw [sgn_neg q2]; by_cases z : m1 = 0; (· subst z; decide); rw [sgn1 m1 (by omega) z]; decide)), sgn_neg q2]
      by_cases z : m1 = 0
      · subst z; simp; decide
      · rw [sgn1 m1 (by omega) z]; simp [q1]; decide
    · rw [show ((m1.natAbs : Nat) : Int) = m1 by omega, show ((m2.natAbs : Nat) : Int) = m2 by omega, plusA, if_neg (by simp [q1, q2])]
      rcases cmpI_range (m1 * ((10 ^ (e1 - min e1 e2).toNat : Nat) : Int)) (m2 * ((10 ^ (e2 - min e1 e2).toNat : Nat) : Int)) with h | h | h <;> (have h : numC m1 e1 m2 e2 = _ := h; rw [h]; simp [sg, q1, q2])
end Go.Gk.Val
end

section
namespace Go.Gk.Val
open Go Go.Gk Go.Gk.Num
attribute [local irreducible] gwp gws

def numCmpF (m1 e1 m2 e2 : Int) : Int × Int := if numRight m1 e1 && numRight m2 e2 then (numC m1 e1 m2 e2, 0) else (0, 10)
def NumCmpOk (T : PHeap → Prop) (P : Program) (f : FuncId) : Prop := ∀ {d : PHeap} {m1 e1 m2 e2 : Int}, T d → I64 m1 → I64 e1 → I64 m2 → I64 e2 →
  GPure P f [.agg [.int .i64 m1, .int .i64 e1].toArray, .agg [.int .i64 m2, .int .i64 e2].toArray] d (.tuple #[.int .i64 (numCmpF m1 e1 m2 e2).1, .int .i64 (numCmpF m1 e1 m2 e2).2])
theorem val_at {C : List Nat} {i : Nat} (hi : i < C.length) (h : C[i] ≠ 0) : val C ≠ 0 := by
  have := val_pos ⟨C[i], List.getElem_mem hi, h⟩; omega
def g_thimbleref01_Cmp (f_thimbleref01_Right f_thimbleref01_long f_thimbleref01_plus : Nat) : GFun :=
 ⟨50, [(.tmp 4), (.tmp 5)],
 (.seq
 (.reg false (.op false ⟨(some 2), none, (.box (.tmp 0))⟩
  (.op false ⟨(some 3), none, (.box (.tmp 1))⟩
  (.op false ⟨(some 4), none, (.mv (.const (.int .i64 0)))⟩
  (.op false ⟨(some 5), none, (.mv (.const (.int .i64 0)))⟩ .done)))))
 (.seq (.seq
 (.reg false (.op false ⟨(some 9), none, (.ld (some 2) (.tmp 2))⟩
  (.op false ⟨(some 10), none, (.call f_thimbleref01_Right [(.tmp 9)])⟩
  (.op false ⟨(some 11), none, (.un .not (.tmp 10))⟩
  (.op false ⟨(some 12), none, (.mv (.tmp 11))⟩
  (.op false ⟨(some 13), (some (12, false)), (.ld (some 2) (.tmp 3))⟩
  (.op false ⟨(some 14), (some (12, false)), (.call f_thimbleref01_Right [(.tmp 13)])⟩
  (.op false ⟨(some 15), (some (12, false)), (.un .not (.tmp 14))⟩
  (.op false ⟨(some 16), none, (.pick (.tmp 12) (.const (.bool true)) (.tmp 15))⟩ .done))))))))) (.cond (.tmp 16)
 (.seq
 (.reg false (.op false ⟨(some 4), none, (.mv (.const (.int .i64 0)))⟩
  (.op false ⟨(some 5), none, (.mv (.const (.int .i64 10)))⟩ .done))) .ret) .skip))
 (.seq
 (.reg false (.op false ⟨(some 17), none, (.ld (some 2) (.tmp 3))⟩
  (.op false ⟨(some 18), none, (.call f_thimbleref01_long [(.tmp 17)])⟩
  (.op false ⟨(some 6), none, (.alo (.agg #[(.bool false), (.slice none 0 0), (.int .i64 0)]))⟩
  (.op false ⟨none, none, (.st 3 (.tmp 6) (.tmp 18))⟩ .done)))))
 (.seq
 (.reg false (.op false ⟨(some 19), none, (.fld 0 (.tmp 6))⟩
  (.op false ⟨(some 20), none, (.ld none (.tmp 19))⟩
  (.op false ⟨(some 21), none, (.un .not (.tmp 20))⟩
  (.op false ⟨(some 22), none, (.fld 0 (.tmp 6))⟩
  (.op false ⟨none, none, (.st 1 (.tmp 22) (.tmp 21))⟩ .done))))))
 (.seq
 (.reg true (.op true ⟨(some 23), none, (.ld (some 2) (.tmp 2))⟩
  (.op true ⟨(some 25), none, (.ld (some 3) (.tmp 6))⟩ (.par (.op false ⟨(some 24), none, (.call f_thimbleref01_long [(.tmp 23)])⟩
  (.op false ⟨(some 26), none, (.call f_thimbleref01_plus [(.tmp 24), (.tmp 25)])⟩ .done)) (.op false ⟨(some 7), none, (.alo (.agg #[(.bool false), (.slice none 0 0), (.int .i64 0)]))⟩ .done) (.bar (.op false ⟨none, none, (.st 3 (.tmp 7) (.tmp 26))⟩ .done))))))
 (.seq (.seq
 (.reg false (.op false ⟨(some 8), none, (.mv (.const (.int .i64 0)))⟩ .done)) (.block 0 (.loop
 (.seq (.seq
 (.reg false (.op false ⟨(some 27), none, (.mv (.tmp 8))⟩
  (.op false ⟨(some 28), none, (.fld 1 (.tmp 7))⟩
  (.op false ⟨(some 29), none, (.ld none (.tmp 28))⟩
  (.op false ⟨(some 30), none, (.len (.tmp 29))⟩
  (.op false ⟨(some 31), none, (.bin .lss (.tmp 27) (.tmp 30))⟩ .done)))))) (.cond (.tmp 31) .skip (.exit 0)))
 (.seq (.block 1
 (.seq (.seq
 (.reg false (.op false ⟨(some 34), none, (.fld 1 (.tmp 7))⟩
  (.op false ⟨(some 35), none, (.ld none (.tmp 34))⟩
  (.op false ⟨(some 36), none, (.mv (.tmp 8))⟩
  (.op false ⟨(some 37), none, (.idx 1 (.tmp 35) (.tmp 36))⟩
  (.op false ⟨(some 38), none, (.ld none (.tmp 37))⟩
  (.op false ⟨(some 39), none, (.bin .neq (.tmp 38) (.const (.int .i64 0)))⟩
  (.op false ⟨(some 40), none, (.mv (.tmp 39))⟩
  (.op false ⟨(some 41), (some (40, true)), (.fld 0 (.tmp 7))⟩
  (.op false ⟨(some 42), (some (40, true)), (.ld none (.tmp 41))⟩
  (.op false ⟨(some 43), none, (.pick (.tmp 40) (.tmp 42) (.const (.bool false)))⟩ .done))))))))))) (.cond (.tmp 43)
 (.seq
 (.reg false (.op false ⟨(some 4), none, (.mv (.const (.int .i64 (-1))))⟩
  (.op false ⟨(some 5), none, (.mv (.const (.int .i64 0)))⟩ .done))) .ret) .skip))
 (.seq
 (.reg false (.op false ⟨(some 44), none, (.fld 1 (.tmp 7))⟩
  (.op false ⟨(some 45), none, (.ld none (.tmp 44))⟩
  (.op false ⟨(some 46), none, (.mv (.tmp 8))⟩
  (.op false ⟨(some 47), none, (.idx 1 (.tmp 45) (.tmp 46))⟩
  (.op false ⟨(some 48), none, (.ld none (.tmp 47))⟩
  (.op false ⟨(some 49), none, (.bin .neq (.tmp 48) (.const (.int .i64 0)))⟩ .done))))))) (.cond (.tmp 49)
 (.seq
 (.reg false (.op false ⟨(some 4), none, (.mv (.const (.int .i64 1)))⟩
  (.op false ⟨(some 5), none, (.mv (.const (.int .i64 0)))⟩ .done))) .ret) .skip))))
 (.reg false (.op false ⟨(some 32), none, (.mv (.tmp 8))⟩
  (.op false ⟨(some 33), none, (.bin .add (.tmp 32) (.const (.int .i64 1)))⟩
  (.op false ⟨(some 8), none, (.mv (.tmp 33))⟩ .done)))))))))
 (.seq
 (.reg false (.op false ⟨(some 4), none, (.mv (.const (.int .i64 0)))⟩
  (.op false ⟨(some 5), none, (.mv (.const (.int .i64 0)))⟩ .done))) .ret)))))))⟩

set_option maxHeartbeats 1000000 in
theorem rcmp_ok {T : PHeap → Prop} {P : Program} {f f1 f2 f3 : FuncId} (hd : decp P f = some (g_thimbleref01_Cmp f1 f2 f3)) (h1 : NumOk T P f1) (h2 : LongOk P f2) (h3 : PlusOk P f3) : NumCmpOk T P f := by
  intro d m1 e1 m2 e2 ht i1 i2 i3 i4
  refine GPure.of' hd (Nat.le_of_ble_eq_true rfl) ?_
  show gwp P _ _ _ _ _
  apply w_sq; apply w_reg
  refine w_boxa (l := [.int .i64 m1, .int .i64 e1]) rfl (fun t2 T2 => ?_)
  refine w_boxa (l := [.int .i64 m2, .int .i64 e2]) rfl (fun t3 T3 => ?_)
  cases r1 : numRight m1 e1 with
  | false =>
    rw [numCmpF, r1]
    (apply w_mvi; rfl; apply w_mvi; rfl; apply w_done0; apply w_sq; apply w_sq; apply w_reg; apply w_ldb 1; rfl; rfl; rfl)
    refine w_pure rfl (h1 ht i1 i2) ?_
    rw [r1]
    (apply w_not; rfl; apply w_mvb; rfl; apply w_gF; rfl; apply w_gF; rfl; apply w_gF; rfl; apply w_pickTb; rfl; rfl; apply w_done0; apply w_ifT; rfl; apply w_sq; apply w_reg; apply w_mvi; rfl; apply w_mvi; rfl; apply w_done0; apply w_ret)
    exact finQ2 rfl rfl
  | true =>
    cases r2 : numRight m2 e2 with
    | false =>
      rw [numCmpF, r1, r2]
      (apply w_mvi; rfl; apply w_mvi; rfl; apply w_done0; apply w_sq; apply w_sq; apply w_reg; apply w_ldb 1; rfl; rfl; rfl)
      refine w_pure rfl (h1 ht i1 i2) ?_
      rw [r1]
      (apply w_not; rfl; apply w_mvb; rfl; apply w_gT; rfl; apply w_ldb 0; rfl; rfl; rfl; apply w_gT; rfl)
      refine w_pure rfl (h1 ht i3 i4) ?_
      rw [r2]
      (apply w_gT; rfl; apply w_not; rfl; apply w_pickFb; rfl; rfl; apply w_done0; apply w_ifT; rfl; apply w_sq; apply w_reg; apply w_mvi; rfl; apply w_mvi; rfl; apply w_done0; apply w_ret)
      exact finQ2 rfl rfl
    | true =>
      have b1 := numR0 r1
      have b2 := numR0 r2
      rw [numCmpF, r1, r2]
      (apply w_mvi; rfl; apply w_mvi; rfl; apply w_done0; apply w_sq; apply w_sq; apply w_reg; apply w_ldb 1; rfl; rfl; rfl)
      refine w_pure rfl (h1 ht i1 i2) ?_
      rw [r1]
      (apply w_not; rfl; apply w_mvb; rfl; apply w_gT; rfl; apply w_ldb 0; rfl; rfl; rfl; apply w_gT; rfl)
      refine w_pure rfl (h1 ht i3 i4) ?_
      rw [r2]
      (apply w_gT; rfl; apply w_not; rfl; apply w_pickFb; rfl; rfl; apply w_done0; apply w_ifF; rfl; apply w_skip; apply w_sq; apply w_reg; apply w_ldb 0; rfl; rfl; rfl)
      refine w_call0 rfl (h2 i3 i4) (fun r d2 L2 hl2 ⟨hL, dv, hr, hdv⟩ => ?_)
      subst hL; subst hr
      obtain ⟨ba, bc, hx⟩ := RSl.val hdv
      rw [ints_len] at hx
      subst hx
      (apply w_alo; intro _ _)
      rename_i t6 T6
      refine w_stE 0 [.bool (decide (m2 < 0)), .slice ba (digN m2.natAbs).length bc, .int .i64 e2] rfl rfl rfl rfl (Nat.le_of_ble_eq_true rfl) rfl rfl ?_
      (apply w_done0; apply w_sq; apply w_reg; apply w_fld; rfl; apply w_ld; rfl; exact hc_i 0 rfl rfl; apply w_not; rfl; apply w_fld; rfl)
      refine w_stE 0 [.bool (!decide (m2 < 0)), .slice ba (digN m2.natAbs).length bc, .int .i64 e2] rfl rfl rfl rfl (Nat.le_of_ble_eq_true rfl) rfl rfl ?_
      (apply w_done0; apply w_sq)
      refine w_drawn ?_
      (apply w_ldb 2; rfl; rfl; rfl; apply w_ldb 0; rfl; rfl; rfl)
      refine w_par (α := Bool × Option Addr × Nat × List Nat × Int) (β := Nat × TypeId) [(4, .int .i64 0), (5, .int .i64 0)] (fun x => [(26, .agg [.bool x.1, .slice x.2.1 x.2.2.2.1.length x.2.2.1, .int .i64 x.2.2.2.2].toArray)])
        (fun x d L => L = [] ∧ RInts d (.slice x.2.1 x.2.2.2.1.length x.2.2.1) (ints x.2.2.2.1) ∧ x.2.2.2.1.length ≤ 2000 ∧ ansF x.1 x.2.2.2.1 = numC m1 e1 m2 e2)
        (fun y => [(7, .pointer (some ⟨y.1, 0, none⟩))]) (fun y d L => L = [bx y.1 y.2 [.bool false, .slice none 0 0, .int .i64 0]]) [] [] rfl
        (fun x d d' M hl h => ⟨h.1, RSl.mono (R := RInt) mono_int h.2.1 hl, h.2.2⟩) (fun y d d' M hl h => h) (fun x => rfl) (fun y => rfl) rfl ⟨rfl, rfl, trivial⟩ ?_ ?_ ?_
      · refine w_call0 rfl (h2 i1 i2) (fun r d3 L3 hl3 ⟨hL, dv, hr, hdv3⟩ => ?_)
        subst hL; subst hr
        have l1 := (digN_len m1.natAbs 18).2 (by rw [show (10 : Nat) ^ 18 = 1000000000000000000 by decide]; omega)
        have l2 := (digN_len m2.natAbs 18).2 (by rw [show (10 : Nat) ^ 18 = 1000000000000000000 by decide]; omega)
        refine w_call0 rfl (h3 hdv3 (RSl.mono (R := RInt) mono_int hdv hl3) (by omega) (by omega) (digN_lt _) (digN_lt _) (by omega) (by omega) (by omega) (by omega)) (fun r d4 L4 hl4 ⟨hL, neg, a, c, C, e, hr, rC, hC, hCl, ha⟩ => ?_)
        subst hL; subst hr
        rw [plusA_num] at ha
        refine w_done ?_
        exact ⟨_, rfl, (neg, a, c, C, e), ⟨rfl, trivial⟩, rfl, rC, hCl, ha⟩
      · (apply w_alo; intro _ _; apply w_done)
        exact ⟨_, rfl, (_, _), ⟨rfl, trivial⟩, rfl⟩
      rintro ⟨neg, a, c, C, e⟩ ⟨b7, T7⟩ ρ d3 M1 M2 hl3 ⟨hM1, rC, hCl, ha⟩ hM2
      simp only at hM1 rC hCl ha hM2
      subst hM1; subst hM2
      (apply w_bar)
      refine w_stE 3 [.bool neg, .slice a C.length c, .int .i64 e] rfl rfl rfl rfl (Nat.le_of_ble_eq_true rfl) rfl rfl ?_
      have n1 := ints_len C
      have q1 : RSl 1 RInt d3 (.slice a C.length c) (ints C) := rC
      have n2 : C.length ≤ 2000 := hCl
      (apply w_done0; apply w_sq; apply w_sq; apply w_reg; apply w_mvi; rfl; apply w_done0; apply w_block)
      refine w_loopN (α := Nat) (fun i => [(7, .pointer (some ⟨b7, 0, none⟩)), (8, .int .i64 i)]) (fun _ => [bx t6 T6 [.bool (!decide (m2 < 0)), .slice ba (digN m2.natAbs).length bc, .int .i64 e2], bx t3 T3 [.int .i64 m2, .int .i64 e2], bx t2 T2 [.int .i64 m1, .int .i64 e1], bx b7 T7 [.bool neg, .slice a C.length c, .int .i64 e]])
        (fun i => i ≤ C.length ∧ (∀ j (h : j < C.length), j < i → C[j] = 0)) (fun i => C.length - i) 0 ⟨rfl, rfl, trivial⟩ rfl ⟨Nat.zero_le _, fun j h h' => absurd h' (Nat.not_lt_zero j)⟩ ?_
      rintro i ρ ⟨hi, hz⟩
      by_cases hc : i < C.length
      · have e1 := ints_at C (i := i) (by omega)
        by_cases h0 : (ints C)[i]'(by omega) = 0
        · (apply w_sq; apply w_sq; apply w_reg; apply w_mvi; rfl; apply w_fld; rfl; apply w_ld; rfl; exact hc_i 3 rfl rfl; apply w_len; rfl; apply w_lss; rfl; rfl; apply w_done0; refine w_ifdT rfl (by omega) ?_; apply w_skip; apply w_sq; apply w_block; apply w_sq; apply w_sq; apply w_reg; apply w_fld; rfl; apply w_ld; rfl; exact hc_i 3 rfl rfl; apply w_mvi; rfl; refine w_idxR (sz := 1) (R := RInt) (by rfl) (by assumption) (by rfl) rfl (by omega) ?_; rintro _ _ _ _ _ ⟨rfl, _, _⟩; apply w_ld; rfl; exact hc_ds0 (by assumption) rfl; apply w_neq; rfl; rfl; apply w_mvb; rfl; refine w_gdF rfl (by omega) ?_; apply w_gF; rfl; apply w_gF; rfl; apply w_pickFb; rfl; rfl; apply w_done0; apply w_ifF; rfl; apply w_skip; apply w_sq; apply w_reg; apply w_fld; rfl; apply w_ld; rfl; exact hc_i 3 rfl rfl; apply w_mvi; rfl; refine w_idxR (sz := 1) (R := RInt) (by rfl) (by assumption) (by rfl) rfl (by omega) ?_; rintro _ _ _ _ _ ⟨rfl, _, _⟩; apply w_ld; rfl; exact hc_ds0 (by assumption) rfl; apply w_neq; rfl; rfl; apply w_done0; refine w_ifdF rfl (by omega) ?_; apply w_skip; apply w_reg; apply w_mvi; rfl; apply w_add; rfl; rfl; omega; omega; apply w_mvi; rfl; apply w_done0)
          exact ⟨i + 1, by omega, ⟨rfl, int_eq (by omega), trivial⟩, rfl, rfl, hc, fun j h h' => if q : j = i then (by subst q; omega) else hz j h (by omega)⟩
        · have hv := val_at hc (by omega)
          cases neg with
          | true =>
            rw [ansF, if_neg hv, if_pos rfl] at ha
            (apply w_sq; apply w_sq; apply w_reg; apply w_mvi; rfl; apply w_fld; rfl; apply w_ld; rfl; exact hc_i 3 rfl rfl; apply w_len; rfl; apply w_lss; rfl; rfl; apply w_done0; refine w_ifdT rfl (by omega) ?_; apply w_skip; apply w_sq; apply w_block; apply w_sq; apply w_sq; apply w_reg; apply w_fld; rfl; apply w_ld; rfl; exact hc_i 3 rfl rfl; apply w_mvi; rfl; refine w_idxR (sz := 1) (R := RInt) (by rfl) (by assumption) (by rfl) rfl (by omega) ?_; rintro _ _ _ _ _ ⟨rfl, _, _⟩; apply w_ld; rfl; exact hc_ds0 (by assumption) rfl; apply w_neq; rfl; rfl; apply w_mvb; rfl; refine w_gdT rfl (by omega) ?_; apply w_gT; rfl; apply w_fld; rfl; apply w_gT; rfl; apply w_ld; rfl; exact hc_i 3 rfl rfl; apply w_pickTb; rfl; rfl; apply w_done0; apply w_ifT; rfl; apply w_sq; apply w_reg; apply w_mvi; rfl; apply w_mvi; rfl; apply w_done0; apply w_ret)
            refine finQ2 (int_eq ?_) rfl
            exact ha
          | false =>
            rw [ansF, if_neg hv, if_neg (by decide)] at ha
            (apply w_sq; apply w_sq; apply w_reg; apply w_mvi; rfl; apply w_fld; rfl; apply w_ld; rfl; exact hc_i 3 rfl rfl; apply w_len; rfl; apply w_lss; rfl; rfl; apply w_done0; refine w_ifdT rfl (by omega) ?_; apply w_skip; apply w_sq; apply w_block; apply w_sq; apply w_sq; apply w_reg; apply w_fld; rfl; apply w_ld; rfl; exact hc_i 3 rfl rfl; apply w_mvi; rfl; refine w_idxR (sz := 1) (R := RInt) (by rfl) (by assumption) (by rfl) rfl (by omega) ?_; rintro _ _ _ _ _ ⟨rfl, _, _⟩; apply w_ld; rfl; exact hc_ds0 (by assumption) rfl; apply w_neq; rfl; rfl; apply w_mvb; rfl; refine w_gdT rfl (by omega) ?_; apply w_gT; rfl; apply w_fld; rfl; apply w_gT; rfl; apply w_ld; rfl; exact hc_i 3 rfl rfl; apply w_pickTb; rfl; rfl; apply w_done0; apply w_ifF; rfl; apply w_skip; apply w_sq; apply w_reg; apply w_fld; rfl; apply w_ld; rfl; exact hc_i 3 rfl rfl; apply w_mvi; rfl; refine w_idxR (sz := 1) (R := RInt) (by rfl) (by assumption) (by rfl) rfl (by omega) ?_; rintro _ _ _ _ _ ⟨rfl, _, _⟩; apply w_ld; rfl; exact hc_ds0 (by assumption) rfl; apply w_neq; rfl; rfl; apply w_done0; refine w_ifdT rfl (by omega) ?_; apply w_sq; apply w_reg; apply w_mvi; rfl; apply w_mvi; rfl; apply w_done0; apply w_ret)
            refine finQ2 (int_eq ?_) rfl
            exact ha
      obtain rfl : i = C.length := by omega
      have hv : val C = 0 := val_zero_iff.2 fun x hx => by
        obtain ⟨j, hj, rfl⟩ := List.getElem_of_mem hx
        exact hz j hj hj
      rw [ansF, if_pos hv] at ha
      (apply w_sq; apply w_sq; apply w_reg; apply w_mvi; rfl; apply w_fld; rfl; apply w_ld; rfl; exact hc_i 3 rfl rfl; apply w_len; rfl; apply w_lss; rfl; rfl; apply w_done0; refine w_ifdF rfl (by omega) ?_; apply w_exit; apply w_sq; apply w_reg; apply w_mvi; rfl; apply w_mvi; rfl; apply w_done0; apply w_ret)
      refine finQ2 (int_eq ?_) rfl
      exact ha
end Go.Gk.Val
end

section
namespace Go.Gk.Val
open Go Go.Gk Go.Gk.Num
attribute [local irreducible] gwp gws

theorem sgn_i (m : Int) : sgn m = -1 ∨ sgn m = 0 ∨ sgn m = 1 := by
  rcases Int.lt_trichotomy m 0 with h | h | h
  · exact .inl (sgn_neg h)
  · subst h; exact .inr (.inl rfl)
  · exact .inr (.inr (sgn_pos h))
theorem cmpB_i : ∀ a b : List UInt8, Lib.compareBytes a b = -1 ∨ Lib.compareBytes a b = 0 ∨ Lib.compareBytes a b = 1
  | [], [] => .inr (.inl rfl)
  | [], _ :: _ => .inl rfl
  | _ :: _, [] => .inr (.inr rfl)
  | a :: l, b :: m => by
    simp only [Lib.compareBytes]
    by_cases h1 : a < b
    · rw [if_pos h1]; exact .inl rfl
    · rw [if_neg h1]
      by_cases h2 : b < a
      · rw [if_pos h2]; exact .inr (.inr rfl)
      · rw [if_neg h2]; exact cmpB_i l m
section
variable {P : Program} {pan : List PanicEntry → Post} {Qn : Env → Post} {Ls L : List PHeap} {ρ : Env} {d : PHeap} {s : GS} {t : Nat} {tk : Bool}
theorem w_mul1 {x y : Operand} {a b : Int} (ex : ev ρ x = .int .i64 a) (ey : ev ρ y = .int .i64 b) (ha : a = -1 ∨ a = 0 ∨ a = 1) (hb : b = -1 ∨ b = 0 ∨ b = 1) (h : gws P pan Qn s Ls (upd ρ t (.int .i64 (a * b))) d L) :
    gws P pan Qn (.op tk ⟨some t, none, .bin .mul x y⟩ s) Ls ρ d L := by
  refine w_bin ?_ h
  rw [ex, ey]
  simp only [binV]
  rcases ha with rfl | rfl | rfl <;> rcases hb with rfl | rfl | rfl <;> rfl
end
def g_num_Cmp (f_num_Right f_num_sign f_num_compare f_num_size f_strconv_FormatUint f_strings_Compare : Nat) : GFun :=
 ⟨63, [(.tmp 4), (.tmp 5)],
 (.seq
 (.reg false (.op false ⟨(some 2), none, (.box (.tmp 0))⟩
  (.op false ⟨(some 3), none, (.box (.tmp 1))⟩
  (.op false ⟨(some 4), none, (.mv (.const (.int .i64 0)))⟩
  (.op false ⟨(some 5), none, (.mv (.const (.int .i64 0)))⟩ .done)))))
 (.seq (.seq
 (.reg false (.op false ⟨(some 10), none, (.ld (some 2) (.tmp 2))⟩
  (.op false ⟨(some 11), none, (.call f_num_Right [(.tmp 10)])⟩
  (.op false ⟨(some 12), none, (.un .not (.tmp 11))⟩
  (.op false ⟨(some 13), none, (.mv (.tmp 12))⟩
  (.op false ⟨(some 14), (some (13, false)), (.ld (some 2) (.tmp 3))⟩
  (.op false ⟨(some 15), (some (13, false)), (.call f_num_Right [(.tmp 14)])⟩
  (.op false ⟨(some 16), (some (13, false)), (.un .not (.tmp 15))⟩
  (.op false ⟨(some 17), none, (.pick (.tmp 13) (.const (.bool true)) (.tmp 16))⟩ .done))))))))) (.cond (.tmp 17)
 (.seq
 (.reg false (.op false ⟨(some 4), none, (.mv (.const (.int .i64 0)))⟩
  (.op false ⟨(some 5), none, (.mv (.const (.int .i64 10)))⟩ .done))) .ret) .skip))
 (.seq
 (.reg true (.op true ⟨(some 18), none, (.ld (some 2) (.tmp 2))⟩
  (.op true ⟨(some 20), none, (.ld (some 2) (.tmp 3))⟩
  (.op false ⟨(some 19), none, (.call f_num_sign [(.tmp 18)])⟩
  (.op false ⟨(some 21), none, (.call f_num_sign [(.tmp 20)])⟩
  (.op true ⟨(some 6), none, (.mv (.tmp 19))⟩
  (.op true ⟨(some 7), none, (.mv (.tmp 21))⟩ .done)))))))
 (.seq (.seq
 (.reg false (.op false ⟨(some 22), none, (.mv (.tmp 6))⟩
  (.op false ⟨(some 23), none, (.mv (.tmp 7))⟩
  (.op false ⟨(some 24), none, (.bin .neq (.tmp 22) (.tmp 23))⟩
  (.op false ⟨(some 25), none, (.mv (.tmp 24))⟩
  (.op false ⟨(some 26), (some (25, false)), (.mv (.tmp 6))⟩
  (.op false ⟨(some 27), (some (25, false)), (.bin .eql (.tmp 26) (.const (.int .i64 0)))⟩
  (.op false ⟨(some 28), none, (.pick (.tmp 25) (.const (.bool true)) (.tmp 27))⟩ .done)))))))) (.cond (.tmp 28)
 (.seq
 (.reg false (.op false ⟨(some 29), none, (.mv (.tmp 6))⟩
  (.op false ⟨(some 30), none, (.mv (.tmp 7))⟩
  (.op false ⟨(some 31), none, (.call f_num_compare [(.tmp 29), (.tmp 30)])⟩
  (.op false ⟨(some 4), none, (.mv (.tmp 31))⟩
  (.op false ⟨(some 5), none, (.mv (.const (.int .i64 0)))⟩ .done)))))) .ret) .skip))
 (.seq
 (.reg true (.op true ⟨(some 32), none, (.ld (some 2) (.tmp 2))⟩
  (.op true ⟨(some 36), none, (.fld 1 (.tmp 2))⟩
  (.op true ⟨(some 37), none, (.ld none (.tmp 36))⟩
  (.op true ⟨(some 39), none, (.ld (some 2) (.tmp 3))⟩
  (.op true ⟨(some 43), none, (.fld 1 (.tmp 3))⟩
  (.op true ⟨(some 44), none, (.ld none (.tmp 43))⟩
  (.op false ⟨(some 33), none, (.call f_num_size [(.tmp 32)])⟩
  (.op false ⟨(some 34), none, (.call f_strconv_FormatUint [(.tmp 33), (.const (.int .i64 10))])⟩
  (.op true ⟨(some 35), none, (.lens (.tmp 34))⟩
  (.op true ⟨(some 38), none, (.bin .add (.tmp 35) (.tmp 37))⟩
  (.op false ⟨(some 40), none, (.call f_num_size [(.tmp 39)])⟩
  (.op false ⟨(some 41), none, (.call f_strconv_FormatUint [(.tmp 40), (.const (.int .i64 10))])⟩
  (.op true ⟨(some 42), none, (.lens (.tmp 41))⟩
  (.op true ⟨(some 45), none, (.bin .add (.tmp 42) (.tmp 44))⟩
  (.op true ⟨(some 8), none, (.mv (.tmp 38))⟩
  (.op true ⟨(some 9), none, (.mv (.tmp 45))⟩ .done)))))))))))))))))
 (.seq (.seq
 (.reg false (.op false ⟨(some 46), none, (.mv (.tmp 8))⟩
  (.op false ⟨(some 47), none, (.mv (.tmp 9))⟩
  (.op false ⟨(some 48), none, (.bin .neq (.tmp 46) (.tmp 47))⟩ .done)))) (.cond (.tmp 48)
 (.seq
 (.reg false (.op false ⟨(some 49), none, (.mv (.tmp 6))⟩
  (.op false ⟨(some 50), none, (.mv (.tmp 8))⟩
  (.op false ⟨(some 51), none, (.mv (.tmp 9))⟩
  (.op false ⟨(some 52), none, (.call f_num_compare [(.tmp 50), (.tmp 51)])⟩
  (.op false ⟨(some 53), none, (.bin .mul (.tmp 49) (.tmp 52))⟩
  (.op false ⟨(some 4), none, (.mv (.tmp 53))⟩
  (.op false ⟨(some 5), none, (.mv (.const (.int .i64 0)))⟩ .done)))))))) .ret) .skip))
 (.seq
 (.reg true (.op true ⟨(some 54), none, (.mv (.tmp 6))⟩
  (.op true ⟨(some 55), none, (.ld (some 2) (.tmp 2))⟩
  (.op true ⟨(some 58), none, (.ld (some 2) (.tmp 3))⟩
  (.op false ⟨(some 56), none, (.call f_num_size [(.tmp 55)])⟩
  (.op false ⟨(some 57), none, (.call f_strconv_FormatUint [(.tmp 56), (.const (.int .i64 10))])⟩
  (.op false ⟨(some 59), none, (.call f_num_size [(.tmp 58)])⟩
  (.op false ⟨(some 60), none, (.call f_strconv_FormatUint [(.tmp 59), (.const (.int .i64 10))])⟩
  (.op false ⟨(some 61), none, (.call f_strings_Compare [(.tmp 57), (.tmp 60)])⟩
  (.op true ⟨(some 62), none, (.bin .mul (.tmp 54) (.tmp 61))⟩
  (.bar (.op true ⟨(some 4), none, (.mv (.tmp 62))⟩
  (.op true ⟨(some 5), none, (.mv (.const (.int .i64 0)))⟩ .done))))))))))))) .ret)))))))⟩

set_option maxHeartbeats 1000000 in
theorem ncmp_ok {T : PHeap → Prop} {P : Program} {f f1 f2 f3 f4 f5 f6 : FuncId} (hd : dec P f = some (g_num_Cmp f1 f2 f3 f4 f5 f6)) (h1 : NumOk T P f1) (h2 : SignOk P f2) (h3 : CmpIOk P f3) (h4 : SizeOk P f4) (h5 : FmtUOk T P f5) (h6 : CmpSOk P f6) : NumCmpOk T P f := by
  intro d m1 e1 m2 e2 ht i1 i2 i3 i4
  refine GPure.of' hd (Nat.le_of_ble_eq_true rfl) ?_
  show gwp P _ _ _ _ _
  apply w_sq; apply w_reg
  refine w_boxa (l := [.int .i64 m1, .int .i64 e1]) rfl (fun t2 T2 => ?_)
  refine w_boxa (l := [.int .i64 m2, .int .i64 e2]) rfl (fun t3 T3 => ?_)
  cases r1 : numRight m1 e1 with
  | false =>
    rw [numCmpF, r1]
    (apply w_mvi; rfl; apply w_mvi; rfl; apply w_done0; apply w_sq; apply w_sq; apply w_reg; apply w_ldb 1; rfl; rfl; rfl)
    refine w_pure rfl (h1 ht i1 i2) ?_
    rw [r1]
    (apply w_not; rfl; apply w_mvb; rfl; apply w_gF; rfl; apply w_gF; rfl; apply w_gF; rfl; apply w_pickTb; rfl; rfl; apply w_done0; apply w_ifT; rfl; apply w_sq; apply w_reg; apply w_mvi; rfl; apply w_mvi; rfl; apply w_done0; apply w_ret)
    exact finQ2 rfl rfl
  | true =>
    cases r2 : numRight m2 e2 with
    | false =>
      rw [numCmpF, r1, r2]
      (apply w_mvi; rfl; apply w_mvi; rfl; apply w_done0; apply w_sq; apply w_sq; apply w_reg; apply w_ldb 1; rfl; rfl; rfl)
      refine w_pure rfl (h1 ht i1 i2) ?_
      rw [r1]
      (apply w_not; rfl; apply w_mvb; rfl; apply w_gT; rfl; apply w_ldb 0; rfl; rfl; rfl; apply w_gT; rfl)
      refine w_pure rfl (h1 ht i3 i4) ?_
      rw [r2]
      (apply w_gT; rfl; apply w_not; rfl; apply w_pickFb; rfl; rfl; apply w_done0; apply w_ifT; rfl; apply w_sq; apply w_reg; apply w_mvi; rfl; apply w_mvi; rfl; apply w_done0; apply w_ret)
      exact finQ2 rfl rfl
    | true =>
      have b1 := numR0 r1
      have b2 := numR0 r2
      have hpl := @numC_place m1 e1 m2 e2 r1 r2
      have hsg := @numC_sgn m1 e1 m2 e2
      have u1 : m1.natAbs < 18446744073709551616 := by omega
      have u2 : m2.natAbs < 18446744073709551616 := by omega
      have l1 := Lib.decDigits_length m1.natAbs
      have l2 := Lib.decDigits_length m2.natAbs
      have k1 := Lib.nDigits_le20 m1.natAbs u1
      have k2 := Lib.nDigits_le20 m2.natAbs u2
      rw [numCmpF, r1, r2]
      (apply w_mvi; rfl; apply w_mvi; rfl; apply w_done0; apply w_sq; apply w_sq; apply w_reg; apply w_ldb 1; rfl; rfl; rfl)
      refine w_pure rfl (h1 ht i1 i2) ?_
      rw [r1]
      (apply w_not; rfl; apply w_mvb; rfl; apply w_gT; rfl; apply w_ldb 0; rfl; rfl; rfl; apply w_gT; rfl)
      refine w_pure rfl (h1 ht i3 i4) ?_
      rw [r2]
      (apply w_gT; rfl; apply w_not; rfl; apply w_pickFb; rfl; rfl; apply w_done0; apply w_ifF; rfl; apply w_skip; apply w_sq; apply w_drawn; apply w_ldb 1; rfl; rfl; rfl; apply w_ldb 0; rfl; rfl; rfl)
      refine w_pure rfl h2 ?_
      refine w_pure rfl h2 ?_
      have hfin : ∀ {x : Int}, x = numC m1 e1 m2 e2 → Value.int .i64 x = .int .i64 (if (true && true) = true then (numC m1 e1 m2 e2, (0 : Int)) else (0, 10)).1 := fun h => by rw [h]; rfl
      by_cases hs : sgn m1 = sgn m2
      · by_cases h0 : sgn m1 = 0
        · (apply w_mvi; rfl; apply w_mvi; rfl; apply w_done; apply w_sq; apply w_sq; apply w_reg; apply w_mvi; rfl; apply w_mvi; rfl; apply w_neq; rfl; rfl; apply w_mvb; rfl; refine w_gdF rfl (by omega) ?_; apply w_gT; rfl; apply w_mvi; rfl; apply w_gT; rfl; apply w_eql; rfl; rfl; apply w_pickFb; rfl; rfl; apply w_done0; refine w_ifdT rfl (by omega) ?_; apply w_sq; apply w_reg; apply w_mvi; rfl; apply w_mvi; rfl)
          refine w_pure rfl h3 ?_
          (apply w_mvi; rfl; apply w_mvi; rfl; apply w_done0; apply w_ret)
          exact finQ2 (hfin (hsg (.inr h0)).symm) rfl
        · have hpl := hpl hs h0
          by_cases hp : ((Lib.decDigits m1.natAbs).length : Int) + e1 = (Lib.decDigits m2.natAbs).length + e2
          · rw [if_neg (by omega)] at hpl
            have q1 := sgn_i m1
            have q2 := cmpB_i (Lib.decDigits m1.natAbs) (Lib.decDigits m2.natAbs)
            (apply w_mvi; rfl; apply w_mvi; rfl; apply w_done; apply w_sq; apply w_sq; apply w_reg; apply w_mvi; rfl; apply w_mvi; rfl; apply w_neq; rfl; rfl; apply w_mvb; rfl; refine w_gdF rfl (by omega) ?_; apply w_gT; rfl; apply w_mvi; rfl; apply w_gT; rfl; apply w_eql; rfl; rfl; apply w_pickFb; rfl; rfl; apply w_done0; refine w_ifdF rfl (by omega) ?_; apply w_skip; apply w_sq; apply w_drawn; apply w_ldb 1; rfl; rfl; rfl; apply w_fld; rfl; apply w_ld; rfl; exact hc_i 1 rfl rfl; apply w_ldb 0; rfl; rfl; rfl; apply w_fld; rfl; apply w_ld; rfl; exact hc_i 0 rfl rfl)
            refine w_pure rfl (h4 i1) ?_
            refine w_pure rfl (h5 ht u1) ?_
            (apply w_lens; rfl; apply w_add; rfl; rfl; omega; omega)
            refine w_pure rfl (h4 i3) ?_
            refine w_pure rfl (h5 ht u2) ?_
            (apply w_lens; rfl; apply w_add; rfl; rfl; omega; omega; apply w_mvi; rfl; apply w_mvi; rfl; apply w_done; apply w_sq; apply w_sq; apply w_reg; apply w_mvi; rfl; apply w_mvi; rfl; apply w_neq; rfl; rfl; apply w_done0; refine w_ifdF rfl (by omega) ?_; apply w_skip; apply w_sq; apply w_drawn; apply w_mvi; rfl; apply w_ldb 1; rfl; rfl; rfl; apply w_ldb 0; rfl; rfl; rfl)
            refine w_pure rfl (h4 i1) ?_
            refine w_pure rfl (h5 ht u1) ?_
            refine w_pure rfl (h4 i3) ?_
            refine w_pure rfl (h5 ht u2) ?_
            refine w_pure rfl h6 ?_
            refine w_mul1 rfl rfl q1 q2 ?_
            (apply w_bar; apply w_mvi; rfl; apply w_mvi; rfl; apply w_done0; apply w_ret)
            exact finQ2 (hfin hpl.symm) rfl
          · rw [if_pos (by omega)] at hpl
            have q1 := sgn_i m1
            have q2 := cmpI_range ((Lib.decDigits m1.natAbs).length + e1) ((Lib.decDigits m2.natAbs).length + e2)
            (apply w_mvi; rfl; apply w_mvi; rfl; apply w_done; apply w_sq; apply w_sq; apply w_reg; apply w_mvi; rfl; apply w_mvi; rfl; apply w_neq; rfl; rfl; apply w_mvb; rfl; refine w_gdF rfl (by omega) ?_; apply w_gT; rfl; apply w_mvi; rfl; apply w_gT; rfl; apply w_eql; rfl; rfl; apply w_pickFb; rfl; rfl; apply w_done0; refine w_ifdF rfl (by omega) ?_; apply w_skip; apply w_sq; apply w_drawn; apply w_ldb 1; rfl; rfl; rfl; apply w_fld; rfl; apply w_ld; rfl; exact hc_i 1 rfl rfl; apply w_ldb 0; rfl; rfl; rfl; apply w_fld; rfl; apply w_ld; rfl; exact hc_i 0 rfl rfl)
            refine w_pure rfl (h4 i1) ?_
            refine w_pure rfl (h5 ht u1) ?_
            (apply w_lens; rfl; apply w_add; rfl; rfl; omega; omega)
            refine w_pure rfl (h4 i3) ?_
            refine w_pure rfl (h5 ht u2) ?_
            (apply w_lens; rfl; apply w_add; rfl; rfl; omega; omega; apply w_mvi; rfl; apply w_mvi; rfl; apply w_done; apply w_sq; apply w_sq; apply w_reg; apply w_mvi; rfl; apply w_mvi; rfl; apply w_neq; rfl; rfl; apply w_done0; refine w_ifdT rfl (by omega) ?_; apply w_sq; apply w_reg; apply w_mvi; rfl; apply w_mvi; rfl; apply w_mvi; rfl)
            refine w_pure rfl h3 ?_
            refine w_mul1 rfl rfl q1 q2 ?_
            (apply w_mvi; rfl; apply w_mvi; rfl; apply w_done0; apply w_ret)
            exact finQ2 (hfin hpl.symm) rfl
      · (apply w_mvi; rfl; apply w_mvi; rfl; apply w_done; apply w_sq; apply w_sq; apply w_reg; apply w_mvi; rfl; apply w_mvi; rfl; apply w_neq; rfl; rfl; apply w_mvb; rfl; refine w_gdT rfl (by omega) ?_; apply w_gF; rfl; apply w_gF; rfl; apply w_pickTb; rfl; rfl; apply w_done0; apply w_ifT; rfl; apply w_sq; apply w_reg; apply w_mvi; rfl; apply w_mvi; rfl)
        refine w_pure rfl h3 ?_
        (apply w_mvi; rfl; apply w_mvi; rfl; apply w_done0; apply w_ret)
        exact finQ2 (hfin (hsg (.inl hs)).symm) rfl
end Go.Gk.Val
end

section
namespace Go.Gk.Val
open Go Go.Gk Go.Gk.Num

def thn (a b : Int) : Int := if a = 0 then b else a
def lexF {α : Type} (f : α → α → Int) : List α → List α → Int
  | [], [] => 0
  | [], _ :: _ => -1
  | _ :: _, [] => 1
  | a :: l, b :: m => thn (f a b) (lexF f l m)
abbrev cmpB : List UInt8 → List UInt8 → Int := Lib.compareBytes
mutual
def cmpV : V → V → Int
  | .mk k m e t l ks, b => thn (cmpI k b.kind) (thn (if k = 3 then numC m e b.m b.e else 0) (thn (cmpB t b.text) (thn (lexF cmpB ks b.keys) (cmpVs l b.list))))
def cmpVs : List V → List V → Int
  | [], [] => 0
  | [], _ :: _ => -1
  | _ :: _, [] => 1
  | a :: l, b :: m => thn (cmpV a b) (cmpVs l m)
end
theorem cmpVs_eq : ∀ l m : List V, cmpVs l m = lexF cmpV l m
  | [], [] => by simp [cmpVs, lexF]
  | [], _ :: _ => by simp [cmpVs, lexF]
  | _ :: _, [] => by simp [cmpVs, lexF]
  | a :: l, b :: m => by simp only [cmpVs, lexF]; rw [cmpVs_eq l m]
theorem cmpV_eq (a b : V) : cmpV a b = thn (cmpI a.kind b.kind) (thn (if a.kind = 3 then numC a.m a.e b.m b.e else 0) (thn (cmpB a.text b.text) (thn (lexF cmpB a.keys b.keys) (lexF cmpV a.list b.list)))) := by
  obtain ⟨k, m, e, t, l, ks⟩ := a
  rw [cmpV, cmpVs_eq]
theorem thn0 (b : Int) : thn 0 b = b := if_pos rfl
theorem thnN {a : Int} (h : a ≠ 0) (b : Int) : thn a b = a := if_neg h
theorem thn_0 (a : Int) : thn a 0 = a := by rw [thn]; split <;> simp_all
theorem thn_zero {a b : Int} : thn a b = 0 ↔ a = 0 ∧ b = 0 := by rw [thn]; split <;> simp_all
theorem thn_neg (a b : Int) : thn (-a) (-b) = -thn a b := by rw [thn, thn]; split <;> split <;> omega
theorem thn_i {a b : Int} (ha : a = -1 ∨ a = 0 ∨ a = 1) (hb : b = -1 ∨ b = 0 ∨ b = 1) : thn a b = -1 ∨ thn a b = 0 ∨ thn a b = 1 := by rw [thn]; split <;> assumption
section
variable {α : Type} {f : α → α → Int}
theorem lexF_nil : lexF f [] [] = 0 := rfl
theorem lexF_end : ∀ (i : Nat) (l m : List α), i ≤ l.length → i ≤ m.length → (i = l.length ∨ i = m.length) → lexF f (l.drop i) (m.drop i) = cmpI l.length m.length := by
  intro i l m h1 h2 h3
  by_cases q1 : i = l.length
  · subst q1
    rw [List.drop_length]
    by_cases q2 : l.length = m.length
    · rw [q2, List.drop_length, cmpI_eq rfl]; rfl
    · rw [List.drop_eq_getElem_cons (by omega), cmpI_lt (by omega)]; rfl
  · obtain rfl : i = m.length := by omega
    rw [List.drop_length, List.drop_eq_getElem_cons (by omega), cmpI_gt (by omega)]; rfl
theorem lexF_step {i : Nat} {l m : List α} (h1 : i < l.length) (h2 : i < m.length) : lexF f (l.drop i) (m.drop i) = thn (f l[i] m[i]) (lexF f (l.drop (i + 1)) (m.drop (i + 1))) := by
  rw [List.drop_eq_getElem_cons h1, List.drop_eq_getElem_cons h2]; rfl
theorem lexF_i : ∀ l m : List α, (∀ x ∈ l, ∀ y ∈ m, f x y = -1 ∨ f x y = 0 ∨ f x y = 1) → lexF f l m = -1 ∨ lexF f l m = 0 ∨ lexF f l m = 1
  | [], [], _ => .inr (.inl rfl)
  | [], _ :: _, _ => .inl rfl
  | _ :: _, [], _ => .inr (.inr rfl)
  | a :: l, b :: m, h => thn_i (h a (List.mem_cons_self ..) b (List.mem_cons_self ..)) (lexF_i l m (fun x hx y hy => h x (List.mem_cons_of_mem _ hx) y (List.mem_cons_of_mem _ hy)))
theorem lexF_swap : ∀ l m : List α, (∀ x ∈ l, ∀ y ∈ m, f x y = -f y x) → lexF f l m = -lexF f m l
  | [], [], _ => rfl
  | [], _ :: _, _ => rfl
  | _ :: _, [], _ => rfl
  | a :: l, b :: m, h => by
    rw [lexF, lexF, h a (List.mem_cons_self ..) b (List.mem_cons_self ..), lexF_swap l m (fun x hx y hy => h x (List.mem_cons_of_mem _ hx) y (List.mem_cons_of_mem _ hy)), thn_neg]
theorem lexF_zero : ∀ l m : List α, (∀ x ∈ l, ∀ y ∈ m, f x y = 0 ↔ x = y) → (lexF f l m = 0 ↔ l = m)
  | [], [], _ => by simp [lexF]
  | [], _ :: _, _ => by simp [lexF]
  | _ :: _, [], _ => by simp [lexF]
  | a :: l, b :: m, h => by
    rw [lexF, thn_zero, h a (List.mem_cons_self ..) b (List.mem_cons_self ..), lexF_zero l m (fun x hx y hy => h x (List.mem_cons_of_mem _ hx) y (List.mem_cons_of_mem _ hy)), List.cons.injEq]
def Trans3 (x z w : Int) : Prop := (x ≤ 0 → z ≤ 0 → w ≤ 0) ∧ (x < 0 → z ≤ 0 → w < 0) ∧ (x ≤ 0 → z < 0 → w < 0) ∧ (x = 0 → z = 0 → w = 0)
theorem thn_trans {a1 a2 a3 b1 b2 b3 : Int} (ha : Trans3 a1 a2 a3) (hb : a1 = 0 → a2 = 0 → a3 = 0 → Trans3 b1 b2 b3) : Trans3 (thn a1 b1) (thn a2 b2) (thn a3 b3) := by
  obtain ⟨p1, p2, p3, p4⟩ := ha
  by_cases q1 : a1 = 0
  · by_cases q2 : a2 = 0
    · have q3 := p4 q1 q2
      rw [q1, q2, q3, thn0, thn0, thn0]; exact hb q1 q2 q3
    · rw [thnN q2]
      refine ⟨fun h1 h2 => ?_, fun h1 h2 => ?_, fun h1 h2 => ?_, fun h1 h2 => absurd h2 q2⟩ <;>
      · have := p3 (by omega) (by omega)
        rw [thnN (by omega)]; omega
  · rw [thnN q1]
    refine ⟨fun h1 h2 => ?_, fun h1 h2 => ?_, fun h1 h2 => ?_, fun h1 h2 => absurd h1 q1⟩ <;>
    · have h3 : a2 ≤ 0 := by rw [thn] at h2; split at h2 <;> omega
      have := p2 (by omega) h3
      rw [thnN (by omega)]; omega
theorem lexF_trans : ∀ l m n : List α, (∀ x ∈ l, ∀ y ∈ m, ∀ z ∈ n, Trans3 (f x y) (f y z) (f x z)) → Trans3 (lexF f l m) (lexF f m n) (lexF f l n)
  | [], m, [], _ => by cases m <;> simp [lexF, Trans3]
  | [], m, c :: n, _ => by cases m <;> simp [lexF, Trans3]
  | a :: l, [], n, _ => by cases n <;> simp [lexF, Trans3]
  | a :: l, b :: m, [], _ => by simp [lexF, Trans3]
  | a :: l, b :: m, c :: n, h => by
    rw [lexF, lexF, lexF]
    exact thn_trans (h a (List.mem_cons_self ..) b (List.mem_cons_self ..) c (List.mem_cons_self ..)) (fun _ _ _ => lexF_trans l m n (fun x hx y hy z hz => h x (List.mem_cons_of_mem _ hx) y (List.mem_cons_of_mem _ hy) z (List.mem_cons_of_mem _ hz)))
end
theorem cmpI_trans (a b c : Int) : Trans3 (cmpI a b) (cmpI b c) (cmpI a c) := by
  have key : ∀ x y : Int, (cmpI x y ≤ 0 ↔ x ≤ y) ∧ (cmpI x y < 0 ↔ x < y) ∧ (cmpI x y = 0 ↔ x = y) := fun x y => by
    rcases Int.lt_trichotomy x y with h | h | h
    · rw [cmpI_lt h]; omega
    · rw [cmpI_eq h]; omega
    · rw [cmpI_gt h]; omega
  obtain ⟨k1, k2, k3⟩ := key a b
  obtain ⟨k4, k5, k6⟩ := key b c
  obtain ⟨k7, k8, k9⟩ := key a c
  rw [Trans3, k1, k2, k3, k4, k5, k6, k7, k8, k9]
  omega
theorem numC_trans (m1 e1 m2 e2 m3 e3 : Int) : Trans3 (numC m1 e1 m2 e2) (numC m2 e2 m3 e3) (numC m1 e1 m3 e3) := by
  have h1 : min e1 (min e2 e3) ≤ e1 := by omega
  have h2 : min e1 (min e2 e3) ≤ e2 := by omega
  have h3 : min e1 (min e2 e3) ≤ e3 := by omega
  rw [← numC_at m1 e1 m2 e2 _ h1 h2, ← numC_at m2 e2 m3 e3 _ h2 h3, ← numC_at m1 e1 m3 e3 _ h1 h3]
  exact cmpI_trans _ _ _
theorem cmpB_lex : ∀ a b : List UInt8, cmpB a b = lexF (fun (x y : UInt8) => cmpI x.toNat y.toNat) a b
  | [], [] => rfl
  | [], _ :: _ => rfl
  | _ :: _, [] => rfl
  | a :: l, b :: m => by
    rw [cmpB, Lib.compareBytes, lexF]
    by_cases h1 : a < b
    · rw [if_pos h1]; rw [UInt8.lt_iff_toNat_lt] at h1; rw [cmpI_lt (by omega), thnN (by decide)]
    · by_cases h2 : b < a
      · rw [if_neg h1, if_pos h2]; rw [UInt8.lt_iff_toNat_lt] at h2; rw [cmpI_gt (by omega), thnN (by decide)]
      · rw [if_neg h1, if_neg h2]; rw [UInt8.lt_iff_toNat_lt] at h1 h2; rw [cmpI_eq (by omega), thn0]; exact cmpB_lex l m
theorem cmpB_zero (a b : List UInt8) : cmpB a b = 0 ↔ a = b := by
  rw [cmpB_lex]
  exact lexF_zero _ _ (fun x _ y _ => by rw [cmpI_zero]; exact ⟨fun h => UInt8.toNat_inj.1 (by omega), fun h => by rw [h]⟩)
theorem cmpB_trans (a b c : List UInt8) : Trans3 (cmpB a b) (cmpB b c) (cmpB a c) := by
  rw [cmpB_lex, cmpB_lex, cmpB_lex]
  exact lexF_trans _ _ _ (fun _ _ _ _ _ _ => cmpI_trans _ _ _)
theorem cmpV_i (a b : V) : cmpV a b = -1 ∨ cmpV a b = 0 ∨ cmpV a b = 1 := by
  induction a using V.ind generalizing b with
  | h a ih =>
    rw [cmpV_eq]
    refine thn_i (cmpI_range _ _) (thn_i ?_ (thn_i (cmpB_i _ _) (thn_i (lexF_i _ _ (fun x _ y _ => cmpB_i _ _)) (lexF_i _ _ (fun x hx y _ => ih x hx y)))))
    split
    · exact cmpI_range _ _
    · exact .inr (.inl rfl)
theorem cmpV_swap (a b : V) : cmpV a b = -cmpV b a := by
  induction a using V.ind generalizing b with
  | h a ih =>
    rw [cmpV_eq, cmpV_eq, lexF_swap _ _ (fun x hx y _ => ih x hx y), lexF_swap a.keys b.keys (fun x _ y _ => cmpB_swap x y), show cmpB a.text b.text = -cmpB b.text a.text from cmpB_swap _ _, cmpI_swap]
    by_cases h : b.kind = a.kind
    · rw [h]
      have : (if a.kind = 3 then numC a.m a.e b.m b.e else 0) = -(if a.kind = 3 then numC b.m b.e a.m a.e else 0) := by
        split
        · exact numC_swap ..
        · rfl
      rw [this, thn_neg, thn_neg, thn_neg, thn_neg]
    · have hz : cmpI b.kind a.kind ≠ 0 := fun q => h (cmpI_zero.1 q)
      rw [thnN (by omega), thnN hz]
theorem cmpV_trans (a b c : V) : Trans3 (cmpV a b) (cmpV b c) (cmpV a c) := by
  induction a using V.ind generalizing b c with
  | h a ih =>
    rw [cmpV_eq a b, cmpV_eq b c, cmpV_eq a c]
    refine thn_trans (cmpI_trans _ _ _) (fun h1 h2 _ => ?_)
    rw [cmpI_zero] at h1 h2
    refine thn_trans ?_ (fun _ _ _ => thn_trans (cmpB_trans _ _ _) (fun _ _ _ => thn_trans (lexF_trans _ _ _ (fun _ _ _ _ _ _ => cmpB_trans _ _ _)) (fun _ _ _ => lexF_trans _ _ _ (fun x hx y _ z _ => ih x hx y z))))
    rw [← h1]
    split
    · exact numC_trans ..
    · simp [Trans3]
theorem may_bare {v : V} (h : mayV v = true) : (0 ≤ v.kind ∧ v.kind ≤ 6) ∧ (v.kind = 3 ∨ (v.m = 0 ∧ v.e = 0)) ∧ (v.kind = 4 ∨ v.text = []) ∧ (5 ≤ v.kind ∨ v.list = []) ∧ (v.kind = 6 ∨ v.keys = []) ∧ numRight v.m v.e = true := by
  have h1 := may_one h
  simp only [oneB, bareB, Bool.and_eq_true, Bool.or_eq_true, decide_eq_true_eq] at h1
  obtain ⟨⟨⟨⟨⟨⟨⟨⟨a, b⟩, c⟩, d⟩, e⟩, n⟩, _⟩, _⟩, _⟩ := h1
  exact ⟨a, b, c, d, e, n⟩
theorem cmpV_zero {a b : V} (ha : mayV a = true) (hb : mayV b = true) : cmpV a b = 0 ↔ a = b := by
  induction a using V.ind generalizing b with
  | h a ih =>
    obtain ⟨_, a2, _, _, _, an⟩ := may_bare ha
    obtain ⟨_, b2, _, _, _, bn⟩ := may_bare hb
    rw [cmpV_eq, thn_zero, thn_zero, thn_zero, thn_zero, cmpI_zero, cmpB_zero, lexF_zero _ _ (fun x _ y _ => cmpB_zero x y), lexF_zero _ _ (fun x hx y hy => ih x hx (may_mem ha hx) (may_mem hb hy))]
    constructor
    · rintro ⟨h1, h2, h3, h4, h5⟩
      have hn : a.m = b.m ∧ a.e = b.e := by
        by_cases q : a.kind = 3
        · rw [if_pos q] at h2; exact numC_zero an bn h2
        · have q2 : b.kind ≠ 3 := by omega
          rcases a2 with a2 | a2
          · exact absurd a2 q
          · rcases b2 with b2 | b2
            · exact absurd b2 q2
            · omega
      exact V.ext h1 hn.1 hn.2 h3 h5 h4
    · intro h
      subst h
      refine ⟨rfl, ?_, rfl, rfl, rfl⟩
      split
      · rw [numC, cmpI_zero]
      · rfl
end Go.Gk.Val
end

section
namespace Go.Gk.Val
open Go Go.Gk Go.Gk.Num

def esc (s : List UInt8) : List UInt8 := s.flatMap fun c => if c = 0 then [0, 255] else [c]
def keyT (s : List UInt8) : List UInt8 := esc s ++ [0, 1]
def tn (t : UInt8) (b : UInt8) : UInt8 := t ^^^ b
def turnB (m : Int) : UInt8 := if m < 0 then 255 else 0
def keyP (t : UInt8) (m : Nat) (e : Int) : List UInt8 := tn t (UInt8.ofNat ((100 + ((digN m).length : Int) + e) % 256).toNat) :: ((digN m).map (fun d => tn t (UInt8.ofNat (d + 1))) ++ [tn t 0])
def keyN (m e : Int) : List UInt8 := if m = 0 then [2] else (if m < 0 then 1 else 3) :: keyP (turnB m) m.natAbs e
def keyKs (ks : List (List UInt8)) : List UInt8 := ks.flatMap fun s => 5 :: keyT s
mutual
def keyV : V → List UInt8
  | .mk k m e t l ks => UInt8.ofNat ((k + 1) % 256).toNat :: (if k = 3 then keyN m e else if k = 4 then keyT t else if k = 6 then keyKs ks ++ 0 :: keyVs l else if k = 5 then keyVs l ++ [0] else [])
def keyVs : List V → List UInt8
  | [] => []
  | x :: l => keyV x ++ keyVs l
end
theorem keyV_eq (v : V) : keyV v = UInt8.ofNat ((v.kind + 1) % 256).toNat :: (if v.kind = 3 then keyN v.m v.e else if v.kind = 4 then keyT v.text else if v.kind = 6 then keyKs v.keys ++ 0 :: keyVs v.list else if v.kind = 5 then keyVs v.list ++ [0] else []) := by
  obtain ⟨k, m, e, t, l, ks⟩ := v; rw [keyV]
theorem keyVs_append : ∀ a b : List V, keyVs (a ++ b) = keyVs a ++ keyVs b
  | [], b => rfl
  | x :: a, b => by simp [keyVs, keyVs_append a b]
theorem keyVs_snoc (l : List V) (x : V) : keyVs (l ++ [x]) = keyVs l ++ keyV x := by simp [keyVs_append, keyVs]
theorem keyVs_take {l : List V} {i : Nat} (h : i < l.length) : keyVs (l.take (i + 1)) = keyVs (l.take i) ++ keyV l[i] := by rw [List.take_succ_eq_append_getElem h, keyVs_snoc]
theorem keyKs_append (a b : List (List UInt8)) : keyKs (a ++ b) = keyKs a ++ keyKs b := by simp [keyKs]
theorem keyKs_take {l : List (List UInt8)} {i : Nat} (h : i < l.length) : keyKs (l.take (i + 1)) = keyKs (l.take i) ++ 5 :: keyT l[i] := by rw [List.take_succ_eq_append_getElem h, keyKs_append]; simp [keyKs]
theorem esc_append (a b : List UInt8) : esc (a ++ b) = esc a ++ esc b := by simp [esc]
theorem esc_take {s : List UInt8} {i : Nat} (h : i < s.length) : esc (s.take (i + 1)) = esc (s.take i) ++ (if s[i] = 0 then [0, 255] else [s[i]]) := by rw [List.take_succ_eq_append_getElem h, esc_append]; simp [esc]
theorem esc_len (s : List UInt8) : (esc s).length ≤ 2 * s.length := by
  induction s with
  | nil => simp [esc]
  | cons c s ih =>
    have : esc (c :: s) = (if c = 0 then [0, 255] else [c]) ++ esc s := by simp [esc]
    rw [this, List.length_append, List.length_cons]
    split <;> simp <;> omega
theorem keyT_len (s : List UInt8) : (keyT s).length ≤ 2 * s.length + 2 := by have := esc_len s; simp [keyT]; omega
theorem keyKs_take_le (l : List (List UInt8)) (i : Nat) : (keyKs (l.take i)).length ≤ (keyKs l).length := by
  conv => rhs; rw [← List.take_append_drop i l, keyKs_append]
  simp
theorem keyVs_take_le (l : List V) (i : Nat) : (keyVs (l.take i)).length ≤ (keyVs l).length := by
  conv => rhs; rw [← List.take_append_drop i l, keyVs_append]
  simp
theorem keyV_pos (v : V) : 1 ≤ (keyV v).length := by rw [keyV_eq]; simp
theorem numR_len {m e : Int} (h : numRight m e = true) (h0 : m ≠ 0) : 1 ≤ (digN m.natAbs).length ∧ (digN m.natAbs).length ≤ 18 ∧ 37 ≤ 100 + ((digN m.natAbs).length : Int) + e ∧ 100 + ((digN m.natAbs).length : Int) + e ≤ 182 := by
  obtain ⟨h1, h2, h3, h4, h5⟩ := numR h h0
  have hl : (digN m.natAbs).length ≤ 18 := (digN_len _ 18).2 (by omega)
  obtain ⟨d, l, hd, _⟩ := digN_head (n := m.natAbs) (by omega)
  have : 1 ≤ (digN m.natAbs).length := by rw [hd]; simp
  omega
theorem keyN_len {m e : Int} (h : numRight m e = true) : (keyN m e).length ≤ 21 := by
  rw [keyN]
  split
  · simp
  · rename_i h0
    have := numR_len h h0
    simp [keyP]; omega
end Go.Gk.Val
end

section
namespace Go.Gk
open Go
section
variable {P : Program} {pan : List PanicEntry → Post} {Qn : Env → Post} {Ls L : List PHeap} {ρ : Env} {d : PHeap} {s : GS} {t : Nat} {tk : Bool}
theorem ev_upd {ρ : Env} {t : Nat} {v : Value} : ev (upd ρ t v) (.tmp t) = v := by simp [ev, upd]
theorem w_push {t1 t2 : Nat} {z : List Value} {x y : Operand} {b : UInt8} {v : Value} {xs : List UInt8} {h : PHeap} {zb : Value} (ex : ev ρ x = byteV b) (ho : GRow 1 RByte d v xs h) (ey : ∀ u, ev (upd ρ t1 u) y = v) (hm : xs.length + 1 ≤ 140737488355328)
    (k : ∀ u v' h', GRow 1 RByte d v' (xs ++ [b]) h' → gws P pan Qn s Ls (upd (upd ρ t1 u) t2 v') d (h' :: L)) :
    gws P pan Qn (.op false ⟨some t1, none, .bsl 1 1 [zb] [(0, x)]⟩ (.op false ⟨some t2, none, .app 1 1 z y (.tmp t1)⟩ s)) Ls ρ d (h :: L) := by
  refine w_bs1 (v0 := byteV b) ex rfl (fun q T => ?_)
  exact w_appL (R := RByte) 0 (ey _) rfl ho ev_upd (GRow.litB (l := [b]) rfl rfl (by simp)) cell1_byte (by omega) (by simpa using hm) (by simpa using hm) (fun v' h' o => k _ v' h' o)
theorem w_push2 {t1 t2 : Nat} {z : List Value} {x x' y : Operand} {b b' : UInt8} {v : Value} {xs : List UInt8} {h : PHeap} {zb : Value} (ex : ev ρ x = byteV b) (ex' : ev ρ x' = byteV b') (ho : GRow 1 RByte d v xs h) (ey : ∀ u, ev (upd ρ t1 u) y = v) (hm : xs.length + 2 ≤ 140737488355328)
    (k : ∀ u v' h', GRow 1 RByte d v' (xs ++ [b, b']) h' → gws P pan Qn s Ls (upd (upd ρ t1 u) t2 v') d (h' :: L)) :
    gws P pan Qn (.op false ⟨some t1, none, .bsl 2 1 [zb] [(0, x), (1, x')]⟩ (.op false ⟨some t2, none, .app 1 1 z y (.tmp t1)⟩ s)) Ls ρ d (h :: L) := by
  refine w_bs2 (v0 := byteV b) (v1 := byteV b') ex rfl ex' rfl (fun q T => ?_)
  exact w_appL (R := RByte) 0 (ey _) rfl ho ev_upd (GRow.litB (l := [b, b']) rfl rfl (by simp)) cell1_byte (by omega) (by simpa using hm) (by simpa using hm) (fun v' h' o => k _ v' h' o)
theorem w_xorB {x y : Operand} {a b : UInt8} (ex : ev ρ x = byteV a) (ey : ev ρ y = byteV b) (h : gws P pan Qn s Ls (upd ρ t (byteV (a ^^^ b))) d L) : gws P pan Qn (.op tk ⟨some t, none, .bin .xor x y⟩ s) Ls ρ d L := by
  refine w_q rfl (show binV .xor (ev ρ x) (ev ρ y) = some (byteV (a ^^^ b)) from ?_) h
  rw [ex, ey]
  have h1 : ∀ a : UInt8, (BitVec.ofInt 8 (a.toNat : Int)) = a.toBitVec := fun a => by
    apply BitVec.eq_of_toNat_eq
    simp
  simp only [byteV, binV, IntKind.bits, if_true, h1]
  have h2 : ((a.toBitVec ^^^ b.toBitVec).toNat : Int) % 256 = (a.toBitVec ^^^ b.toBitVec).toNat := by
    have : (a.toBitVec ^^^ b.toBitVec).toNat < 256 := (a.toBitVec ^^^ b.toBitVec).isLt
    omega
  have e8 : (2 : Int) ^ IntKind.u8.bits = 256 := rfl
  simp [IntKind.wrap, UInt8.toNat_xor, IntKind.signed, e8]
  exact h2
theorem w_sub8 {x y : Operand} {a b : Int} (ex : ev ρ x = .int .u8 a) (ey : ev ρ y = .int .u8 b) (h1 : 0 ≤ a - b) (h2 : a - b ≤ 255)
    (h : gws P pan Qn s Ls (upd ρ t (.int .u8 (a - b))) d L) : gws P pan Qn (.op tk ⟨some t, none, .bin .sub x y⟩ s) Ls ρ d L :=
  w_bin (by
    have e : IntKind.u8.wrap (a - b) = a - b := by simp [IntKind.wrap, IntKind.signed, IntKind.bits]; omega
    rw [ex, ey]; simp [binV, e]) h
theorem w_bnum2 {x y : Operand} {a b : Int} (ex : ev ρ x = .int .i64 a) (ey : ev ρ y = .int .i64 b) (h : gws P pan Qn s Ls (upd ρ t (.agg [.int .i64 a, .int .i64 b].toArray)) d L) :
    gws P pan Qn (.op tk ⟨some t, none, .bld [(0, 1), (1, 1)] [.int .i64 0, .int .i64 0] [(0, x), (1, y)]⟩ s) Ls ρ d L :=
  w_bld (cs := [.int .i64 a, .int .i64 b]) (by simp [Instr.fill, ex, ey, Value.cells]) h
theorem w_pan {x : Operand} {T : TypeId} {v : Value} (ex : ev ρ x = .iface T v) (h : pan [{ v := .iface T v, recovered := false }] d (Ls ++ L)) : gws P pan Qn (.op false ⟨none, none, .pan x⟩ s) Ls ρ d L :=
  ⟨d, L, Vs.refl d L, T, v, ex, h⟩
theorem w_cut {Q : GPost} {c : GCode} (M : Env → Post) (h : gwp P c { Q with n := M } ρ d L) (k : ∀ ρ d L, M ρ d L → Q.n ρ d L) : gwp P c Q ρ d L :=
  gwp_mono' c h k (fun _ _ _ _ h => h) (fun _ _ _ h => h) rfl
theorem w_callE {f : FuncId} {args : List Operand} {R : Ending → PHeap → List PHeap → Prop} {vs : List Value} {A B : List PHeap} (hL : L = A ++ B) (ea : args.map (ev ρ) = vs) (hc : GCall P f vs d A R) (ho : ∀ d' L', ¬ R .outgrown d' L')
    (h : ∀ v d' L', Le d d' → R (.returned v) d' L' → gws P pan Qn s Ls (upd ρ t v) d' (L' ++ B)) (hp : ∀ c d' L', Le d d' → R (.panicked c) d' L' → pan c d' (Ls ++ (L' ++ B))) : gws P pan Qn (.op false ⟨some t, none, .call f args⟩ s) Ls ρ d L := by
  subst hL
  refine ⟨d, A ++ B, Vs.refl d _, A, B, R, rfl, by rw [ea]; exact hc, fun e d' L' hl hr => ?_⟩
  cases e with
  | returned v => exact ⟨_, _, Vs.refl _ _, h v d' L' hl hr⟩
  | panicked c => exact hp c d' L' hl hr
  | outgrown => exact (ho _ _ hr).elim
end
end Go.Gk
end

section
namespace Go.Gk.Val
open Go Go.Gk Go.Gk.Num
attribute [local irreducible] gwp gws

def KTextOk (P : Program) (f : FuncId) : Prop := ∀ {d : PHeap} {v : Value} {xs : List UInt8} {h : PHeap} {s : List UInt8}, GRow 1 RByte d v xs h → s.length ≤ 140737488355328 → xs.length + (keyT s).length ≤ 140737488355328 →
  GCall P f [v, strV s] d [h] (Ret fun r d' L' => d' = d ∧ ∃ h', L' = [h'] ∧ GRow 1 RByte d r (xs ++ keyT s) h')
def g_key_text : GFun :=
 ⟨28, [(.tmp 4)],
 (.seq
 (.reg false (.op false ⟨(some 4), none, (.mv (.const (.slice none 0 0)))⟩ .done))
 (.seq (.seq
 (.reg false (.op false ⟨(some 6), none, (.mv (.tmp 1))⟩
  (.op false ⟨(some 7), none, (.lens (.tmp 6))⟩
  (.op false ⟨(some 8), none, (.mv (.const (.int .i64 0)))⟩ .done)))) (.block 0 (.loop
 (.seq
 (.reg false (.op false ⟨(some 9), none, (.bin .lss (.tmp 8) (.tmp 7))⟩ .done))
 (.seq (.cond (.tmp 9) .skip (.exit 0))
 (.seq (.block 1
 (.seq
 (.reg false (.op false ⟨(some 10), none, (.mv (.tmp 8))⟩
  (.op false ⟨(some 5), none, (.mv (.tmp 10))⟩ .done)))
 (.seq
 (.reg false (.op false ⟨(some 11), none, (.mv (.tmp 0))⟩
  (.op false ⟨(some 12), none, (.mv (.tmp 1))⟩
  (.op false ⟨(some 13), none, (.mv (.tmp 5))⟩
  (.op false ⟨(some 14), none, (.sidx (.tmp 12) (.tmp 13))⟩
  (.op false ⟨(some 15), none, (.bsl 1 1 [(.int .u8 0)] [(0, (.tmp 14))])⟩
  (.op false ⟨(some 16), none, (.app 1 1 [(.int .u8 0)] (.tmp 11) (.tmp 15))⟩
  (.op false ⟨(some 0), none, (.mv (.tmp 16))⟩ .done))))))))
 (.seq
 (.reg false (.op false ⟨(some 17), none, (.mv (.tmp 1))⟩
  (.op false ⟨(some 18), none, (.mv (.tmp 5))⟩
  (.op false ⟨(some 19), none, (.sidx (.tmp 17) (.tmp 18))⟩
  (.op false ⟨(some 20), none, (.bin .eql (.tmp 19) (.const (.int .u8 0)))⟩ .done))))) (.cond (.tmp 20)
 (.reg false (.op false ⟨(some 21), none, (.mv (.tmp 0))⟩
  (.op false ⟨(some 22), none, (.bsl 1 1 [(.int .u8 0)] [(0, (.const (.int .u8 255)))])⟩
  (.op false ⟨(some 23), none, (.app 1 1 [(.int .u8 0)] (.tmp 21) (.tmp 22))⟩
  (.op false ⟨(some 0), none, (.mv (.tmp 23))⟩ .done))))) .skip)))))
 (.reg false (.op false ⟨(some 24), none, (.bin .add (.tmp 8) (.const (.int .i64 1)))⟩
  (.op false ⟨(some 8), none, (.mv (.tmp 24))⟩ .done)))))))))
 (.seq
 (.reg false (.op false ⟨(some 25), none, (.mv (.tmp 0))⟩
  (.op false ⟨(some 26), none, (.bsl 2 1 [(.int .u8 0)] [(0, (.const (.int .u8 0))), (1, (.const (.int .u8 1)))])⟩
  (.op false ⟨(some 27), none, (.app 1 1 [(.int .u8 0)] (.tmp 25) (.tmp 26))⟩
  (.op false ⟨(some 4), none, (.mv (.tmp 27))⟩ .done))))) .ret)))⟩

theorem ktext_ok {P : Program} {f : FuncId} (hd : dec P f = some g_key_text) : KTextOk P f := by
  intro d v xs h s ho hs hb
  refine GCall_of hd (Nat.le_of_ble_eq_true rfl) ?_
  have hkl : (keyT s).length = (esc s).length + 2 := by simp [keyT]
  show gwp P _ _ _ _ _
  (apply w_sq; apply w_reg; apply w_mvs; rfl; apply w_done0; apply w_sq; apply w_sq; apply w_reg; apply w_mvt; rfl; apply w_lens; rfl; apply w_mvi; rfl; apply w_done0; apply w_block)
  refine w_loopV (α := Nat) (fun i v => [(0, v), (1, strV s), (7, .int .i64 s.length), (8, .int .i64 i)]) (fun i v h d' L' => d' = d ∧ i ≤ s.length ∧ GRow 1 RByte d v (xs ++ esc (s.take i)) h ∧ L' = [h]) (fun i => s.length - i) 0 v h
    ⟨rfl, rfl, rfl, rfl, trivial⟩ ⟨rfl, Nat.zero_le _, by simpa [esc] using ho, rfl⟩ ?_
  rintro i v1 h1 ρ d1 L1 ⟨hdd, hi, ho1, hL⟩
  subst hdd; subst hL
  by_cases hc : i < s.length
  · have het := esc_take hc
    have hsi : s[i]? = some s[i] := List.getElem?_eq_getElem hc
    have hle : (esc (s.take (i + 1))).length ≤ (esc s).length := by
      conv => rhs; rw [← List.take_append_drop (i + 1) s, esc_append]
      simp
    rw [het, List.length_append] at hle
    (apply w_sq; apply w_reg; apply w_lss; rfl; rfl; apply w_done0; apply w_sq; refine w_ifdT rfl (by omega) ?_; apply w_skip; apply w_sq; apply w_block; apply w_sq; apply w_reg; apply w_mvi; rfl; apply w_mvi; rfl; apply w_done0; apply w_sq; apply w_reg; apply w_mv; apply w_mvt; rfl; apply w_mvi; rfl)
    refine w_sidx i rfl rfl rfl hsi ?_
    refine w_push (b := s[i]) rfl ho1 (fun _ => rfl) (by rw [List.length_append]; split at hle <;> simp at hle <;> omega) (fun u2 v2 h2 o2 => ?_)
    (apply w_mv; apply w_done0; apply w_sq; apply w_reg; apply w_mvt; rfl; apply w_mvi; rfl)
    refine w_sidx i rfl rfl rfl hsi ?_
    by_cases h0 : s[i] = 0
    · have h0' : ((s[i].toNat : Nat) : Int) = 0 := by rw [h0]; rfl
      rw [if_pos h0] at het hle
      (apply w_eql; rfl; rfl; apply w_done0; refine w_ifdT rfl (by omega) ?_; apply w_reg; apply w_mv)
      refine w_push (b := 255) rfl o2 (fun _ => rfl) (by rw [List.length_append, List.length_append]; simp at hle ⊢; omega) (fun u3 v3 h3 o3 => ?_)
      (apply w_mv; apply w_done0; apply w_reg; apply w_add; rfl; rfl; omega; omega; apply w_mvi; rfl; apply w_done0)
      refine ⟨i + 1, v3, h3, by omega, ⟨rfl, rfl, rfl, int_eq (by omega), trivial⟩, rfl, hc, ?_, rfl⟩
      rw [het]
      simpa [h0] using o3
    · have h0' : ((s[i].toNat : Nat) : Int) ≠ 0 := fun e => h0 (UInt8.toNat_inj.1 (by simpa using e))
      rw [if_neg h0] at het hle
      (apply w_eql; rfl; rfl; apply w_done0; refine w_ifdF rfl (by omega) ?_; apply w_skip; apply w_reg; apply w_add; rfl; rfl; omega; omega; apply w_mvi; rfl; apply w_done0)
      refine ⟨i + 1, v2, h2, by omega, ⟨rfl, rfl, rfl, int_eq (by omega), trivial⟩, rfl, hc, ?_, rfl⟩
      rw [het]
      simpa using o2
  · obtain rfl : i = s.length := by omega
    rw [List.take_length] at ho1
    (apply w_sq; apply w_reg; apply w_lss; rfl; rfl; apply w_done0; apply w_sq; refine w_ifdF rfl (by omega) ?_; apply w_exit; apply w_sq; apply w_reg; apply w_mv)
    refine w_push2 (b := 0) (b' := 1) rfl rfl ho1 (fun _ => rfl) (by rw [List.length_append]; omega) (fun u2 v2 h2 o2 => ?_)
    (apply w_mv; apply w_done0; apply w_ret)
    have o3 : GRow 1 RByte d1 v2 (xs ++ keyT s) h2 := by simpa [keyT] using o2
    exact fin1 (v := v2) (L' := [h2]) rfl (List.Sublist.refl _) ⟨rfl, h2, rfl, o3⟩

def KDigitsOk (T : PHeap → Prop) (P : Program) (f : FuncId) : Prop := ∀ {d : PHeap} {v : Value} {xs : List UInt8} {h : PHeap} {m e : Int}, T d → GRow 1 RByte d v xs h → numRight m e = true → xs.length + (keyN m e).length ≤ 140737488355328 →
  GCall P f [v, .agg [.int .i64 m, .int .i64 e].toArray] d [h] (Ret fun r d' L' => d' = d ∧ ∃ h', L' = [h'] ∧ GRow 1 RByte d r (xs ++ keyN m e) h')
def g_key_digits (f_strconv_FormatUint : Nat) : GFun :=
 ⟨59, [(.tmp 4)],
 (.seq
 (.reg false (.op false ⟨(some 3), none, (.box (.tmp 1))⟩
  (.op false ⟨(some 4), none, (.mv (.const (.slice none 0 0)))⟩ .done)))
 (.seq (.seq
 (.reg false (.op false ⟨(some 10), none, (.fld 0 (.tmp 3))⟩
  (.op false ⟨(some 11), none, (.ld none (.tmp 10))⟩
  (.op false ⟨(some 12), none, (.bin .eql (.tmp 11) (.const (.int .i64 0)))⟩ .done)))) (.cond (.tmp 12)
 (.seq
 (.reg false (.op false ⟨(some 13), none, (.mv (.tmp 0))⟩
  (.op false ⟨(some 14), none, (.bsl 1 1 [(.int .u8 0)] [(0, (.const (.int .u8 2)))])⟩
  (.op false ⟨(some 15), none, (.app 1 1 [(.int .u8 0)] (.tmp 13) (.tmp 14))⟩
  (.op false ⟨(some 4), none, (.mv (.tmp 15))⟩ .done))))) .ret) .skip))
 (.seq
 (.reg true (.op true ⟨(some 16), none, (.fld 0 (.tmp 3))⟩
  (.op true ⟨(some 17), none, (.ld none (.tmp 16))⟩
  (.op true ⟨(some 18), none, (.cvi .u64 (.tmp 17))⟩
  (.op true ⟨(some 5), none, (.mv (.const (.int .u8 0)))⟩
  (.op true ⟨(some 6), none, (.mv (.const (.int .u8 3)))⟩
  (.op true ⟨(some 7), none, (.mv (.tmp 18))⟩ .done)))))))
 (.seq (.seq
 (.reg false (.op false ⟨(some 19), none, (.fld 0 (.tmp 3))⟩
  (.op false ⟨(some 20), none, (.ld none (.tmp 19))⟩
  (.op false ⟨(some 21), none, (.bin .lss (.tmp 20) (.const (.int .i64 0)))⟩ .done)))) (.cond (.tmp 21)
 (.reg false (.op false ⟨(some 22), none, (.mv (.tmp 7))⟩
  (.op false ⟨(some 23), none, (.un .neg (.tmp 22))⟩
  (.op false ⟨(some 5), none, (.mv (.const (.int .u8 255)))⟩
  (.op false ⟨(some 6), none, (.mv (.const (.int .u8 1)))⟩
  (.op false ⟨(some 7), none, (.mv (.tmp 23))⟩ .done)))))) .skip))
 (.seq
 (.reg false (.op false ⟨(some 24), none, (.mv (.tmp 7))⟩
  (.op false ⟨(some 25), none, (.call f_strconv_FormatUint [(.tmp 24), (.const (.int .i64 10))])⟩
  (.op false ⟨(some 8), none, (.mv (.tmp 25))⟩ .done))))
 (.seq
 (.reg false (.op false ⟨(some 26), none, (.mv (.tmp 0))⟩
  (.op false ⟨(some 27), none, (.mv (.tmp 6))⟩
  (.op false ⟨(some 28), none, (.mv (.tmp 5))⟩
  (.op false ⟨(some 29), none, (.mv (.tmp 8))⟩
  (.op false ⟨(some 30), none, (.lens (.tmp 29))⟩
  (.op false ⟨(some 31), none, (.bin .add (.const (.int .i64 100)) (.tmp 30))⟩
  (.op false ⟨(some 32), none, (.fld 1 (.tmp 3))⟩
  (.op false ⟨(some 33), none, (.ld none (.tmp 32))⟩
  (.op false ⟨(some 34), none, (.bin .add (.tmp 31) (.tmp 33))⟩
  (.op false ⟨(some 35), none, (.cvi .u8 (.tmp 34))⟩
  (.op false ⟨(some 36), none, (.bin .xor (.tmp 28) (.tmp 35))⟩
  (.op false ⟨(some 37), none, (.bsl 2 1 [(.int .u8 0)] [(0, (.tmp 27)), (1, (.tmp 36))])⟩
  (.op false ⟨(some 38), none, (.app 1 1 [(.int .u8 0)] (.tmp 26) (.tmp 37))⟩
  (.op false ⟨(some 0), none, (.mv (.tmp 38))⟩ .done)))))))))))))))
 (.seq (.seq
 (.reg false (.op false ⟨(some 39), none, (.mv (.tmp 8))⟩
  (.op false ⟨(some 40), none, (.lens (.tmp 39))⟩
  (.op false ⟨(some 41), none, (.mv (.const (.int .i64 0)))⟩ .done)))) (.block 0 (.loop
 (.seq
 (.reg false (.op false ⟨(some 42), none, (.bin .lss (.tmp 41) (.tmp 40))⟩ .done))
 (.seq (.cond (.tmp 42) .skip (.exit 0))
 (.seq (.block 1
 (.seq
 (.reg false (.op false ⟨(some 43), none, (.mv (.tmp 41))⟩
  (.op false ⟨(some 9), none, (.mv (.tmp 43))⟩ .done)))
 (.reg false (.op false ⟨(some 44), none, (.mv (.tmp 0))⟩
  (.op false ⟨(some 45), none, (.mv (.tmp 5))⟩
  (.op false ⟨(some 46), none, (.mv (.tmp 8))⟩
  (.op false ⟨(some 47), none, (.mv (.tmp 9))⟩
  (.op false ⟨(some 48), none, (.sidx (.tmp 46) (.tmp 47))⟩
  (.op false ⟨(some 49), none, (.bin .sub (.tmp 48) (.const (.int .u8 48)))⟩
  (.op false ⟨(some 50), none, (.bin .add (.tmp 49) (.const (.int .u8 1)))⟩
  (.op false ⟨(some 51), none, (.bin .xor (.tmp 45) (.tmp 50))⟩
  (.op false ⟨(some 52), none, (.bsl 1 1 [(.int .u8 0)] [(0, (.tmp 51))])⟩
  (.op false ⟨(some 53), none, (.app 1 1 [(.int .u8 0)] (.tmp 44) (.tmp 52))⟩
  (.op false ⟨(some 0), none, (.mv (.tmp 53))⟩ .done))))))))))))))
 (.reg false (.op false ⟨(some 54), none, (.bin .add (.tmp 41) (.const (.int .i64 1)))⟩
  (.op false ⟨(some 41), none, (.mv (.tmp 54))⟩ .done)))))))))
 (.seq
 (.reg false (.op false ⟨(some 55), none, (.mv (.tmp 0))⟩
  (.op false ⟨(some 56), none, (.mv (.tmp 5))⟩
  (.op false ⟨(some 57), none, (.bsl 1 1 [(.int .u8 0)] [(0, (.tmp 56))])⟩
  (.op false ⟨(some 58), none, (.app 1 1 [(.int .u8 0)] (.tmp 55) (.tmp 57))⟩
  (.op false ⟨(some 4), none, (.mv (.tmp 58))⟩ .done)))))) .ret))))))))⟩

theorem kdigits_ok {T : PHeap → Prop} {P : Program} {f f1 : FuncId} (hd : dec P f = some (g_key_digits f1)) (h1 : FmtUOk T P f1) : KDigitsOk T P f := by
  intro d v xs h m e ht ho hr hb
  refine GCall_of hd (Nat.le_of_ble_eq_true rfl) ?_
  obtain ⟨r1, r2, r3, r4⟩ := numR0 hr
  show gwp P _ _ _ _ _
  apply w_sq; apply w_reg
  refine w_boxa (l := [.int .i64 m, .int .i64 e]) rfl (fun b3 T3 => ?_)
  by_cases h0 : m = 0
  · subst h0
    (apply w_mvs; rfl; apply w_done0; apply w_sq; apply w_sq; apply w_reg; apply w_fld; rfl; apply w_ld; rfl; exact hc_i 0 rfl rfl; apply w_eql; rfl; rfl; apply w_done0; refine w_ifdT rfl (by omega) ?_; apply w_sq; apply w_reg; apply w_mv)
    refine w_vs d [h, bx b3 T3 [.int .i64 0, .int .i64 e]] (Vs.pick [1, 0] rfl) ?_
    refine w_push (b := 2) rfl ho (fun _ => rfl) (by simp [keyN] at hb; omega) (fun u2 v2 h2 o2 => ?_)
    (apply w_mv; apply w_done0; apply w_ret)
    have o3 : GRow 1 RByte d v2 (xs ++ keyN 0 e) h2 := by simpa [keyN] using o2
    exact fin1 (v := v2) (L' := [h2]) rfl (by simp) ⟨rfl, h2, rfl, o3⟩
  have hkN : keyN m e = (if m < 0 then 1 else 3) :: keyP (turnB m) m.natAbs e := by rw [keyN, if_neg h0]
  have hkl : (keyN m e).length = (digN m.natAbs).length + 3 := by rw [hkN]; simp [keyP]
  have hu := dec_digN m.natAbs (by omega)
  have hul : (Lib.decDigits m.natAbs).length = (digN m.natAbs).length := by rw [hu, List.length_map]
  obtain ⟨n1, n2, n3, n4⟩ := numR_len hr h0
  have hM : (m % 18446744073709551616 = m ∨ m < 0) := by omega
  (apply w_mvs; rfl; apply w_done0; apply w_sq; apply w_sq; apply w_reg; apply w_fld; rfl; apply w_ld; rfl; exact hc_i 0 rfl rfl; apply w_eql; rfl; rfl; apply w_done0; refine w_ifdF rfl (by omega) ?_; apply w_skip; apply w_sq; apply w_drawn; apply w_fld; rfl; apply w_ld; rfl; exact hc_i 0 rfl rfl; apply w_cviu; rfl; apply w_mvi; rfl; apply w_mvi; rfl; apply w_mvi; rfl; apply w_done; apply w_sq; apply w_sq; apply w_reg; apply w_fld; rfl; apply w_ld; rfl; exact hc_i 0 rfl rfl; apply w_lss; rfl; rfl; apply w_done0)
  refine w_cut (fun ρ d' L' => d' = d ∧ SlotsAre ρ [(0, v), (3, .pointer (some ⟨b3, 0, none⟩)), (5, byteV (turnB m)), (6, byteV (if m < 0 then 1 else 3)), (7, .int .u64 m.natAbs)] ∧ L' = [bx b3 T3 [.int .i64 m, .int .i64 e], h]) ?_ ?_
  · by_cases hn : m < 0
    · have e5 : byteV (turnB m) = .int .u8 255 := by simp [turnB, hn, byteV]
      have e6 : byteV (if m < 0 then 1 else 3) = .int .u8 1 := by simp [hn, byteV]
      rw [e5, e6]
      (refine w_ifdT rfl (by omega) ?_; apply w_reg; apply w_mvi; rfl; apply w_negu; rfl; apply w_mvi; rfl; apply w_mvi; rfl; apply w_mvi; rfl; apply w_done0)
      exact ⟨rfl, ⟨rfl, rfl, rfl, rfl, int_eq (by omega), trivial⟩, rfl⟩
    · have e5 : byteV (turnB m) = .int .u8 0 := by simp [turnB, hn, byteV]
      have e6 : byteV (if m < 0 then 1 else 3) = .int .u8 3 := by simp [hn, byteV]
      rw [e5, e6]
      (refine w_ifdF rfl (by omega) ?_; apply w_skip)
      exact ⟨rfl, ⟨rfl, rfl, rfl, rfl, int_eq (by omega), trivial⟩, rfl⟩
  rintro ρ d1 L1 ⟨hdd, hsl, hL⟩
  subst hdd; subst hL
  refine gwp_slots _ hsl ?_
  clear hsl
  (apply w_sq; apply w_reg; apply w_mvi; rfl)
  refine w_pure rfl (h1 ht (by omega)) ?_
  (apply w_mvt; rfl; apply w_done0; apply w_sq; apply w_reg; apply w_mv; apply w_mvi; rfl; apply w_mvi; rfl; apply w_mvt; rfl; apply w_lens; rfl; apply w_add; rfl; rfl; omega; omega; apply w_fld; rfl; apply w_ld; rfl; exact hc_i 0 rfl rfl; apply w_add; rfl; rfl; omega; omega; apply w_cvb; rfl)
  refine w_xorB (a := turnB m) (b := UInt8.ofNat ((100 + ((Lib.decDigits m.natAbs).length : Int) + e) % 256).toNat) rfl rfl ?_
  refine w_vs d1 [h, bx b3 T3 [.int .i64 m, .int .i64 e]] (Vs.pick [1, 0] rfl) ?_
  refine w_push2 (b := if m < 0 then 1 else 3) (b' := turnB m ^^^ UInt8.ofNat ((100 + ((Lib.decDigits m.natAbs).length : Int) + e) % 256).toNat) rfl rfl ho (fun _ => rfl) (by omega) (fun u2 v2 h2 o2 => ?_)
  (apply w_mv; apply w_done0; apply w_sq; apply w_sq; apply w_reg; apply w_mvt; rfl; apply w_lens; rfl; apply w_mvi; rfl; apply w_done0; apply w_block)
  refine w_loopV (α := Nat) (fun i v => [(0, v), (5, byteV (turnB m)), (8, strV (Lib.decDigits m.natAbs)), (40, .int .i64 (Lib.decDigits m.natAbs).length), (41, .int .i64 i)])
    (fun i v h d' L' => d' = d1 ∧ i ≤ (Lib.decDigits m.natAbs).length ∧ GRow 1 RByte d1 v (xs ++ [if m < 0 then 1 else 3, turnB m ^^^ UInt8.ofNat ((100 + ((Lib.decDigits m.natAbs).length : Int) + e) % 256).toNat] ++ ((digN m.natAbs).take i).map (fun d => tn (turnB m) (UInt8.ofNat (d + 1)))) h ∧ L' = [h, bx b3 T3 [.int .i64 m, .int .i64 e]])
    (fun i => (Lib.decDigits m.natAbs).length - i) 0 v2 h2 ⟨rfl, rfl, rfl, rfl, rfl, trivial⟩ ⟨rfl, Nat.zero_le _, by simpa using o2, rfl⟩ ?_
  rintro i v3 h3 ρ d3 L3 ⟨hdd, hi, o3, hL⟩
  subst hdd; subst hL
  by_cases hc : i < (Lib.decDigits m.natAbs).length
  · have hci : i < (digN m.natAbs).length := by omega
    have hdi := digN_lt m.natAbs _ (List.getElem_mem hci)
    have hui : (Lib.decDigits m.natAbs)[i]? = some (dch (digN m.natAbs)[i]) := by rw [hu, List.getElem?_map, List.getElem?_eq_getElem hci]; rfl
    have hdt : ((dch (digN m.natAbs)[i]).toNat : Int) = 48 + ((digN m.natAbs)[i] : Nat) := by simp [dch]; omega
    (apply w_sq; apply w_reg; apply w_lss; rfl; rfl; apply w_done0; apply w_sq; refine w_ifdT rfl (by omega) ?_; apply w_skip; apply w_sq; apply w_block; apply w_sq; apply w_reg; apply w_mvi; rfl; apply w_mvi; rfl; apply w_done0; apply w_reg; apply w_mv; apply w_mvi; rfl; apply w_mvt; rfl; apply w_mvi; rfl)
    refine w_sidx i rfl rfl rfl hui ?_
    rw [hdt]
    refine w_sub8 rfl rfl (by omega) (by omega) ?_
    refine w_add8 rfl rfl (by omega) (by omega) ?_
    refine w_xorB (a := turnB m) (b := UInt8.ofNat ((digN m.natAbs)[i] + 1)) rfl (int_eq (by simp; omega)) ?_
    refine w_push (b := turnB m ^^^ UInt8.ofNat ((digN m.natAbs)[i] + 1)) rfl o3 (fun _ => rfl) (by simp; omega) (fun u4 v4 h4 o4 => ?_)
    (apply w_mv; apply w_done0; apply w_reg; apply w_add; rfl; rfl; omega; omega; apply w_mvi; rfl; apply w_done0)
    refine ⟨i + 1, v4, h4, by omega, ⟨rfl, rfl, rfl, rfl, int_eq (by omega), trivial⟩, rfl, hc, ?_, rfl⟩
    rw [List.take_succ_eq_append_getElem hci, List.map_append]
    simpa [tn] using o4
  · obtain rfl : i = (Lib.decDigits m.natAbs).length := by omega
    rw [hul, List.take_length] at o3
    (apply w_sq; apply w_reg; apply w_lss; rfl; rfl; apply w_done0; apply w_sq; refine w_ifdF rfl (by omega) ?_; apply w_exit; apply w_sq; apply w_reg; apply w_mv; apply w_mvi; rfl)
    refine w_push (b := turnB m) rfl o3 (fun _ => rfl) (by simp; omega) (fun u4 v4 h4 o4 => ?_)
    (apply w_mv; apply w_done0; apply w_ret)
    have o5 : GRow 1 RByte d3 v4 (xs ++ keyN m e) h4 := by
      rw [hkN, keyP]
      have e0 : turnB m ^^^ 0 = turnB m := by simp
      simpa [tn, hul, e0] using o4
    exact fin1 (v := v4) (L' := [h4]) rfl (by simp) ⟨rfl, h4, rfl, o5⟩
end Go.Gk.Val
end

section
namespace Go.Gk.Val
open Go Go.Gk Go.Gk.Num
attribute [local irreducible] gwp gws

def KPutOk (T : PHeap → Prop) (P : Program) (f : FuncId) : Prop := ∀ (x : V) {d : PHeap} {v : Value} {xs : List UInt8} {h : PHeap} {cs : List Value}, T d → RVal d cs x → mayV x = true → GRow 1 RByte d v xs h → xs.length + (keyV x).length ≤ 140737488355328 →
  GCall P f [v, .agg cs.toArray] d [h] (Ret fun r d' L' => d' = d ∧ ∃ h', L' = [h'] ∧ GRow 1 RByte emp r (xs ++ keyV x) h')
theorem _root_.Go.Gk.GRow.atB {d d' : PHeap} {v : Value} {xs : List UInt8} {h : PHeap} (o : GRow 1 RByte d v xs h) : GRow 1 RByte d' v xs h := let ⟨cs, a, b⟩ := o; ⟨cs, a, b⟩
theorem patch6 {l cs : List Value} (hl : l.length = 6) (h : cs.length = 6) : patch l 0 cs = cs := by
  obtain ⟨a, b, c, d, e, f, rfl⟩ := six h
  simp [patch, hl]
theorem may_subs {v : V} (h : mayV v = true) : ∀ x ∈ v.list, mayV x = true := by
  rw [mayV_eq, Bool.and_eq_true, List.all_eq_true] at h
  exact h.2
def g_key_put (f_key_digits f_key_text f_key_put : Nat) : GFun :=
 ⟨66, [(.tmp 4)],
 (.seq
 (.reg false (.op false ⟨(some 3), none, (.box (.tmp 1))⟩
  (.op false ⟨(some 4), none, (.mv (.const (.slice none 0 0)))⟩ .done)))
 (.seq
 (.reg false (.op false ⟨(some 9), none, (.mv (.tmp 0))⟩
  (.op false ⟨(some 10), none, (.fld 0 (.tmp 3))⟩
  (.op false ⟨(some 11), none, (.ld none (.tmp 10))⟩
  (.op false ⟨(some 12), none, (.bin .add (.tmp 11) (.const (.int .i64 1)))⟩
  (.op false ⟨(some 13), none, (.cvi .u8 (.tmp 12))⟩
  (.op false ⟨(some 14), none, (.bsl 1 1 [(.int .u8 0)] [(0, (.tmp 13))])⟩
  (.op false ⟨(some 15), none, (.app 1 1 [(.int .u8 0)] (.tmp 9) (.tmp 14))⟩
  (.op false ⟨(some 0), none, (.mv (.tmp 15))⟩ .done)))))))))
 (.seq (.seq
 (.reg false (.op false ⟨(some 16), none, (.fld 0 (.tmp 3))⟩
  (.op false ⟨(some 17), none, (.ld none (.tmp 16))⟩ .done))) (.block 0
 (.seq
 (.reg false (.op false ⟨(some 19), none, (.bin .eql (.tmp 17) (.const (.int .i64 3)))⟩
  (.op false ⟨(some 18), none, (.mv (.tmp 19))⟩ .done))) (.cond (.tmp 18)
 (.seq
 (.reg false (.op false ⟨(some 20), none, (.mv (.tmp 0))⟩
  (.op false ⟨(some 21), none, (.fld 1 (.tmp 3))⟩
  (.op false ⟨(some 22), none, (.ld (some 2) (.tmp 21))⟩
  (.op false ⟨(some 23), none, (.call f_key_digits [(.tmp 20), (.tmp 22)])⟩
  (.op false ⟨(some 4), none, (.mv (.tmp 23))⟩ .done)))))) .ret)
 (.seq
 (.reg false (.op false ⟨(some 25), none, (.bin .eql (.tmp 17) (.const (.int .i64 4)))⟩
  (.op false ⟨(some 24), none, (.mv (.tmp 25))⟩ .done))) (.cond (.tmp 24)
 (.seq
 (.reg false (.op false ⟨(some 26), none, (.mv (.tmp 0))⟩
  (.op false ⟨(some 27), none, (.fld 3 (.tmp 3))⟩
  (.op false ⟨(some 28), none, (.ld none (.tmp 27))⟩
  (.op false ⟨(some 29), none, (.call f_key_text [(.tmp 26), (.tmp 28)])⟩
  (.op false ⟨(some 4), none, (.mv (.tmp 29))⟩ .done)))))) .ret)
 (.seq
 (.reg false (.op false ⟨(some 31), none, (.bin .eql (.tmp 17) (.const (.int .i64 6)))⟩
  (.op false ⟨(some 30), none, (.mv (.tmp 31))⟩ .done))) (.cond (.tmp 30)
 (.seq (.seq
 (.reg false (.op false ⟨(some 32), none, (.fld 5 (.tmp 3))⟩
  (.op false ⟨(some 33), none, (.ld none (.tmp 32))⟩
  (.op false ⟨(some 34), none, (.len (.tmp 33))⟩
  (.op false ⟨(some 35), none, (.mv (.const (.int .i64 0)))⟩ .done))))) (.block 1 (.loop
 (.seq
 (.reg false (.op false ⟨(some 36), none, (.bin .lss (.tmp 35) (.tmp 34))⟩ .done))
 (.seq (.cond (.tmp 36) .skip (.exit 1))
 (.seq (.block 2
 (.seq
 (.reg false (.op false ⟨(some 37), none, (.idx 1 (.tmp 33) (.tmp 35))⟩
  (.op false ⟨(some 38), none, (.ld none (.tmp 37))⟩
  (.op false ⟨(some 6), none, (.mv (.tmp 38))⟩ .done))))
 (.reg false (.op false ⟨(some 39), none, (.mv (.tmp 0))⟩
  (.op false ⟨(some 40), none, (.bsl 1 1 [(.int .u8 0)] [(0, (.const (.int .u8 5)))])⟩
  (.op false ⟨(some 41), none, (.app 1 1 [(.int .u8 0)] (.tmp 39) (.tmp 40))⟩
  (.op false ⟨(some 42), none, (.mv (.tmp 6))⟩
  (.op false ⟨(some 43), none, (.call f_key_text [(.tmp 41), (.tmp 42)])⟩
  (.op false ⟨(some 0), none, (.mv (.tmp 43))⟩ .done)))))))))
 (.reg false (.op false ⟨(some 44), none, (.bin .add (.tmp 35) (.const (.int .i64 1)))⟩
  (.op false ⟨(some 35), none, (.mv (.tmp 44))⟩ .done)))))))))
 (.reg false (.op false ⟨(some 45), none, (.mv (.tmp 0))⟩
  (.op false ⟨(some 46), none, (.bsl 1 1 [(.int .u8 0)] [(0, (.const (.int .u8 0)))])⟩
  (.op false ⟨(some 47), none, (.app 1 1 [(.int .u8 0)] (.tmp 45) (.tmp 46))⟩
  (.op false ⟨(some 0), none, (.mv (.tmp 47))⟩ .done)))))) .skip))))))))
 (.seq (.seq
 (.reg false (.op false ⟨(some 48), none, (.fld 4 (.tmp 3))⟩
  (.op false ⟨(some 49), none, (.ld none (.tmp 48))⟩
  (.op false ⟨(some 50), none, (.len (.tmp 49))⟩
  (.op false ⟨(some 51), none, (.mv (.const (.int .i64 0)))⟩ .done))))) (.block 3 (.loop
 (.seq
 (.reg false (.op false ⟨(some 52), none, (.bin .lss (.tmp 51) (.tmp 50))⟩ .done))
 (.seq (.cond (.tmp 52) .skip (.exit 3))
 (.seq (.block 4
 (.seq
 (.reg false (.op false ⟨(some 53), none, (.idx 6 (.tmp 49) (.tmp 51))⟩
  (.op false ⟨(some 54), none, (.ld (some 6) (.tmp 53))⟩
  (.op false ⟨(some 8), none, (.alo (.agg #[(.int .i64 0), (.int .i64 0), (.int .i64 0), (strV []), (.slice none 0 0), (.slice none 0 0)]))⟩
  (.op false ⟨none, none, (.st 6 (.tmp 8) (.tmp 54))⟩ .done)))))
 (.reg false (.op false ⟨(some 55), none, (.mv (.tmp 0))⟩
  (.op false ⟨(some 56), none, (.ld (some 6) (.tmp 8))⟩
  (.op false ⟨(some 57), none, (.call f_key_put [(.tmp 55), (.tmp 56)])⟩
  (.op false ⟨(some 0), none, (.mv (.tmp 57))⟩ .done)))))))
 (.reg false (.op false ⟨(some 58), none, (.bin .add (.tmp 51) (.const (.int .i64 1)))⟩
  (.op false ⟨(some 51), none, (.mv (.tmp 58))⟩ .done)))))))))
 (.seq (.seq
 (.reg false (.op false ⟨(some 59), none, (.fld 0 (.tmp 3))⟩
  (.op false ⟨(some 60), none, (.ld none (.tmp 59))⟩
  (.op false ⟨(some 61), none, (.bin .eql (.tmp 60) (.const (.int .i64 5)))⟩ .done)))) (.cond (.tmp 61)
 (.reg false (.op false ⟨(some 62), none, (.mv (.tmp 0))⟩
  (.op false ⟨(some 63), none, (.bsl 1 1 [(.int .u8 0)] [(0, (.const (.int .u8 0)))])⟩
  (.op false ⟨(some 64), none, (.app 1 1 [(.int .u8 0)] (.tmp 62) (.tmp 63))⟩
  (.op false ⟨(some 0), none, (.mv (.tmp 64))⟩ .done))))) .skip))
 (.seq
 (.reg false (.op false ⟨(some 65), none, (.mv (.tmp 0))⟩
  (.op false ⟨(some 4), none, (.mv (.tmp 65))⟩ .done))) .ret))))))⟩

set_option maxHeartbeats 1000000 in
theorem kput_ok {T : PHeap → Prop} (hTm : ∀ {d d' : PHeap}, T d → Le d d' → T d') {P : Program} {f f1 f2 : FuncId} (hd : dec P f = some (g_key_put f1 f2 f)) (h1 : KDigitsOk T P f1) (h2 : KTextOk P f2) : KPutOk T P f := by
  intro x
  induction x using V.ind with
  | h x ih =>
  intro d v xs h cs ht hv hmay ho hb
  refine GCall.forget (Q := fun r L' => ∃ h', L' = [h'] ∧ GRow 1 RByte emp r (xs ++ keyV x) h') (GCall_of hd (Nat.le_of_ble_eq_true rfl) ?_)
  obtain ⟨lv, kv, rfl, ik, im, ie, it, hl, hks⟩ := hv.open
  obtain ⟨la, lc, rfl⟩ := RSl.val hl
  obtain ⟨ka, kc, rfl⟩ := RSl.val hks
  obtain ⟨hk, hkm, hkt, hkl, hkk, hnr⟩ := may_bare hmay
  have hml := may_subs hmay
  have hkey := keyV_eq x
  rw [hkey, List.length_cons] at hb
  show gwp P _ _ _ _ _
  apply w_sq; apply w_reg
  refine w_boxa (l := [.int .i64 x.kind, .int .i64 x.m, .int .i64 x.e, strV x.text, .slice la x.list.length lc, .slice ka x.keys.length kc]) rfl (fun b3 T3 => ?_)
  refine w_frz (fun d1 hl1 hg1 => ?_)
  have hc1 : DCs d1 b3 0 [.int .i64 x.kind, .int .i64 x.m, .int .i64 x.e, strV x.text, .slice la x.list.length lc, .slice ka x.keys.length kc] := dcs_bx hg1
  have hl' : RSl 6 RVal d1 (.slice la x.list.length lc) x.list := RVals.mono hl hl1
  have hks' : RSl 1 RStr d1 (.slice ka x.keys.length kc) x.keys := RStrs.mono hks hl1
  have ht1 := hTm ht hl1
  have nk := RSl.len_le hks'
  have nl := RSl.len_le hl'
  have ho1 : GRow 1 RByte d1 v xs h := ho.atB
  (apply w_mvs; rfl; apply w_done0; apply w_sq; apply w_reg; apply w_mv; apply w_fld; rfl; apply w_ld; rfl; exact hc_ds (by assumption) rfl; apply w_add; rfl; rfl; omega; omega; apply w_cvb; rfl)
  refine w_push (b := UInt8.ofNat ((x.kind + 1) % 256).toNat) rfl ho1 (fun _ => rfl) (by omega) (fun u2 v2 h2' o2 => ?_)
  by_cases k3 : x.kind = 3
  · rw [if_pos k3] at hb hkey
    rw [k3] at o2 hkey ⊢
    (apply w_mv; apply w_done0; apply w_sq; apply w_sq; apply w_reg; apply w_fld; rfl; apply w_ld; rfl; exact hc_ds (by assumption) rfl; apply w_done0; apply w_block; apply w_sq; apply w_reg; apply w_eql; rfl; rfl; apply w_mvb; rfl; apply w_done0; refine w_ifdT rfl (by omega) ?_; apply w_sq; apply w_reg; apply w_mv; apply w_fld; rfl; apply w_lddp; rfl; assumption; rfl)
    refine w_callA (A := [h2']) (B := []) rfl rfl (h1 ht1 o2 hnr (by rw [List.length_append]; simpa [Nat.add_assoc, Nat.add_comm 1] using hb)) (fun r d6 L6 _ ⟨hdd, h4, hL, o4⟩ => ?_)
    subst hdd; subst hL
    (apply w_mv; apply w_done0; apply w_ret)
    refine fin1 (v := r) (L' := [h4]) rfl (by simp) ⟨h4, rfl, ?_⟩
    have e : xs ++ [UInt8.ofNat ((3 + 1) % 256 : Int).toNat] ++ keyN x.m x.e = xs ++ keyV x := by rw [hkey]; simp
    rw [← e]; exact o4.atB
  by_cases k4 : x.kind = 4
  · rw [if_neg k3, if_pos k4] at hb hkey
    rw [k4] at o2 hkey ⊢
    (apply w_mv; apply w_done0; apply w_sq; apply w_sq; apply w_reg; apply w_fld; rfl; apply w_ld; rfl; exact hc_ds (by assumption) rfl; apply w_done0; apply w_block; apply w_sq; apply w_reg; apply w_eql; rfl; rfl; apply w_mvb; rfl; apply w_done0; refine w_ifdF rfl (by omega) ?_; apply w_sq; apply w_reg; apply w_eql; rfl; rfl; apply w_mvb; rfl; apply w_done0; refine w_ifdT rfl (by omega) ?_; apply w_sq; apply w_reg; apply w_mv; apply w_fld; rfl; apply w_ld; rfl; exact hc_ds (by assumption) rfl)
    refine w_callA (A := [h2']) (B := []) rfl rfl (h2 o2 it (by rw [List.length_append]; simpa [Nat.add_assoc, Nat.add_comm 1] using hb)) (fun r d6 L6 _ ⟨hdd, h4, hL, o4⟩ => ?_)
    subst hdd; subst hL
    (apply w_mv; apply w_done0; apply w_ret)
    refine fin1 (v := r) (L' := [h4]) rfl (by simp) ⟨h4, rfl, ?_⟩
    have e : xs ++ [UInt8.ofNat ((4 + 1) % 256 : Int).toNat] ++ keyT x.text = xs ++ keyV x := by rw [hkey]; simp
    rw [← e]; exact o4.atB
  rw [if_neg k3, if_neg k4] at hb hkey
  have hkt' : (keyKs x.keys).length + (keyVs x.list).length + 1 + xs.length + 1 ≤ 140737488355328 ∨ (x.kind ≠ 6 ∧ x.keys = []) := by
    by_cases k6 : x.kind = 6
    · rw [if_pos k6] at hb; simp at hb; omega
    · exact .inr ⟨k6, by rcases hkk with h | h; · exact absurd h k6
                         · exact h⟩
  have hlt : (keyVs x.list).length + xs.length + 2 ≤ 140737488355328 ∨ x.list = [] := by
    by_cases k6 : x.kind = 6
    · rw [if_pos k6] at hb; simp at hb; omega
    · rw [if_neg k6] at hb
      by_cases k5 : x.kind = 5
      · rw [if_pos k5] at hb; simp at hb; omega
      · rcases hkl with h | h
        · omega
        · exact .inr h
  have hxl : xs.length + 1 ≤ 140737488355328 := by omega
  obtain ⟨w1, hw1⟩ : ∃ w, xs ++ [UInt8.ofNat ((x.kind + 1) % 256).toNat] = w := ⟨_, rfl⟩
  rw [hw1] at o2
  have hwl : w1.length = xs.length + 1 := by rw [← hw1]; simp
  (apply w_mv; apply w_done0; apply w_sq; apply w_sq; apply w_reg; apply w_fld; rfl; apply w_ld; rfl; exact hc_ds (by assumption) rfl; apply w_done0; apply w_block; apply w_sq; apply w_reg; apply w_eql; rfl; rfl; apply w_mvb; rfl; apply w_done0; refine w_ifdF rfl (by omega) ?_; apply w_sq; apply w_reg; apply w_eql; rfl; rfl; apply w_mvb; rfl; apply w_done0; refine w_ifdF rfl (by omega) ?_; apply w_sq; apply w_reg; apply w_eql; rfl; rfl; apply w_mvb; rfl; apply w_done0)
  refine w_cut (fun ρ d' L' => d' = d1 ∧ ∃ v3 h3, SlotsAre ρ [(0, v3), (3, .pointer (some ⟨b3, 0, none⟩))] ∧ GRow 1 RByte d1 v3 (w1 ++ (if x.kind = 6 then keyKs x.keys ++ [0] else [])) h3 ∧ L' = [h3]) ?_ ?_
  · by_cases k6 : x.kind = 6
    · rw [if_pos k6]
      have hkb : (keyKs x.keys).length + (keyVs x.list).length + 1 + xs.length + 1 ≤ 140737488355328 := hkt'.resolve_right (fun h => h.1 k6)
      (refine w_ifdT rfl (by omega) ?_; apply w_sq; apply w_sq; apply w_reg; apply w_fld; rfl; apply w_ld; rfl; exact hc_ds (by assumption) rfl; apply w_len; rfl; apply w_mvi; rfl; apply w_done0; apply w_block)
      refine w_loopV (α := Nat) (fun i v => [(0, v), (3, .pointer (some ⟨b3, 0, none⟩)), (33, .slice ka x.keys.length kc), (34, .int .i64 x.keys.length), (35, .int .i64 i)]) (fun i v h d' L' => d' = d1 ∧ i ≤ x.keys.length ∧ GRow 1 RByte d1 v (w1 ++ keyKs (x.keys.take i)) h ∧ L' = [h]) (fun i => x.keys.length - i) 0 v2 h2'
        ⟨rfl, rfl, rfl, rfl, rfl, trivial⟩ ⟨rfl, Nat.zero_le _, by simpa [keyKs] using o2, rfl⟩ ?_
      rintro i v4 h4 ρ d4 L4 ⟨hdd, hi, o4, hL⟩
      subst hdd; subst hL
      by_cases hc : i < x.keys.length
      · have hle := keyKs_take_le x.keys (i + 1)
        rw [keyKs_take hc, List.length_append, List.length_cons] at hle
        (apply w_sq; apply w_reg; apply w_lss; rfl; rfl; apply w_done0; apply w_sq; refine w_ifdT rfl (by omega) ?_; apply w_skip; apply w_sq; apply w_block; apply w_sq; apply w_reg; refine w_idxR (sz := 1) (R := RStr) (by rfl) (by assumption) (by rfl) rfl (by omega) ?_; rintro _ _ _ _ _ ⟨rfl, _⟩; apply w_ld; rfl; exact hc_ds0 (by assumption) rfl; apply w_mvt; rfl; apply w_done0; apply w_reg; apply w_mv)
        refine w_push (b := 5) rfl o4 (fun _ => rfl) (by rw [List.length_append]; omega) (fun u5 v5 h5 o5 => ?_)
        (apply w_mvt; rfl)
        refine w_callA (A := [h5]) (B := []) rfl rfl (h2 o5 (by assumption) (by simp only [List.length_append, List.length_cons, List.length_nil]; omega)) (fun r d6 L6 _ ⟨hdd, h6, hL, o6⟩ => ?_)
        subst hdd; subst hL
        (apply w_mv; apply w_done0; apply w_reg; apply w_add; rfl; rfl; omega; omega; apply w_mvi; rfl; apply w_done0)
        refine ⟨i + 1, r, h6, by omega, ⟨rfl, rfl, rfl, rfl, int_eq (by omega), trivial⟩, rfl, hc, ?_, rfl⟩
        rw [keyKs_take hc]
        simpa using o6
      · obtain rfl : i = x.keys.length := by omega
        rw [List.take_length] at o4
        (apply w_sq; apply w_reg; apply w_lss; rfl; rfl; apply w_done0; apply w_sq; refine w_ifdF rfl (by omega) ?_; apply w_exit; apply w_reg; apply w_mv)
        refine w_push (b := 0) rfl o4 (fun _ => rfl) (by rw [List.length_append]; omega) (fun u5 v5 h5 o5 => ?_)
        (apply w_mv; apply w_done0)
        exact ⟨rfl, v5, h5, ⟨rfl, rfl, trivial⟩, by simpa using o5, rfl⟩
    · rw [if_neg k6, List.append_nil]
      (refine w_ifdF rfl (by omega) ?_; apply w_skip)
      exact ⟨rfl, v2, h2', ⟨rfl, rfl, trivial⟩, o2, rfl⟩
  rintro ρ d4 L4 ⟨hdd, v4, h4, hsl, o4, hL⟩
  subst hdd; subst hL
  show gwp P _ _ _ _ _
  refine gwp_slots _ hsl ?_
  clear hsl
  obtain ⟨w2, hw2⟩ : ∃ w, w1 ++ (if x.kind = 6 then keyKs x.keys ++ [0] else []) = w := ⟨_, rfl⟩
  rw [hw2] at o4
  have hwb : w2.length + (keyVs x.list).length ≤ 140737488355328 := by
    rw [← hw2, List.length_append, hwl]
    by_cases k6 : x.kind = 6
    · have hkb := hkt'.resolve_right (fun h => h.1 k6)
      rw [if_pos k6]; simp; omega
    · rw [if_neg k6]
      rcases hlt with h | h
      · simp; omega
      · rw [h]; simp [keyVs]; omega
  refine w_mid (fun ρ d' L' => Le d4 d' ∧ ∃ v5 h5, SlotsAre ρ [(0, v5), (3, .pointer (some ⟨b3, 0, none⟩))] ∧ GRow 1 RByte d' v5 (w2 ++ keyVs x.list) h5 ∧ L' = [h5]) ?_ ?_
  · (apply w_sq; apply w_reg; apply w_fld; rfl; apply w_ld; rfl; exact hc_ds (by assumption) rfl; apply w_len; rfl; apply w_mvi; rfl; apply w_done0; apply w_block)
    refine w_loopV (α := Nat) (fun i v => [(0, v), (3, .pointer (some ⟨b3, 0, none⟩)), (49, .slice la x.list.length lc), (50, .int .i64 x.list.length), (51, .int .i64 i)]) (fun i v h d' L' => Le d4 d' ∧ i ≤ x.list.length ∧ GRow 1 RByte d' v (w2 ++ keyVs (x.list.take i)) h ∧ L' = [h]) (fun i => x.list.length - i) 0 v4 h4
      ⟨rfl, rfl, rfl, rfl, rfl, trivial⟩ ⟨Le.refl _, Nat.zero_le _, by simpa [keyVs] using o4, rfl⟩ ?_
    rintro i v5 h5 ρ d5 L5 ⟨hl5, hi, o5, hL⟩
    subst hL
    have hl5' : RSl 6 RVal d5 (.slice la x.list.length lc) x.list := RVals.mono hl' hl5
    by_cases hc : i < x.list.length
    · have hle := keyVs_take_le x.list (i + 1)
      rw [keyVs_take hc, List.length_append] at hle
      (apply w_sq; apply w_reg; apply w_lss; rfl; rfl; apply w_done0; apply w_sq; refine w_ifdT rfl (by omega) ?_; apply w_skip; apply w_sq; apply w_block; apply w_sq; apply w_reg; refine w_idxR (sz := 6) (R := RVal) (by rfl) (by assumption) (by rfl) rfl (by omega) ?_; rintro _ _ _ _ _ _; apply w_ldd; rfl; assumption; assumption; apply w_alo; intro _ _)
      rename_i cs6 hcs6 hD6 hR6 b8 T8
      refine w_stE 0 cs6 rfl rfl rfl hcs6 (Nat.le_of_ble_eq_true rfl) (cell1_val _ _ _ hR6) (patch6 rfl hcs6) ?_
      (apply w_done0; apply w_reg; apply w_mv)
      refine w_ldb 0 rfl rfl hcs6 ?_
      refine w_vs d5 [h5, bx b8 T8 cs6] (Vs.pick [1, 0] rfl) ?_
      refine w_callA (A := [h5]) (B := [bx b8 T8 cs6]) rfl rfl (ih _ (List.getElem_mem hc) (hTm ht1 hl5) hR6 (hml _ (List.getElem_mem hc)) o5 (by rw [List.length_append]; omega)) (fun r d6 L6 _ ⟨hdd, h6, hL, o6⟩ => ?_)
      subst hdd; subst hL
      refine w_vs d6 [h6] (Vs.drop (by simp)) ?_
      (apply w_mv; apply w_done0; apply w_reg; apply w_add; rfl; rfl; omega; omega; apply w_mvi; rfl; apply w_done0)
      refine ⟨i + 1, r, h6, by omega, ⟨rfl, rfl, rfl, rfl, int_eq (by omega), trivial⟩, hl5, hc, ?_, rfl⟩
      rw [keyVs_take hc, ← List.append_assoc]
      exact o6.atB
    · obtain rfl : i = x.list.length := by omega
      rw [List.take_length] at o5
      (apply w_sq; apply w_reg; apply w_lss; rfl; rfl; apply w_done0; apply w_sq; refine w_ifdF rfl (by omega) ?_; apply w_exit)
      exact ⟨hl5, v5, h5, ⟨rfl, rfl, trivial⟩, o5, rfl⟩
  rintro ρ d6 L6 ⟨hl6, v6, h6, hsl, o6, hL⟩
  subst hL
  refine gwp_slots _ hsl ?_
  clear hsl
  have hc6 := hc1.mono hl6
  have hfin : xs ++ keyV x = w2 ++ keyVs x.list ++ (if x.kind = 5 then [0] else []) := by
    rw [hkey, ← hw2, ← hw1]
    by_cases k6 : x.kind = 6
    · rw [if_pos k6, if_pos k6, if_neg (by omega)]; simp
    · rw [if_neg k6, if_neg k6]
      by_cases k5 : x.kind = 5
      · rw [if_pos k5, if_pos k5]; simp
      · rw [if_neg k5, if_neg k5]
        rcases hkl with h | h
        · omega
        · rw [h]; simp [keyVs]
  have hfb : (w2 ++ keyVs x.list).length + 1 ≤ 140737488355328 ∨ x.kind ≠ 5 := by
    by_cases k5 : x.kind = 5
    · left
      have := congrArg List.length hfin
      rw [if_pos k5] at this
      rw [hkey] at this
      simp only [List.length_append, List.length_cons, List.length_nil] at this ⊢
      rw [if_neg (by omega), if_pos k5] at hb this
      simp only [List.length_append, List.length_cons, List.length_nil] at hb this
      omega
    · exact .inr k5
  by_cases k5 : x.kind = 5
  · rw [if_pos k5] at hfin
    (apply w_sq; apply w_sq; apply w_reg; apply w_fld; rfl; apply w_ld; rfl; exact hc_ds (by assumption) rfl; apply w_eql; rfl; rfl; apply w_done0; refine w_ifdT rfl (by omega) ?_; apply w_reg; apply w_mv)
    refine w_push (b := 0) rfl o6 (fun _ => rfl) (hfb.resolve_right (fun h => h k5)) (fun u7 v7 h7 o7 => ?_)
    (apply w_mv; apply w_done0; apply w_sq; apply w_reg; apply w_mv; apply w_mv; apply w_done0; apply w_ret)
    exact fin1 (v := v7) (L' := [h7]) rfl (by simp) ⟨h7, rfl, by rw [hfin]; exact o7.atB⟩
  · rw [if_neg k5, List.append_nil] at hfin
    (apply w_sq; apply w_sq; apply w_reg; apply w_fld; rfl; apply w_ld; rfl; exact hc_ds (by assumption) rfl; apply w_eql; rfl; rfl; apply w_done0; refine w_ifdF rfl (by omega) ?_; apply w_skip; apply w_sq; apply w_reg; apply w_mv; apply w_mv; apply w_done0; apply w_ret)
    exact fin1 (v := v6) (L' := [h6]) rfl (by simp) ⟨h6, rfl, by rw [hfin]; exact o6.atB⟩
end Go.Gk.Val
end

section
namespace Go.Gk.Val
open Go Go.Gk Go.Gk.Num

theorem tn_tn (t b : UInt8) : t ^^^ tn t b = b := by rw [tn, ← UInt8.xor_assoc, UInt8.xor_self, UInt8.zero_xor]
theorem tn_inj {t a b : UInt8} (h : tn t a = tn t b) : a = b := by rw [← tn_tn t a, h, tn_tn]
theorem esc_cons (c : UInt8) (s : List UInt8) : esc (c :: s) = (if c = 0 then [0, 255] else [c]) ++ esc s := by simp [esc]
theorem esc_snoc (s : List UInt8) (c : UInt8) : esc (s ++ [c]) = esc s ++ (if c = 0 then [0, 255] else [c]) := by simp [esc]
theorem keyT_nil : keyT [] = [0, 1] := rfl
theorem keyT_cons (c : UInt8) (s : List UInt8) : keyT (c :: s) = (if c = 0 then [0, 255] else [c]) ++ keyT s := by simp [keyT, esc_cons]
theorem keyT_split : ∀ {s t rest r : List UInt8}, keyT t ++ r = esc s ++ rest → ∃ t', t = s ++ t' ∧ rest = keyT t' ++ r
  | [], t, rest, r, h => ⟨t, rfl, by simpa [esc] using h.symm⟩
  | c :: s, [], rest, r, h => by
    rw [keyT_nil, esc_cons] at h
    split at h
    · simp at h
    · rename_i hc
      simp at h
      exact absurd h.1.symm hc
  | c :: s, c' :: t, rest, r, h => by
    rw [keyT_cons, esc_cons] at h
    have : c' = c ∧ keyT t ++ r = esc s ++ rest := by
      by_cases h0 : c = 0
      · by_cases h1 : c' = 0
        · rw [if_pos h0, if_pos h1] at h; simp at h; exact ⟨by rw [h0, h1], h⟩
        · rw [if_pos h0, if_neg h1] at h; simp at h; exact absurd h.1 h1
      · by_cases h1 : c' = 0
        · rw [if_neg h0, if_pos h1] at h; simp at h; exact absurd h.1.symm h0
        · rw [if_neg h0, if_neg h1] at h; simpa using h
    obtain ⟨rfl, h9⟩ := this
    obtain ⟨t', rfl, h2⟩ := keyT_split h9
    exact ⟨t', rfl, h2⟩
theorem keyT_end {t r r' : List UInt8} (h : (0 : UInt8) :: 1 :: r' = keyT t ++ r) : t = [] ∧ r' = r := by
  cases t with
  | nil => rw [keyT_nil] at h; simpa using h
  | cons c t =>
    rw [keyT_cons] at h
    split at h
    · simp at h
    · rename_i hc
      simp at h
      exact absurd h.1.symm hc
theorem keyT_inj {s t r r' : List UInt8} (h : keyT s ++ r = keyT t ++ r') : s = t ∧ r = r' := by
  have h' : keyT t ++ r' = esc s ++ (0 :: 1 :: r) := by rw [← h]; simp [keyT]
  obtain ⟨t', rfl, h2⟩ := keyT_split h'
  obtain ⟨rfl, h3⟩ := keyT_end h2
  exact ⟨by simp, h3⟩
theorem noT {s t rest r : List UInt8} (h : keyT t ++ r = esc s ++ rest) (hr : rest = [] ∨ rest = [0] ∨ ∃ c r', rest = 0 :: c :: r' ∧ c ≠ 1 ∧ c ≠ 255) : False := by
  obtain ⟨t', -, h⟩ := keyT_split h
  cases t' with
  | nil =>
    rw [keyT_nil] at h
    rcases hr with rfl | rfl | ⟨c, r', rfl, h1, h2⟩ <;> simp at h
    exact h1 h.1
  | cons c' t' =>
    rw [keyT_cons] at h
    split at h
    · rcases hr with rfl | rfl | ⟨c, r', rfl, h1, h2⟩ <;> simp at h
      exact h2 h.1
    · rename_i hc
      rcases hr with rfl | rfl | ⟨c, r', rfl, h1, h2⟩ <;> simp at h
      · exact hc h.1.symm
      · exact hc h.1.symm
def gD (t : UInt8) (d : Nat) : UInt8 := tn t (UInt8.ofNat (d + 1))
theorem gD_inj {t : UInt8} {a b : Nat} (ha : a < 10) (hb : b < 10) (h : gD t a = gD t b) : a = b := by
  have h := congrArg UInt8.toNat (tn_inj h)
  simp at h; omega
theorem gD_ne {t : UInt8} {a : Nat} (ha : a < 10) : gD t a ≠ tn t 0 := fun h => by
  have h := congrArg UInt8.toNat (tn_inj h)
  simp at h; omega
theorem digs_split {t : UInt8} : ∀ {D E : List Nat} {rest r : List UInt8}, (∀ d ∈ D, d < 10) → (∀ d ∈ E, d < 10) → E.map (gD t) ++ tn t 0 :: r = D.map (gD t) ++ rest → ∃ F, E = D ++ F ∧ rest = F.map (gD t) ++ tn t 0 :: r
  | [], E, rest, r, _, _, h => ⟨E, rfl, by simpa using h.symm⟩
  | a :: D, [], rest, r, hD, _, h => by
    simp at h
    exact absurd h.1.symm (gD_ne (hD a (by simp)))
  | a :: D, b :: E, rest, r, hD, hE, h => by
    simp only [List.map_cons, List.cons_append, List.cons.injEq] at h
    have := gD_inj (hE b (by simp)) (hD a (by simp)) h.1
    subst this
    obtain ⟨F, rfl, h2⟩ := digs_split (fun d hd => hD d (List.mem_cons_of_mem _ hd)) (fun d hd => hE d (List.mem_cons_of_mem _ hd)) h.2
    exact ⟨F, rfl, h2⟩
theorem digs_inj {t : UInt8} {D E : List Nat} {r r' : List UInt8} (hD : ∀ d ∈ D, d < 10) (hE : ∀ d ∈ E, d < 10) (h : E.map (gD t) ++ tn t 0 :: r = D.map (gD t) ++ tn t 0 :: r') : E = D ∧ r = r' := by
  obtain ⟨F, rfl, h2⟩ := digs_split hD hE h
  cases F with
  | nil => simp at h2; exact ⟨by simp, h2.symm⟩
  | cons a F =>
    simp at h2
    exact absurd h2.1.symm (gD_ne (hE a (by simp)))
theorem keyP_eq (t : UInt8) (m : Nat) (e : Int) (r : List UInt8) : keyP t m e ++ r = tn t (UInt8.ofNat ((100 + ((digN m).length : Int) + e) % 256).toNat) :: ((digN m).map (gD t) ++ tn t 0 :: r) := by simp [keyP, gD]
theorem ofByte {a b : Int} (ha : 0 ≤ a ∧ a ≤ 255) (hb : 0 ≤ b ∧ b ≤ 255) (h : UInt8.ofNat (a % 256).toNat = UInt8.ofNat (b % 256).toNat) : a = b := by
  have h := congrArg UInt8.toNat h
  simp at h; omega
theorem keyN_inj {m e m' e' : Int} {r r' : List UInt8} (h1 : numRight m e = true) (h2 : numRight m' e' = true) (h : keyN m e ++ r = keyN m' e' ++ r') : m = m' ∧ e = e' ∧ r = r' := by
  have z : ∀ {m e : Int}, numRight m e = true → m = 0 → e = 0 := fun {m e} h h0 => by
    rw [numRight, if_pos h0] at h; exact of_decide_eq_true h
  rw [keyN, keyN] at h
  by_cases a : m = 0
  · rw [if_pos a] at h
    by_cases b : m' = 0
    · rw [if_pos b] at h
      simp at h
      exact ⟨by omega, by rw [z h1 a, z h2 b], h⟩
    · rw [if_neg b] at h
      split at h <;> simp at h
  · rw [if_neg a] at h
    by_cases b : m' = 0
    · rw [if_pos b] at h
      split at h <;> simp at h
    · rw [if_neg b, List.cons_append, List.cons_append, List.cons.injEq] at h
      obtain ⟨hs, h⟩ := h
      have hsg : m < 0 ↔ m' < 0 := by
        by_cases c : m < 0 <;> by_cases c' : m' < 0 <;> simp [c, c'] at hs ⊢
      have ht : turnB m = turnB m' := by simp only [turnB, hsg]
      rw [ht, keyP_eq, keyP_eq, List.cons.injEq] at h
      obtain ⟨hx, h⟩ := h
      obtain ⟨hd, hr⟩ := digs_inj (digN_lt _) (digN_lt _) h
      have hm := congrArg val hd
      rw [val_digN, val_digN] at hm
      obtain ⟨p1, p2, p3, p4⟩ := numR_len h1 a
      obtain ⟨q1, q2, q3, q4⟩ := numR_len h2 b
      have hX := ofByte (by omega) (by omega) (tn_inj hx)
      rw [hd] at hX
      exact ⟨by omega, by omega, hr⟩
def shapeO (v : V) : Prop := (0 ≤ v.kind ∧ v.kind ≤ 6) ∧ (v.kind = 3 ∨ (v.m = 0 ∧ v.e = 0)) ∧ (v.kind = 4 ∨ v.text = []) ∧ (5 ≤ v.kind ∨ v.list = []) ∧ (v.kind = 6 ∨ v.keys = []) ∧ numRight v.m v.e = true ∧ (v.kind = 6 → v.keys.length = v.list.length)
mutual
def shp : V → Prop
  | .mk k m e t l ks => shapeO (.mk k m e t l ks) ∧ shps l
def shps : List V → Prop
  | [] => True
  | x :: l => shp x ∧ shps l
end
theorem shps_iff : ∀ {l : List V}, shps l ↔ ∀ x ∈ l, shp x
  | [] => by simp [shps]
  | x :: l => by simp [shps, shps_iff (l := l)]
theorem shp_iff {v : V} : shp v ↔ shapeO v ∧ ∀ x ∈ v.list, shp x := by obtain ⟨k, m, e, t, l, ks⟩ := v; rw [shp, shps_iff]
theorem may_shp (v : V) (h : mayV v = true) : shp v := by
  induction v using V.ind with
  | h v ih =>
    obtain ⟨a, b, c, d, e, n⟩ := may_bare h
    have h1 := may_one h
    simp only [oneB, Bool.and_eq_true, Bool.or_eq_true, decide_eq_true_eq] at h1
    rw [mayV_eq, Bool.and_eq_true, List.all_eq_true] at h
    exact shp_iff.2 ⟨⟨a, b, c, d, e, n, fun k => h1.2.resolve_left (fun q => q k)⟩, fun x hx => ih x hx (h.2 x hx)⟩
theorem keyV_head (v : V) (h : shapeO v) : ∃ l, keyV v = UInt8.ofNat ((v.kind + 1) % 256).toNat :: l ∧ UInt8.ofNat ((v.kind + 1) % 256).toNat ≠ 0 := by
  refine ⟨_, keyV_eq v, fun q => ?_⟩
  have q := congrArg UInt8.toNat q
  have := h.1
  simp at q; omega
theorem keyKs_cons (s : List UInt8) (ks : List (List UInt8)) : keyKs (s :: ks) = 5 :: (keyT s ++ keyKs ks) := by simp [keyKs]
theorem keyKs_split : ∀ {ks ls : List (List UInt8)} {rest r : List UInt8}, keyKs ls ++ 0 :: r = keyKs ks ++ rest → ∃ ls', ls = ks ++ ls' ∧ rest = keyKs ls' ++ 0 :: r
  | [], ls, rest, r, h => ⟨ls, rfl, by simpa [keyKs] using h.symm⟩
  | s :: ks, [], rest, r, h => by rw [keyKs_cons] at h; simp [keyKs] at h
  | s :: ks, t :: ls, rest, r, h => by
    rw [keyKs_cons, keyKs_cons] at h
    simp only [List.cons_append, List.cons.injEq, true_and, List.append_assoc] at h
    obtain ⟨rfl, h9⟩ := keyT_inj h
    obtain ⟨ls', rfl, h2⟩ := keyKs_split h9
    exact ⟨ls', rfl, h2⟩
theorem keyKs_inj {ks ls : List (List UInt8)} {r r' : List UInt8} (h : keyKs ls ++ 0 :: r = keyKs ks ++ 0 :: r') : ls = ks ∧ r = r' := by
  obtain ⟨ls', rfl, h2⟩ := keyKs_split h
  cases ls' with
  | nil => simp [keyKs] at h2; exact ⟨by simp, h2.symm⟩
  | cons s l => rw [keyKs_cons] at h2; simp at h2
theorem keyVs_cons (x : V) (l : List V) : keyVs (x :: l) = keyV x ++ keyVs l := rfl
section
variable {l : List V} (ih : ∀ x ∈ l, ∀ y r r', shp y → keyV y ++ r = keyV x ++ r' → y = x ∧ r = r')
include ih
theorem keyVs_split0 : ∀ {a m : List V} {rest r : List UInt8}, (∀ x ∈ a, x ∈ l) → (∀ x ∈ a, shp x) → (∀ x ∈ m, shp x) → keyVs m ++ 0 :: r = keyVs a ++ rest → ∃ m', m = a ++ m' ∧ rest = keyVs m' ++ 0 :: r
  | [], m, rest, r, _, _, _, h => ⟨m, rfl, by simpa [keyVs] using h.symm⟩
  | x :: a, [], rest, r, _, hs, _, h => by
    obtain ⟨k, hk, h0⟩ := keyV_head x (shp_iff.1 (hs x (by simp))).1
    rw [keyVs_cons, hk] at h
    simp [keyVs] at h
    exact absurd h.1.symm h0
  | x :: a, y :: m, rest, r, hl, hs, hm, h => by
    rw [keyVs_cons, keyVs_cons, List.append_assoc, List.append_assoc] at h
    obtain ⟨rfl, h9⟩ := ih x (hl x (by simp)) y _ _ (hm y (by simp)) h
    obtain ⟨m', rfl, h2⟩ := keyVs_split0 (fun z hz => hl z (List.mem_cons_of_mem _ hz)) (fun z hz => hs z (List.mem_cons_of_mem _ hz)) (fun z hz => hm z (List.mem_cons_of_mem _ hz)) h9
    exact ⟨m', rfl, h2⟩
theorem keyVs_splitN : ∀ {a m : List V} {rest r : List UInt8}, (∀ x ∈ a, x ∈ l) → (∀ x ∈ m, shp x) → a.length ≤ m.length → keyVs m ++ r = keyVs a ++ rest → ∃ m', m = a ++ m' ∧ rest = keyVs m' ++ r
  | [], m, rest, r, _, _, _, h => ⟨m, rfl, by simpa [keyVs] using h.symm⟩
  | x :: a, [], rest, r, _, _, hn, h => by simp at hn
  | x :: a, y :: m, rest, r, hl, hm, hn, h => by
    rw [keyVs_cons, keyVs_cons, List.append_assoc, List.append_assoc] at h
    obtain ⟨rfl, h9⟩ := ih x (hl x (by simp)) y _ _ (hm y (by simp)) h
    obtain ⟨m', rfl, h2⟩ := keyVs_splitN (fun z hz => hl z (List.mem_cons_of_mem _ hz)) (fun z hz => hm z (List.mem_cons_of_mem _ hz)) (by simpa using hn) h9
    exact ⟨m', rfl, h2⟩
end
theorem keyV_inj (v : V) : shp v → ∀ (w : V) (r r' : List UInt8), shp w → keyV w ++ r = keyV v ++ r' → w = v ∧ r = r' := by
  induction v using V.ind with
  | h v ih =>
    intro hv w r r' hw h
    obtain ⟨⟨a1, a2, a3, a4, a5, a6, a7⟩, hvl⟩ := shp_iff.1 hv
    obtain ⟨⟨b1, b2, b3, b4, b5, b6, b7⟩, hwl⟩ := shp_iff.1 hw
    have ih' : ∀ x ∈ v.list, ∀ y r r', shp y → keyV y ++ r = keyV x ++ r' → y = x ∧ r = r' := fun x hx y r r' hy h => ih x hx (hvl x hx) y r r' hy h
    rw [keyV_eq, keyV_eq, List.cons_append, List.cons_append, List.cons.injEq] at h
    obtain ⟨hk, h⟩ := h
    have hk : w.kind = v.kind := by
      have := ofByte (a := w.kind + 1) (b := v.kind + 1) (by omega) (by omega) hk
      omega
    rw [hk] at h b2 b3 b4 b5 b7
    by_cases k3 : v.kind = 3
    · rw [if_pos k3, if_pos k3] at h
      obtain ⟨c1, c2, c3⟩ := keyN_inj b6 a6 h
      exact ⟨V.ext hk c1 c2 (by rw [b3.resolve_left (by omega), a3.resolve_left (by omega)]) (by rw [b4.resolve_left (by omega), a4.resolve_left (by omega)]) (by rw [b5.resolve_left (by omega), a5.resolve_left (by omega)]), c3⟩
    obtain ⟨am, ae⟩ := a2.resolve_left k3
    obtain ⟨bm, be⟩ := b2.resolve_left k3
    rw [if_neg k3, if_neg k3] at h
    by_cases k4 : v.kind = 4
    · rw [if_pos k4, if_pos k4] at h
      obtain ⟨c1, c2⟩ := keyT_inj h
      exact ⟨V.ext hk (by omega) (by omega) c1 (by rw [b4.resolve_left (by omega), a4.resolve_left (by omega)]) (by rw [b5.resolve_left (by omega), a5.resolve_left (by omega)]), c2⟩
    rw [if_neg k4, if_neg k4] at h
    have et : w.text = v.text := by rw [b3.resolve_left k4, a3.resolve_left k4]
    by_cases k6 : v.kind = 6
    · rw [if_pos k6, if_pos k6] at h
      simp only [List.append_assoc, List.cons_append] at h
      obtain ⟨c1, c2⟩ := keyKs_inj h
      have n1 := a7 k6
      have n2 := b7 k6
      obtain ⟨m', hm, c3⟩ := keyVs_splitN ih' (a := v.list) (m := w.list) (fun _ h => h) hwl (by rw [c1] at n2; omega) c2
      have : m' = [] := by
        have := congrArg List.length hm
        rw [List.length_append] at this
        rw [c1] at n2
        exact List.eq_nil_of_length_eq_zero (by omega)
      subst this
      exact ⟨V.ext hk (by omega) (by omega) et (by simpa using hm) c1, by simpa [keyVs] using c3.symm⟩
    have ek : w.keys = v.keys := by rw [b5.resolve_left k6, a5.resolve_left k6]
    rw [if_neg k6, if_neg k6] at h
    by_cases k5 : v.kind = 5
    · rw [if_pos k5, if_pos k5] at h
      simp only [List.append_assoc, List.cons_append, List.nil_append] at h
      obtain ⟨m', hm, c3⟩ := keyVs_split0 ih' (a := v.list) (m := w.list) (fun _ h => h) hvl hwl h
      cases m' with
      | nil => exact ⟨V.ext hk (by omega) (by omega) et (by simpa using hm) ek, by simpa [keyVs] using c3.symm⟩
      | cons x l =>
        obtain ⟨k, hk', h0⟩ := keyV_head x (shp_iff.1 (hwl x (by rw [hm]; simp))).1
        rw [keyVs_cons, hk'] at c3
        simp at c3
        exact absurd c3.1.symm h0
    · rw [if_neg k5, if_neg k5] at h
      exact ⟨V.ext hk (by omega) (by omega) et (by rw [b4.resolve_left (by omega), a4.resolve_left (by omega)]) ek, by simpa using h⟩
end Go.Gk.Val
end

section
namespace Go.Gk.Val
open Go Go.Gk Go.Gk.Num
attribute [local irreducible] gwp gws

def KBytesOk (T : PHeap → Prop) (P : Program) (f : FuncId) : Prop := ∀ {x : V} {d : PHeap} {cs : List Value}, T d → RVal d cs x → (mayV x = true → (keyV x).length ≤ 140737488355328) →
  GCall P f [.agg cs.toArray] d [] (Ret fun r d' L' => d' = d ∧ ((rightV x = 0 ∧ ∃ v h, r = .tuple #[v, .int .i64 0] ∧ L' = [h] ∧ GRow 1 RByte emp v (keyV x) h) ∨ (rightV x ≠ 0 ∧ r = .tuple #[.slice none 0 0, .int .i64 (rightV x)] ∧ L' = [])))
def g_key_Bytes (f_value_Right f_key_put : Nat) : GFun :=
 ⟨12, [(.tmp 2), (.tmp 3)],
 (.seq
 (.reg false (.op false ⟨(some 1), none, (.box (.tmp 0))⟩
  (.op false ⟨(some 2), none, (.mv (.const (.slice none 0 0)))⟩
  (.op false ⟨(some 3), none, (.mv (.const (.int .i64 0)))⟩ .done))))
 (.seq (.seq
 (.reg false (.op false ⟨(some 5), none, (.ld (some 6) (.tmp 1))⟩
  (.op false ⟨(some 6), none, (.call f_value_Right [(.tmp 5)])⟩
  (.op false ⟨(some 4), none, (.mv (.tmp 6))⟩ .done))))
 (.seq
 (.reg false (.op false ⟨(some 7), none, (.mv (.tmp 4))⟩
  (.op false ⟨(some 8), none, (.bin .neq (.tmp 7) (.const (.int .i64 0)))⟩ .done))) (.cond (.tmp 8)
 (.seq
 (.reg false (.op false ⟨(some 9), none, (.mv (.tmp 4))⟩
  (.op false ⟨(some 2), none, (.mv (.const (.slice none 0 0)))⟩
  (.op false ⟨(some 3), none, (.mv (.tmp 9))⟩ .done)))) .ret) .skip)))
 (.seq
 (.reg false (.op false ⟨(some 10), none, (.ld (some 6) (.tmp 1))⟩
  (.op false ⟨(some 11), none, (.call f_key_put [(.const (.slice none 0 0)), (.tmp 10)])⟩
  (.op false ⟨(some 2), none, (.mv (.tmp 11))⟩
  (.op false ⟨(some 3), none, (.mv (.const (.int .i64 0)))⟩ .done))))) .ret)))⟩

theorem kbytes_ok {T : PHeap → Prop} {P : Program} {f f1 f2 : FuncId} (hd : dec P f = some (g_key_Bytes f1 f2)) (h1 : RightOk T P f1) (h2 : KPutOk T P f2) : KBytesOk T P f := by
  intro x d cs ht hv hb
  refine GCall_of hd (Nat.le_of_ble_eq_true rfl) ?_
  show gwp P _ _ _ _ _
  apply w_sq; apply w_reg
  refine w_boxa (l := cs) rfl (fun b1 T1 => ?_)
  (apply w_mvs; rfl; apply w_mvi; rfl; apply w_done0; apply w_sq; apply w_sq; apply w_reg)
  refine w_ldb 0 rfl rfl hv.len ?_
  refine w_pure rfl (h1 ht hv) ?_
  by_cases hr : rightV x ≠ 0
  · (apply w_mvi; rfl; apply w_done0; apply w_sq; apply w_reg; apply w_mvi; rfl; apply w_neq; rfl; rfl; apply w_done0; refine w_ifdT rfl (by omega) ?_; apply w_sq; apply w_reg; apply w_mvi; rfl; apply w_mvs; rfl; apply w_mvi; rfl; apply w_done0; apply w_ret)
    exact fin2n rfl rfl ⟨rfl, .inr ⟨hr, rfl, rfl⟩⟩
  · have hr : rightV x = 0 := by omega
    rw [hr]
    (apply w_mvi; rfl; apply w_done0; apply w_sq; apply w_reg; apply w_mvi; rfl; apply w_neq; rfl; rfl; apply w_done0; refine w_ifdF rfl (by omega) ?_; apply w_skip; apply w_sq; apply w_reg)
    refine w_ldb 0 rfl rfl hv.len ?_
    refine w_vs d [emp, bx b1 T1 cs] Vs.emp ?_
    refine w_callA (A := [emp]) (B := [bx b1 T1 cs]) rfl rfl (h2 x (xs := []) (h := emp) ht hv (right_iff.1 hr).1 GRow.nil (by simpa using hb (right_iff.1 hr).1)) (fun r d6 L6 _ ⟨hdd, h6, hL, o6⟩ => ?_)
    subst hdd; subst hL
    (apply w_mv; apply w_mvi; rfl; apply w_done0; apply w_ret)
    exact fin2 (v := r) (L' := [h6]) rfl rfl (by simp) ⟨rfl, .inl ⟨rfl, r, h6, rfl, rfl, o6⟩⟩

def Gives (e : Ending) : Prop := ∃ t x, e = .panicked [{ v := .iface t x, recovered := false }]
def rdr (q : Nat) (Tq : TypeId) (vb : Value) (n : Nat) : PHeap := bx q Tq [vb, .int .i64 n]
def KNextOk (P : Program) (f : FuncId) : Prop := ∀ {d : PHeap} {q : Nat} {Tq : TypeId} {vb : Value} {b : List UInt8} {n : Nat}, RSl 1 RByte d vb b → n ≤ b.length →
  GCall P f [.pointer (some ⟨q, 0, none⟩)] d [rdr q Tq vb n] (fun e d' L' => (∃ h : n < b.length, e = .returned (byteV b[n]) ∧ d' = d ∧ L' = [rdr q Tq vb (n + 1)]) ∨ (n = b.length ∧ Gives e))
def g_key_reader_next (T_api_Errno : Nat) : GFun :=
 ⟨32, [(.tmp 2)],
 (.seq
 (.reg false (.op false ⟨(some 2), none, (.mv (.const (.int .u8 0)))⟩ .done))
 (.seq (.seq
 (.reg true (.op true ⟨(some 3), none, (.mv (.tmp 0))⟩
  (.op true ⟨(some 4), none, (.nilc (.tmp 3))⟩
  (.op true ⟨(some 5), none, (.fld 1 (.tmp 4))⟩
  (.op true ⟨(some 6), none, (.ld none (.tmp 5))⟩
  (.op true ⟨(some 7), none, (.mv (.tmp 0))⟩
  (.op true ⟨(some 8), none, (.nilc (.tmp 7))⟩
  (.op true ⟨(some 9), none, (.fld 0 (.tmp 8))⟩
  (.op true ⟨(some 10), none, (.ld none (.tmp 9))⟩
  (.op true ⟨(some 11), none, (.len (.tmp 10))⟩
  (.op true ⟨(some 12), none, (.bin .geq (.tmp 6) (.tmp 11))⟩ .done))))))))))) (.cond (.tmp 12)
 (.reg false (.op false ⟨(some 13), none, (.mki T_api_Errno (.const (.int .i64 50)))⟩
  (.op false ⟨none, none, (.pan (.tmp 13))⟩ .done))) .skip))
 (.seq
 (.reg false (.op false ⟨(some 14), none, (.mv (.tmp 0))⟩
  (.op false ⟨(some 15), none, (.nilc (.tmp 14))⟩
  (.op false ⟨(some 16), none, (.fld 1 (.tmp 15))⟩
  (.op false ⟨(some 17), none, (.ld none (.tmp 16))⟩
  (.op false ⟨(some 18), none, (.bin .add (.tmp 17) (.const (.int .i64 1)))⟩
  (.op false ⟨(some 19), none, (.nilc (.tmp 14))⟩
  (.op false ⟨(some 20), none, (.fld 1 (.tmp 19))⟩
  (.op false ⟨none, none, (.st 1 (.tmp 20) (.tmp 18))⟩ .done)))))))))
 (.seq
 (.reg true (.op true ⟨(some 21), none, (.mv (.tmp 0))⟩
  (.op true ⟨(some 22), none, (.nilc (.tmp 21))⟩
  (.op true ⟨(some 23), none, (.fld 0 (.tmp 22))⟩
  (.op true ⟨(some 24), none, (.ld none (.tmp 23))⟩
  (.op true ⟨(some 25), none, (.mv (.tmp 0))⟩
  (.op true ⟨(some 26), none, (.nilc (.tmp 25))⟩
  (.op true ⟨(some 27), none, (.fld 1 (.tmp 26))⟩
  (.op true ⟨(some 28), none, (.ld none (.tmp 27))⟩
  (.op true ⟨(some 29), none, (.bin .sub (.tmp 28) (.const (.int .i64 1)))⟩
  (.op true ⟨(some 30), none, (.idx 1 (.tmp 24) (.tmp 29))⟩
  (.op true ⟨(some 31), none, (.ld none (.tmp 30))⟩
  (.bar (.op true ⟨(some 2), none, (.mv (.tmp 31))⟩ .done)))))))))))))) .ret))))⟩

theorem knext_ok {P : Program} {f : FuncId} {t1 : TypeId} (hd : dec P f = some (g_key_reader_next t1)) : KNextOk P f := by
  intro d q Tq vb b n hb hn
  refine GCall_of hd (Nat.le_of_ble_eq_true rfl) ?_
  obtain ⟨ba, bc, rfl⟩ := RSl.val hb
  have nb := RSl.len_le hb
  unfold rdr
  show gwp P _ _ _ _ _
  by_cases hc : n < b.length
  · have hb' : RSl 1 RByte d (.slice ba b.length bc) b := hb
    (apply w_sq; apply w_reg; apply w_mvi; rfl; apply w_done0; apply w_sq; apply w_sq; apply w_drawn; apply w_mvp; rfl; apply w_nilc; rfl; apply w_fld; rfl; apply w_ld; rfl; exact hc_i 0 rfl rfl; apply w_mvp; rfl; apply w_nilc; rfl; apply w_fld; rfl; apply w_ld; rfl; exact hc_i 0 rfl rfl; apply w_len; rfl; apply w_geq; rfl; rfl; apply w_done; refine w_ifdF rfl (by omega) ?_; apply w_skip; apply w_sq; apply w_reg; apply w_mvp; rfl; apply w_nilc; rfl; apply w_fld; rfl; apply w_ld; rfl; exact hc_i 0 rfl rfl; apply w_add; rfl; rfl; omega; omega; apply w_nilc; rfl; apply w_fld; rfl)
    refine w_stE 0 [.slice ba b.length bc, .int .i64 ((n + 1 : Nat) : Int)] rfl rfl rfl rfl (Nat.le_of_ble_eq_true rfl) rfl (by simp [patch]; rfl) ?_
    (apply w_done0; apply w_sq; apply w_drawn; apply w_mvp; rfl; apply w_nilc; rfl; apply w_fld; rfl; apply w_ld; rfl; exact hc_i 0 rfl rfl; apply w_mvp; rfl; apply w_nilc; rfl; apply w_fld; rfl; apply w_ld; rfl; exact hc_i 0 rfl rfl; apply w_sub; rfl; rfl; omega; omega)
    refine w_idxR (sz := 1) (R := RByte) (m := n) rfl hb' rfl (by omega) hc ?_
    rintro _ _ _ _ _ rfl
    (apply w_ld; rfl; exact hc_ds0 (by assumption) rfl; apply w_bar; apply w_mvi; rfl; apply w_done0; apply w_ret)
    simp only [mkPost, g_key_reader_next]
    exact fin1 (v := byteV b[n]) (L' := [bx q Tq [.slice ba b.length bc, .int .i64 ((n + 1 : Nat) : Int)]]) rfl (List.Sublist.refl _) (Or.inl ⟨hc, rfl, rfl, rfl⟩)
  · (apply w_sq; apply w_reg; apply w_mvi; rfl; apply w_done0; apply w_sq; apply w_sq; apply w_drawn; apply w_mvp; rfl; apply w_nilc; rfl; apply w_fld; rfl; apply w_ld; rfl; exact hc_i 0 rfl rfl; apply w_mvp; rfl; apply w_nilc; rfl; apply w_fld; rfl; apply w_ld; rfl; exact hc_i 0 rfl rfl; apply w_len; rfl; apply w_geq; rfl; rfl; apply w_done; refine w_ifdT rfl (by omega) ?_; apply w_reg; apply w_mki)
    exact w_pan rfl ⟨d, _, Vs.refl _ _, Or.inr ⟨by omega, _, _, rfl⟩⟩
def KEndsOk (P : Program) (f : FuncId) : Prop := ∀ {d : PHeap} {q : Nat} {Tq : TypeId} {vb : Value} {b : List UInt8} {n : Nat}, RSl 1 RByte d vb b → n ≤ b.length →
  GCall P f [.pointer (some ⟨q, 0, none⟩)] d [rdr q Tq vb n] (fun e d' L' => (∃ h : n < b.length, d' = d ∧ ((b[n] = 0 ∧ e = .returned (.bool true) ∧ L' = [rdr q Tq vb (n + 1)]) ∨ (b[n] ≠ 0 ∧ e = .returned (.bool false) ∧ L' = [rdr q Tq vb n]))) ∨ (n = b.length ∧ Gives e))
theorem Gives.out {e : Ending} (h : Gives e) : e ≠ .outgrown := fun q => by obtain ⟨t, x, h⟩ := h; rw [q] at h; cases h
theorem Gives.ret {v : Value} (h : Gives (.returned v)) : False := by obtain ⟨t, x, h⟩ := h; cases h
theorem KNext_out {b : List UInt8} {n : Nat} {A : n < b.length → Prop} (h : (∃ h : n < b.length, Ending.outgrown = .returned (byteV b[n]) ∧ A h) ∨ (n = b.length ∧ Gives .outgrown)) : False := by
  rcases h with ⟨_, h, _⟩ | ⟨_, h⟩
  · cases h
  · exact h.out rfl
def g_key_reader_ends (f_key_reader_next : Nat) : GFun :=
 ⟨13, [(.tmp 2)],
 (.seq
 (.reg false (.op false ⟨(some 2), none, (.mv (.const (.bool false)))⟩ .done))
 (.seq (.seq
 (.reg false (.op false ⟨(some 3), none, (.mv (.tmp 0))⟩
  (.op false ⟨(some 4), none, (.call f_key_reader_next [(.tmp 3)])⟩
  (.op false ⟨(some 5), none, (.bin .eql (.tmp 4) (.const (.int .u8 0)))⟩ .done)))) (.cond (.tmp 5)
 (.seq
 (.reg false (.op false ⟨(some 2), none, (.mv (.const (.bool true)))⟩ .done)) .ret) .skip))
 (.seq
 (.reg false (.op false ⟨(some 6), none, (.mv (.tmp 0))⟩
  (.op false ⟨(some 7), none, (.nilc (.tmp 6))⟩
  (.op false ⟨(some 8), none, (.fld 1 (.tmp 7))⟩
  (.op false ⟨(some 9), none, (.ld none (.tmp 8))⟩
  (.op false ⟨(some 10), none, (.bin .sub (.tmp 9) (.const (.int .i64 1)))⟩
  (.op false ⟨(some 11), none, (.nilc (.tmp 6))⟩
  (.op false ⟨(some 12), none, (.fld 1 (.tmp 11))⟩
  (.op false ⟨none, none, (.st 1 (.tmp 12) (.tmp 10))⟩ .done)))))))))
 (.seq
 (.reg false (.op false ⟨(some 2), none, (.mv (.const (.bool false)))⟩ .done)) .ret))))⟩

theorem kends_ok {P : Program} {f f1 : FuncId} (hd : dec P f = some (g_key_reader_ends f1)) (h1 : KNextOk P f1) : KEndsOk P f := by
  intro d q Tq vb b n hb hn
  refine GCall_of hd (Nat.le_of_ble_eq_true rfl) ?_
  have nb := RSl.len_le hb
  show gwp P _ _ _ _ _
  (apply w_sq; apply w_reg; apply w_mvb; rfl; apply w_done0; apply w_sq; apply w_sq; apply w_reg; apply w_mvp; rfl)
  refine w_callE (A := [rdr q Tq vb n]) (B := []) rfl rfl (h1 hb hn) (fun d' L' h => KNext_out h) (fun r d' L' _ h => ?_) (fun c d' L' _ h => ?_)
  · obtain ⟨hc, hr, hdd, hL⟩ := h.resolve_right (fun h => h.2.ret)
    cases hr; subst hdd; subst hL
    by_cases h0 : b[n] = 0
    · have h0' : ((b[n].toNat : Nat) : Int) = 0 := by rw [h0]; rfl
      (apply w_eql; rfl; rfl; apply w_done0; refine w_ifdT rfl (by omega) ?_; apply w_sq; apply w_reg; apply w_mvb; rfl; apply w_done0; apply w_ret)
      simp only [mkPost, g_key_reader_ends]
      exact fin1 (v := .bool true) (L' := [rdr q Tq vb (n + 1)]) rfl (List.Sublist.refl _) (Or.inl ⟨hc, rfl, .inl ⟨h0, rfl, rfl⟩⟩)
    · have h0' : ((b[n].toNat : Nat) : Int) ≠ 0 := fun e => h0 (UInt8.toNat_inj.1 (by simpa using e))
      unfold rdr
      (apply w_eql; rfl; rfl; apply w_done0; refine w_ifdF rfl (by omega) ?_; apply w_skip; apply w_sq; apply w_reg; apply w_mvp; rfl; apply w_nilc; rfl; apply w_fld; rfl; apply w_ld; rfl; exact hc_i 0 rfl rfl; apply w_sub; rfl; rfl; omega; omega; apply w_nilc; rfl; apply w_fld; rfl)
      refine w_stE 0 [vb, .int .i64 (n : Nat)] rfl rfl rfl rfl (Nat.le_of_ble_eq_true rfl) rfl (by simp [patch]; rfl) ?_
      (apply w_done0; apply w_sq; apply w_reg; apply w_mvb; rfl; apply w_done0; apply w_ret)
      simp only [mkPost, g_key_reader_ends]
      exact fin1 (v := .bool false) (L' := [rdr q Tq vb n]) rfl (List.Sublist.refl _) (Or.inl ⟨hc, rfl, .inr ⟨h0, rfl, rfl⟩⟩)
  · rcases h with ⟨_, h, _⟩ | h
    · cases h
    · exact ⟨d', _, Vs.refl _ _, Or.inr h⟩

def KRTextOk (P : Program) (f : FuncId) : Prop := ∀ {d : PHeap} {q : Nat} {Tq : TypeId} {vb : Value} {b : List UInt8} {n : Nat}, RSl 1 RByte d vb b → n ≤ b.length →
  GCall P f [.pointer (some ⟨q, 0, none⟩)] d [rdr q Tq vb n] (fun e d' L' => (∃ s k, e = .returned (strV s) ∧ d' = d ∧ L' = [rdr q Tq vb k] ∧ k ≤ b.length ∧ n ≤ k ∧ b.drop n = keyT s ++ b.drop k) ∨ (Gives e ∧ ∀ t r, b.drop n ≠ keyT t ++ r))
def g_key_reader_text (f_key_reader_next T_api_Errno : Nat) : GFun :=
 ⟨22, [(.tmp 2)],
 (.seq
 (.reg false (.op false ⟨(some 2), none, (.mv (.const (strV [])))⟩ .done))
 (.seq
 (.reg false (.op false ⟨(some 3), none, (.mv (.const (.slice none 0 0)))⟩ .done)) (.block 0 (.loop (.block 1
 (.seq
 (.reg false (.op false ⟨(some 5), none, (.mv (.tmp 0))⟩
  (.op false ⟨(some 6), none, (.call f_key_reader_next [(.tmp 5)])⟩
  (.op false ⟨(some 4), none, (.mv (.tmp 6))⟩ .done))))
 (.seq (.seq
 (.reg false (.op false ⟨(some 7), none, (.mv (.tmp 4))⟩
  (.op false ⟨(some 8), none, (.bin .eql (.tmp 7) (.const (.int .u8 0)))⟩ .done))) (.cond (.tmp 8)
 (.seq
 (.reg false (.op false ⟨(some 9), none, (.mv (.tmp 0))⟩
  (.op false ⟨(some 10), none, (.call f_key_reader_next [(.tmp 9)])⟩ .done))) (.block 2
 (.seq
 (.reg false (.op false ⟨(some 13), none, (.bin .eql (.tmp 10) (.const (.int .u8 1)))⟩
  (.op false ⟨(some 12), none, (.mv (.tmp 13))⟩ .done))) (.cond (.tmp 12)
 (.seq
 (.reg false (.op false ⟨(some 14), none, (.mv (.tmp 3))⟩
  (.op false ⟨(some 15), none, (.b2s (.tmp 14))⟩
  (.op false ⟨(some 2), none, (.mv (.tmp 15))⟩ .done)))) .ret)
 (.seq
 (.reg false (.op false ⟨(some 17), none, (.bin .eql (.tmp 10) (.const (.int .u8 255)))⟩
  (.op false ⟨(some 16), none, (.mv (.tmp 17))⟩ .done))) (.cond (.tmp 16) .skip
 (.reg false (.op false ⟨(some 11), none, (.mki T_api_Errno (.const (.int .i64 50)))⟩
  (.op false ⟨none, none, (.pan (.tmp 11))⟩ .done))))))))) .skip))
 (.reg false (.op false ⟨(some 18), none, (.mv (.tmp 3))⟩
  (.op false ⟨(some 19), none, (.mv (.tmp 4))⟩
  (.op false ⟨(some 20), none, (.bsl 1 1 [(.int .u8 0)] [(0, (.tmp 19))])⟩
  (.op false ⟨(some 21), none, (.app 1 1 [(.int .u8 0)] (.tmp 18) (.tmp 20))⟩
  (.op false ⟨(some 3), none, (.mv (.tmp 21))⟩ .done)))))))))))))⟩

theorem krtext_ok {P : Program} {f f1 : FuncId} {t1 : TypeId} (hd : dec P f = some (g_key_reader_text f1 t1)) (h1 : KNextOk P f1) : KRTextOk P f := by
  intro d q Tq vb b n hb hn
  refine GCall_of hd (Nat.le_of_ble_eq_true rfl) ?_
  have nb := RSl.len_le hb
  show gwp P _ _ _ _ _
  apply w_sq; apply w_reg
  refine w_vs d [rdr q Tq vb n, emp] (Vs.emp.trans (Vs.pick (L := [emp, rdr q Tq vb n]) [1, 0] rfl)) ?_
  (apply w_mvt; rfl; apply w_done0; apply w_sq; apply w_reg; apply w_mvs; rfl; apply w_done0; apply w_block)
  refine w_loopV (α := List UInt8 × Nat) (fun _ v => [(0, .pointer (some ⟨q, 0, none⟩)), (3, v)]) (fun x v h d' L' => d' = d ∧ x.2 ≤ b.length ∧ n ≤ x.2 ∧ x.1.length ≤ x.2 ∧ b.drop n = esc x.1 ++ b.drop x.2 ∧ GRow 1 RByte d v x.1 h ∧ L' = [rdr q Tq vb x.2, h]) (fun x => b.length - x.2) ([], n) (.slice none 0 0) emp
    ⟨rfl, rfl, trivial⟩ ⟨rfl, hn, Nat.le_refl _, Nat.zero_le _, rfl, GRow.nil, rfl⟩ ?_
  rintro ⟨out, k⟩ v g ρ d' L' ⟨hdd, hk, hnk, hol, hbd, ho, hL⟩
  subst hdd; subst hL
  simp only at hk hnk hol hbd ho ⊢
  (apply w_block; apply w_sq; apply w_reg; apply w_mvp; rfl)
  refine w_callE (A := [rdr q Tq vb k]) (B := [g]) rfl rfl (h1 hb hk) (fun d' L' h => KNext_out h) (fun r d' L' _ h => ?_) (fun c d' L' _ h => ?_)
  rotate_left
  · rcases h with ⟨_, h, _⟩ | ⟨hkl, h⟩
    · cases h
    · exact ⟨d', _, Vs.refl _ _, Or.inr ⟨h, fun t r e => noT (e.symm.trans hbd) (.inl (by rw [hkl]; simp))⟩⟩
  obtain ⟨hc, hr, hdd, hL⟩ := h.resolve_right (fun h => h.2.ret)
  cases hr; subst hdd; subst hL
  have hdk := List.drop_eq_getElem_cons hc
  by_cases h0 : b[k] = 0
  · have h0' : ((b[k].toNat : Nat) : Int) = 0 := by rw [h0]; rfl
    have hk1 : k + 1 ≤ b.length := hc
    (apply w_mvi; rfl; apply w_done0; apply w_sq; apply w_sq; apply w_reg; apply w_mvi; rfl; apply w_eql; rfl; rfl; apply w_done0; refine w_ifdT rfl (by omega) ?_; apply w_sq; apply w_reg; apply w_mvp; rfl)
    refine w_callE (A := [rdr q Tq vb (k + 1)]) (B := [g]) rfl rfl (h1 hb hk1) (fun d' L' h => KNext_out h) (fun r d' L' _ h => ?_) (fun c d' L' _ h => ?_)
    rotate_left
    · rcases h with ⟨_, h, _⟩ | ⟨hkl, h⟩
      · cases h
      · exact ⟨d', _, Vs.refl _ _, Or.inr ⟨h, fun t r e => noT (e.symm.trans hbd) (.inr (.inl (by rw [hdk, h0, hkl]; simp)))⟩⟩
    obtain ⟨hc1, hr, hdd, hL⟩ := h.resolve_right (fun h => h.2.ret)
    cases hr; subst hdd; subst hL
    have hdk1 := List.drop_eq_getElem_cons hc1
    by_cases c1 : b[k + 1] = 1
    · have c1' : ((b[k + 1].toNat : Nat) : Int) = 1 := by rw [c1]; rfl
      (apply w_done0; apply w_block; apply w_sq; apply w_reg; apply w_eql; rfl; rfl; apply w_mvb; rfl; apply w_done0; refine w_ifdT rfl (by omega) ?_; apply w_sq; apply w_reg; apply w_mv; refine w_b2sG (by rfl) (by assumption) (by simp [lk]) ?_; apply w_mvt; rfl; apply w_done0; apply w_ret)
      simp only [mkPost, g_key_reader_text]
      refine fin1 (v := strV out) (L' := [rdr q Tq vb (k + 1 + 1)]) rfl (by simp) (Or.inl ⟨out, k + 1 + 1, rfl, rfl, rfl, hc1, by omega, ?_⟩)
      rw [hbd, hdk, hdk1, h0, c1]; simp [keyT]
    have c1' : ((b[k + 1].toNat : Nat) : Int) ≠ 1 := fun e => c1 (UInt8.toNat_inj.1 (show b[k + 1].toNat = 1 by omega))
    by_cases c2 : b[k + 1] = 255
    · have c2' : ((b[k + 1].toNat : Nat) : Int) = 255 := by rw [c2]; rfl
      (apply w_done0; apply w_block; apply w_sq; apply w_reg; apply w_eql; rfl; rfl; apply w_mvb; rfl; apply w_done0; refine w_ifdF rfl (by omega) ?_; apply w_sq; apply w_reg; apply w_eql; rfl; rfl; apply w_mvb; rfl; apply w_done0; refine w_ifdT rfl (by omega) ?_; apply w_skip; apply w_reg; apply w_mv; apply w_mvi; rfl)
      refine w_vs d' [g, rdr q Tq vb (k + 1 + 1)] (Vs.pick (L := [rdr q Tq vb (k + 1 + 1), g]) [1, 0] rfl) ?_
      refine w_push (b := b[k]) rfl ho (fun _ => rfl) (by omega) (fun u2 v2 h2 o2 => ?_)
      refine w_vs d' [rdr q Tq vb (k + 1 + 1), h2] (Vs.pick (L := [h2, rdr q Tq vb (k + 1 + 1)]) [1, 0] rfl) ?_
      (apply w_mv; apply w_done0)
      refine ⟨(out ++ [b[k]], k + 1 + 1), v2, h2, by simp only; omega, ⟨rfl, rfl, trivial⟩, rfl, hc1, by simp only; omega, by simp; omega, ?_, o2, rfl⟩
      simp only
      rw [hbd, hdk, hdk1, c2, esc_snoc, if_pos h0, h0]; simp
    · have c2' : ((b[k + 1].toNat : Nat) : Int) ≠ 255 := fun e => c2 (UInt8.toNat_inj.1 (show b[k + 1].toNat = 255 by omega))
      (apply w_done0; apply w_block; apply w_sq; apply w_reg; apply w_eql; rfl; rfl; apply w_mvb; rfl; apply w_done0; refine w_ifdF rfl (by omega) ?_; apply w_sq; apply w_reg; apply w_eql; rfl; rfl; apply w_mvb; rfl; apply w_done0; refine w_ifdF rfl (by omega) ?_; apply w_reg; apply w_mki)
      exact w_pan rfl ⟨d', _, Vs.refl _ _, Or.inr ⟨⟨_, _, rfl⟩, fun t r e => noT (e.symm.trans hbd) (.inr (.inr ⟨b[k + 1], b.drop (k + 1 + 1), by rw [hdk, hdk1, h0], c1, c2⟩))⟩⟩
  · have h0' : ((b[k].toNat : Nat) : Int) ≠ 0 := fun e => h0 (UInt8.toNat_inj.1 (by simpa using e))
    (apply w_mvi; rfl; apply w_done0; apply w_sq; apply w_sq; apply w_reg; apply w_mvi; rfl; apply w_eql; rfl; rfl; apply w_done0; refine w_ifdF rfl (by omega) ?_; apply w_skip; apply w_reg; apply w_mv; apply w_mvi; rfl)
    refine w_vs d' [g, rdr q Tq vb (k + 1)] (Vs.pick (L := [rdr q Tq vb (k + 1), g]) [1, 0] rfl) ?_
    refine w_push (b := b[k]) rfl ho (fun _ => rfl) (by omega) (fun u2 v2 h2 o2 => ?_)
    refine w_vs d' [rdr q Tq vb (k + 1), h2] (Vs.pick (L := [h2, rdr q Tq vb (k + 1)]) [1, 0] rfl) ?_
    (apply w_mv; apply w_done0)
    refine ⟨(out ++ [b[k]], k + 1), v2, h2, by simp only; omega, ⟨rfl, rfl, trivial⟩, rfl, hc, by simp only; omega, by simp; omega, ?_, o2, rfl⟩
    simp only
    rw [hbd, hdk, esc_snoc, if_neg h0]; simp
end Go.Gk.Val
end

section
namespace Go.Gk.Val
open Go Go.Gk Go.Gk.Num

def tB (neg : Bool) : UInt8 := if neg then 255 else 0
def sB (neg : Bool) : UInt8 := if neg then 1 else 3
theorem digN_val : ∀ (n : Nat) (D : List Nat), D.length = n → (∀ d ∈ D, d < 10) → D.head? ≠ some 0 → digN (val D) = D
  | 0, D, hn, _, _ => by rw [List.eq_nil_of_length_eq_zero hn]; exact digN_zero
  | n + 1, D, hn, hd, h0 => by
    rcases List.eq_nil_or_concat D with rfl | ⟨E, d, rfl⟩
    · simp at hn
    · have hE : E.length = n := by simpa using hn
      have hd' : d < 10 := hd d (by simp)
      rw [List.concat_eq_append, val_snoc]
      by_cases hE0 : E = []
      · subst hE0
        have : d ≠ 0 := fun e => h0 (by simp [e])
        rw [val_nil, digN_pos (by omega), show (0 * 10 + d) / 10 = 0 by omega, digN_zero]
        simp; omega
      · have hh : E.head? ≠ some 0 := fun e => h0 (by cases E with | nil => exact absurd rfl hE0 | cons a E => simpa using e)
        have ih := digN_val n E hE (fun x hx => hd x (by simp [hx])) hh
        have hv : val E ≠ 0 := fun e => by rw [e, digN_zero] at ih; exact hE0 ih.symm
        rw [digN_pos (by omega), show (val E * 10 + d) / 10 = val E by omega, show (val E * 10 + d) % 10 = d by omega, ih]
theorem keyN_form {neg : Bool} {m e : Int} (h0 : m ≠ 0) (hs : m < 0 ↔ neg = true) (r : List UInt8) : keyN m e ++ r = sB neg :: tn (tB neg) (UInt8.ofNat ((100 + ((digN m.natAbs).length : Int) + e) % 256).toNat) :: ((digN m.natAbs).map (gD (tB neg)) ++ tn (tB neg) 0 :: r) := by
  rw [keyN, if_neg h0, List.cons_append, ← keyP_eq]
  cases neg
  · have : ¬ m < 0 := fun h => by simp [hs] at h
    simp [turnB, tB, sB, this]
  · have : m < 0 := by simp [hs]
    simp [turnB, tB, sB, this]
theorem keyN_split {neg : Bool} {m e : Int} {X : UInt8} {D : List Nat} {r rest : List UInt8} (hr : numRight m e = true) (hD : ∀ d ∈ D, d < 10) (h : keyN m e ++ r = sB neg :: X :: (D.map (gD (tB neg)) ++ rest)) :
    m ≠ 0 ∧ (m < 0 ↔ neg = true) ∧ X = tn (tB neg) (UInt8.ofNat ((100 + ((digN m.natAbs).length : Int) + e) % 256).toNat) ∧ ∃ F, digN m.natAbs = D ++ F ∧ rest = F.map (gD (tB neg)) ++ tn (tB neg) 0 :: r := by
  have h0 : m ≠ 0 := fun e0 => by
    rw [keyN, if_pos e0] at h
    cases neg <;> simp [sB] at h
  have hs : m < 0 ↔ neg = true := by
    rw [keyN, if_neg h0] at h
    simp only [List.cons_append, List.cons.injEq] at h
    by_cases hm : m < 0
    · cases neg <;> simp [hm, sB] at h ⊢
    · cases neg <;> simp [hm, sB] at h ⊢
  rw [keyN_form h0 hs, List.cons.injEq, List.cons.injEq] at h
  obtain ⟨_, hX, h⟩ := h
  obtain ⟨F, h1, h2⟩ := digs_split hD (digN_lt _) h
  exact ⟨h0, hs, hX.symm, F, h1, h2⟩
theorem keyN_ne {m e : Int} {r : List UInt8} : keyN m e ++ r ≠ [] := by
  rw [keyN]; split <;> simp
theorem keyN_head {m e : Int} {r rest : List UInt8} {s : UInt8} (h : keyN m e ++ r = s :: rest) : s = 1 ∨ s = 2 ∨ s = 3 := by
  rw [keyN] at h
  split at h
  · simp at h; exact .inr (.inl h.1.symm)
  · split at h <;> simp at h
    · exact .inl h.1.symm
    · exact .inr (.inr h.1.symm)
theorem keyN_two {neg : Bool} {m e : Int} {r : List UInt8} (h : keyN m e ++ r = [sB neg]) : False := by
  rw [keyN] at h
  split at h
  · cases neg <;> simp [sB] at h
  · simp [keyP] at h
theorem keyN_no {neg : Bool} {m e : Int} {X : UInt8} {D : List Nat} {r rest : List UInt8} (hr : numRight m e = true) (hD : ∀ d ∈ D, d < 10) (h : keyN m e ++ r = sB neg :: X :: (D.map (gD (tB neg)) ++ rest)) :
    rest ≠ [] ∧ ∀ c l, rest = c :: l → tB neg ^^^ c = 0 ∨ ((tB neg ^^^ c).toNat ≤ 10 ∧ D.length ≠ 18 ∧ (D = [] → (tB neg ^^^ c).toNat ≠ 1)) := by
  obtain ⟨h0, hs, hX, F, h1, h2⟩ := keyN_split hr hD h
  refine ⟨fun e0 => by rw [e0] at h2; simp at h2, fun c l hc => ?_⟩
  rw [hc] at h2
  cases F with
  | nil =>
    simp at h2
    left; rw [h2.1, tn_tn]
  | cons f F =>
    simp only [List.map_cons, List.cons_append, List.cons.injEq] at h2
    have hf : f < 10 := digN_lt m.natAbs f (by rw [h1]; simp)
    right
    have e : tB neg ^^^ c = UInt8.ofNat (f + 1) := by rw [h2.1, gD, tn_tn]
    have et : (tB neg ^^^ c).toNat = f + 1 := by rw [e]; simp; omega
    have hl := (numR_len hr h0).2.1
    rw [h1, List.length_append, List.length_cons] at hl
    refine ⟨by omega, by omega, fun hD0 => ?_⟩
    subst hD0
    obtain ⟨d, l', hd, hd0⟩ := digN_head (n := m.natAbs) (by omega)
    rw [h1] at hd
    simp at hd
    omega
theorem keyN_at {neg : Bool} {X : UInt8} {D : List Nat} (hD : ∀ d ∈ D, d < 10) (hh : D.head? ≠ some 0) {m e : Int} (hm : m = if neg then -(val D : Int) else (val D : Int)) (he : e = ((tB neg ^^^ X).toNat : Int) - 100 - D.length) (h0 : m ≠ 0) (r : List UInt8) :
    keyN m e ++ r = sB neg :: X :: (D.map (gD (tB neg)) ++ tn (tB neg) 0 :: r) := by
  have hs : m < 0 ↔ neg = true := by cases neg <;> simp at hm ⊢ <;> omega
  have hv : m.natAbs = val D := by cases neg <;> simp at hm <;> omega
  have hdv := digN_val _ D rfl hD hh
  rw [keyN_form h0 hs, hv, hdv]
  have hb : UInt8.ofNat ((100 + (D.length : Int) + e) % 256).toNat = tB neg ^^^ X := by
    have := (tB neg ^^^ X).toNat_lt
    apply UInt8.toNat_inj.1
    simp only [UInt8.toNat_ofNat']
    omega
  rw [hb]
  have : tn (tB neg) (tB neg ^^^ X) = X := tn_tn (tB neg) X
  rw [this]
theorem keyN_none {neg : Bool} {X : UInt8} {D : List Nat} (hD : ∀ d ∈ D, d < 10) {m e : Int} (hm : m = if neg then -(val D : Int) else (val D : Int)) (he : e = ((tB neg ^^^ X).toNat : Int) - 100 - D.length) {m' e' : Int} {r rest : List UInt8}
    (hr : numRight m' e' = true) (h : keyN m' e' ++ r = sB neg :: X :: (D.map (gD (tB neg)) ++ tn (tB neg) 0 :: rest)) : m' ≠ 0 ∧ m' = m ∧ e' = e := by
  obtain ⟨h0, hs, hX, F, h1, h2⟩ := keyN_split hr hD h
  have hF : F = [] := by
    cases F with
    | nil => rfl
    | cons f F =>
      simp only [List.map_cons, List.cons_append, List.cons.injEq] at h2
      exact absurd h2.1.symm (gD_ne (digN_lt m'.natAbs f (by rw [h1]; simp)))
  subst hF
  rw [List.append_nil] at h1
  have hv := congrArg val h1
  rw [val_digN] at hv
  have hl := numR_len hr h0
  rw [h1] at hX hl
  have hx : (tB neg ^^^ X).toNat = ((100 + (D.length : Int) + e') % 256).toNat % 256 := by rw [hX, tn_tn]; simp
  refine ⟨h0, ?_, by omega⟩
  cases neg <;> simp at hm hs <;> omega
end Go.Gk.Val
end

section
namespace Go.Gk.Val
open Go Go.Gk Go.Gk.Num
attribute [local irreducible] gwp gws

def KRDigitsOk (T : PHeap → Prop) (P : Program) (f : FuncId) : Prop := ∀ {d : PHeap} {q : Nat} {Tq : TypeId} {vb : Value} {b : List UInt8} {n : Nat}, T d → RSl 1 RByte d vb b → n ≤ b.length →
  GCall P f [.pointer (some ⟨q, 0, none⟩)] d [rdr q Tq vb n] (fun e d' L' => (∃ m x k, e = .returned (.agg [.int .i64 m, .int .i64 x].toArray) ∧ d' = d ∧ L' = [rdr q Tq vb k] ∧ k ≤ b.length ∧ n ≤ k ∧ numRight m x = true ∧ b.drop n = keyN m x ++ b.drop k) ∨
    (Gives e ∧ ∀ m x r, numRight m x = true → b.drop n ≠ keyN m x ++ r))
theorem pow18 {D : List Nat} (hD : ∀ d ∈ D, d < 10) (hl : D.length ≤ 18) : val D < 1000000000000000000 :=
  Nat.lt_of_lt_of_le (val_bound hD) (Nat.le_trans (Nat.pow_le_pow_right (by omega) hl) (Nat.le_of_eq rfl))
theorem pow17 {D : List Nat} (hD : ∀ d ∈ D, d < 10) (hl : D.length ≤ 17) : val D < 100000000000000000 :=
  Nat.lt_of_lt_of_le (val_bound hD) (Nat.le_trans (Nat.pow_le_pow_right (by omega) hl) (Nat.le_of_eq rfl))
theorem byteV_i (b : UInt8) : byteV b = .int .u8 b.toNat := rfl
def g_key_reader_digits (f_key_reader_next T_api_Errno f_num_Right : Nat) : GFun :=
 ⟨74, [(.cell 2 (some 2))],
 (.seq
 (.reg false (.op false ⟨(some 2), none, (.alo (.agg #[(.int .i64 0), (.int .i64 0)]))⟩ .done))
 (.seq
 (.reg false (.op false ⟨(some 3), none, (.mv (.const (.int .u8 0)))⟩ .done))
 (.seq
 (.reg false (.op false ⟨(some 10), none, (.mv (.tmp 0))⟩
  (.op false ⟨(some 11), none, (.call f_key_reader_next [(.tmp 10)])⟩
  (.op false ⟨(some 4), none, (.mv (.tmp 11))⟩ .done))))
 (.seq (.seq
 (.reg false (.op false ⟨(some 12), none, (.mv (.tmp 4))⟩ .done)) (.block 0
 (.seq
 (.reg false (.op false ⟨(some 15), none, (.bin .eql (.tmp 12) (.const (.int .u8 2)))⟩
  (.op false ⟨(some 14), none, (.mv (.tmp 15))⟩ .done))) (.cond (.tmp 14)
 (.seq
 (.reg false (.op false ⟨(some 16), none, (.bld [(0, 1), (1, 1)] [(.int .i64 0), (.int .i64 0)] [])⟩
  (.op false ⟨none, none, (.st 2 (.tmp 2) (.tmp 16))⟩ .done))) .ret)
 (.seq
 (.reg false (.op false ⟨(some 18), none, (.bin .eql (.tmp 12) (.const (.int .u8 1)))⟩
  (.op false ⟨(some 17), none, (.mv (.tmp 18))⟩ .done))) (.cond (.tmp 17)
 (.reg false (.op false ⟨(some 3), none, (.mv (.const (.int .u8 255)))⟩ .done))
 (.seq
 (.reg false (.op false ⟨(some 20), none, (.bin .eql (.tmp 12) (.const (.int .u8 3)))⟩
  (.op false ⟨(some 19), none, (.mv (.tmp 20))⟩ .done))) (.cond (.tmp 19) .skip
 (.reg false (.op false ⟨(some 13), none, (.mki T_api_Errno (.const (.int .i64 50)))⟩
  (.op false ⟨none, none, (.pan (.tmp 13))⟩ .done)))))))))))
 (.seq
 (.reg false (.op false ⟨(some 21), none, (.mv (.tmp 0))⟩
  (.op false ⟨(some 22), none, (.call f_key_reader_next [(.tmp 21)])⟩
  (.op false ⟨(some 23), none, (.mv (.tmp 3))⟩
  (.op false ⟨(some 24), none, (.bin .xor (.tmp 22) (.tmp 23))⟩
  (.op false ⟨(some 25), none, (.cvi .i64 (.tmp 24))⟩
  (.op false ⟨(some 26), none, (.bin .sub (.tmp 25) (.const (.int .i64 100)))⟩
  (.op false ⟨(some 5), none, (.mv (.tmp 26))⟩ .done))))))))
 (.seq
 (.reg false (.op false ⟨(some 6), none, (.mv (.const (.int .i64 0)))⟩
  (.op false ⟨(some 7), none, (.mv (.const (.int .i64 0)))⟩ .done)))
 (.seq (.block 1 (.loop (.block 2
 (.seq
 (.reg false (.op false ⟨(some 27), none, (.mv (.tmp 0))⟩
  (.op false ⟨(some 28), none, (.call f_key_reader_next [(.tmp 27)])⟩
  (.op false ⟨(some 29), none, (.mv (.tmp 3))⟩
  (.op false ⟨(some 30), none, (.bin .xor (.tmp 28) (.tmp 29))⟩
  (.op false ⟨(some 8), none, (.mv (.tmp 30))⟩ .done))))))
 (.seq (.seq
 (.reg false (.op false ⟨(some 31), none, (.mv (.tmp 8))⟩
  (.op false ⟨(some 32), none, (.bin .eql (.tmp 31) (.const (.int .u8 0)))⟩ .done))) (.cond (.tmp 32) (.exit 1) .skip))
 (.seq (.seq
 (.reg false (.op false ⟨(some 33), none, (.mv (.tmp 8))⟩
  (.op false ⟨(some 34), none, (.bin .gtr (.tmp 33) (.const (.int .u8 10)))⟩
  (.op false ⟨(some 35), none, (.mv (.tmp 34))⟩
  (.op false ⟨(some 36), (some (35, false)), (.mv (.tmp 7))⟩
  (.op false ⟨(some 37), (some (35, false)), (.bin .eql (.tmp 36) (.const (.int .i64 18)))⟩
  (.op false ⟨(some 38), none, (.pick (.tmp 35) (.const (.bool true)) (.tmp 37))⟩
  (.op false ⟨(some 39), none, (.mv (.tmp 38))⟩
  (.op false ⟨(some 40), (some (39, false)), (.mv (.tmp 7))⟩
  (.op false ⟨(some 41), (some (39, false)), (.bin .eql (.tmp 40) (.const (.int .i64 0)))⟩
  (.op false ⟨(some 42), (some (39, false)), (.mv (.tmp 41))⟩
  (.op false ⟨(some 43), (some (42, true)), (.mv (.tmp 8))⟩
  (.op false ⟨(some 44), (some (42, true)), (.bin .eql (.tmp 43) (.const (.int .u8 1)))⟩
  (.op false ⟨(some 45), (some (39, false)), (.pick (.tmp 42) (.tmp 44) (.const (.bool false)))⟩
  (.op false ⟨(some 46), none, (.pick (.tmp 39) (.const (.bool true)) (.tmp 45))⟩ .done))))))))))))))) (.cond (.tmp 46)
 (.reg false (.op false ⟨(some 47), none, (.mki T_api_Errno (.const (.int .i64 50)))⟩
  (.op false ⟨none, none, (.pan (.tmp 47))⟩ .done))) .skip))
 (.reg false (.op false ⟨(some 48), none, (.mv (.tmp 6))⟩
  (.op false ⟨(some 49), none, (.bin .mul (.tmp 48) (.const (.int .i64 10)))⟩
  (.op false ⟨(some 50), none, (.mv (.tmp 8))⟩
  (.op false ⟨(some 51), none, (.cvi .i64 (.tmp 50))⟩
  (.op false ⟨(some 52), none, (.bin .add (.tmp 49) (.tmp 51))⟩
  (.op false ⟨(some 53), none, (.bin .sub (.tmp 52) (.const (.int .i64 1)))⟩
  (.op false ⟨(some 54), none, (.mv (.tmp 7))⟩
  (.op false ⟨(some 55), none, (.bin .add (.tmp 54) (.const (.int .i64 1)))⟩
  (.op false ⟨(some 6), none, (.mv (.tmp 53))⟩
  (.op false ⟨(some 7), none, (.mv (.tmp 55))⟩ .done)))))))))))))))))
 (.seq (.seq
 (.reg false (.op false ⟨(some 56), none, (.mv (.tmp 4))⟩
  (.op false ⟨(some 57), none, (.bin .eql (.tmp 56) (.const (.int .u8 1)))⟩ .done))) (.cond (.tmp 57)
 (.reg false (.op false ⟨(some 58), none, (.mv (.tmp 6))⟩
  (.op false ⟨(some 59), none, (.un .neg (.tmp 58))⟩
  (.op false ⟨(some 6), none, (.mv (.tmp 59))⟩ .done)))) .skip))
 (.seq
 (.reg false (.op false ⟨(some 60), none, (.mv (.tmp 6))⟩
  (.op false ⟨(some 61), none, (.mv (.tmp 5))⟩
  (.op false ⟨(some 62), none, (.mv (.tmp 7))⟩
  (.op false ⟨(some 63), none, (.bin .sub (.tmp 61) (.tmp 62))⟩
  (.op false ⟨(some 64), none, (.bld [(0, 1), (1, 1)] [(.int .i64 0), (.int .i64 0)] [(0, (.tmp 60)), (1, (.tmp 63))])⟩
  (.op false ⟨(some 9), none, (.alo (.agg #[(.int .i64 0), (.int .i64 0)]))⟩
  (.op false ⟨none, none, (.st 2 (.tmp 9) (.tmp 64))⟩ .done))))))))
 (.seq (.seq
 (.reg false (.op false ⟨(some 65), none, (.mv (.tmp 6))⟩
  (.op false ⟨(some 66), none, (.bin .eql (.tmp 65) (.const (.int .i64 0)))⟩
  (.op false ⟨(some 67), none, (.mv (.tmp 66))⟩
  (.op false ⟨(some 68), (some (67, false)), (.ld (some 2) (.tmp 9))⟩
  (.op false ⟨(some 69), (some (67, false)), (.call f_num_Right [(.tmp 68)])⟩
  (.op false ⟨(some 70), (some (67, false)), (.un .not (.tmp 69))⟩
  (.op false ⟨(some 71), none, (.pick (.tmp 67) (.const (.bool true)) (.tmp 70))⟩ .done)))))))) (.cond (.tmp 71)
 (.reg false (.op false ⟨(some 72), none, (.mki T_api_Errno (.const (.int .i64 50)))⟩
  (.op false ⟨none, none, (.pan (.tmp 72))⟩ .done))) .skip))
 (.seq
 (.reg false (.op false ⟨(some 73), none, (.ld (some 2) (.tmp 9))⟩
  (.op false ⟨none, none, (.st 2 (.tmp 2) (.tmp 73))⟩ .done))) .ret)))))))))))⟩

set_option maxHeartbeats 1000000 in
theorem krdigits_ok {T : PHeap → Prop} {P : Program} {f f1 f3 : FuncId} {t1 : TypeId} (hd : dec P f = some (g_key_reader_digits f1 t1 f3)) (h1 : KNextOk P f1) (h3 : NumOk T P f3) : KRDigitsOk T P f := by
  intro d q Tq vb b n ht hb hn
  refine GCall_of hd (Nat.le_of_ble_eq_true rfl) ?_
  have nb := RSl.len_le hb
  show gwp P _ _ _ _ _
  (apply w_sq; apply w_reg; apply w_alo; intro _ _; apply w_done0; apply w_sq; apply w_reg; apply w_mvi; rfl; apply w_done0; apply w_sq; apply w_reg; apply w_mvp; rfl)
  rename_i b2 T2
  refine w_vs d [rdr q Tq vb n, bx b2 T2 [.int .i64 0, .int .i64 0]] (Vs.pick (L := [bx b2 T2 [.int .i64 0, .int .i64 0], rdr q Tq vb n]) [1, 0] rfl) ?_
  refine w_callE (A := [rdr q Tq vb n]) (B := [bx b2 T2 [.int .i64 0, .int .i64 0]]) rfl rfl (h1 hb hn) (fun d' L' h => KNext_out h) (fun r d' L' _ h => ?_) (fun c d' L' _ h => ?_)
  rotate_left
  · rcases h with ⟨_, h, _⟩ | ⟨hkl, h⟩
    · cases h
    · exact ⟨d', _, Vs.refl _ _, Or.inr ⟨h, fun m x r _ e => keyN_ne (by rw [← e, hkl]; simp)⟩⟩
  obtain ⟨hc, hr, hdd, hL⟩ := h.resolve_right (fun h => h.2.ret)
  cases hr; subst hdd; subst hL
  have hdk := List.drop_eq_getElem_cons hc
  by_cases s2 : b[n] = 2
  · have s2' : ((b[n].toNat : Nat) : Int) = 2 := by rw [s2]; rfl
    (apply w_mvi; rfl; apply w_done0; apply w_sq; apply w_sq; apply w_reg; apply w_mvi; rfl; apply w_done0; apply w_block; apply w_sq; apply w_reg; apply w_eql; rfl; rfl; apply w_mvb; rfl; apply w_done0; refine w_ifdT rfl (by omega) ?_; apply w_sq; apply w_reg; apply w_bld; rfl)
    refine w_stE 1 [.int .i64 0, .int .i64 0] rfl rfl rfl rfl (Nat.le_of_ble_eq_true rfl) rfl rfl ?_
    (apply w_done0; apply w_ret)
    simp only [mkPost, g_key_reader_digits]
    refine finS (L' := [rdr q Tq vb (n + 1)]) [.agg [.int .i64 0, .int .i64 0].toArray] ⟨res_cell 1 rfl rfl rfl, trivial⟩ (by simp) (Or.inl ⟨0, 0, n + 1, rfl, rfl, rfl, hc, by omega, rfl, ?_⟩)
    rw [hdk, s2]; rfl
  have s2' : ((b[n].toNat : Nat) : Int) ≠ 2 := fun e => s2 (UInt8.toNat_inj.1 (show b[n].toNat = 2 by omega))
  (apply w_mvi; rfl; apply w_done0; apply w_sq; apply w_sq; apply w_reg; apply w_mvi; rfl; apply w_done0; apply w_block; apply w_sq; apply w_reg; apply w_eql; rfl; rfl; apply w_mvb; rfl; apply w_done0; refine w_ifdF rfl (by omega) ?_; apply w_sq; apply w_reg; apply w_eql; rfl; rfl; apply w_mvb; rfl; apply w_done0)
  refine w_cut (fun ρ d2 L' => d2 = d' ∧ ∃ neg : Bool, b[n] = sB neg ∧ SlotsAre ρ [(0, .pointer (some ⟨q, 0, none⟩)), (2, .pointer (some ⟨b2, 0, none⟩)), (3, byteV (tB neg)), (4, byteV (sB neg))] ∧ L' = [rdr q Tq vb (n + 1), bx b2 T2 [.int .i64 0, .int .i64 0]]) ?_ ?_
  · by_cases s1 : b[n] = 1
    · have s1' : ((b[n].toNat : Nat) : Int) = 1 := by rw [s1]; rfl
      (refine w_ifdT rfl (by omega) ?_; apply w_reg; apply w_mvi; rfl; apply w_done0)
      exact ⟨rfl, true, s1, ⟨rfl, rfl, rfl, by rw [show sB true = b[n] from s1.symm]; rfl, trivial⟩, rfl⟩
    have s1' : ((b[n].toNat : Nat) : Int) ≠ 1 := fun e => s1 (UInt8.toNat_inj.1 (show b[n].toNat = 1 by omega))
    by_cases s3 : b[n] = 3
    · have s3' : ((b[n].toNat : Nat) : Int) = 3 := by rw [s3]; rfl
      (refine w_ifdF rfl (by omega) ?_; apply w_sq; apply w_reg; apply w_eql; rfl; rfl; apply w_mvb; rfl; apply w_done0; refine w_ifdT rfl (by omega) ?_; apply w_skip)
      exact ⟨rfl, false, s3, ⟨rfl, rfl, rfl, by rw [show sB false = b[n] from s3.symm]; rfl, trivial⟩, rfl⟩
    have s3' : ((b[n].toNat : Nat) : Int) ≠ 3 := fun e => s3 (UInt8.toNat_inj.1 (show b[n].toNat = 3 by omega))
    (refine w_ifdF rfl (by omega) ?_; apply w_sq; apply w_reg; apply w_eql; rfl; rfl; apply w_mvb; rfl; apply w_done0; refine w_ifdF rfl (by omega) ?_; apply w_reg; apply w_mki)
    exact w_pan rfl ⟨d', _, Vs.refl _ _, Or.inr ⟨⟨_, _, rfl⟩, fun m x r _ e => by rcases keyN_head (e.symm.trans hdk) with h | h | h; exact s1 h; exact s2 h; exact s3 h⟩⟩
  rintro ρ d2 L' ⟨hdd, neg, hneg, hsl, hL⟩
  subst hdd; subst hL
  rw [hneg] at hdk
  show gwp P _ _ _ _ _
  refine gwp_slots _ hsl ?_
  clear hsl s2 s2'
  (apply w_sq; apply w_reg; apply w_mvp; rfl)
  refine w_callE (A := [rdr q Tq vb (n + 1)]) (B := [bx b2 T2 [.int .i64 0, .int .i64 0]]) rfl rfl (h1 hb hc) (fun d' L' h => KNext_out h) (fun r d' L' _ h => ?_) (fun c d' L' _ h => ?_)
  rotate_left
  · rcases h with ⟨_, h, _⟩ | ⟨hkl, h⟩
    · cases h
    · exact ⟨d', _, Vs.refl _ _, Or.inr ⟨h, fun m x r _ e => keyN_two (neg := neg) (by rw [← e, hdk, hkl]; simp)⟩⟩
  obtain ⟨hc1, hr, hdd, hL⟩ := h.resolve_right (fun h => h.2.ret)
  cases hr; subst hdd; subst hL
  have hdk1 := List.drop_eq_getElem_cons hc1
  obtain ⟨X, hX⟩ : ∃ X, b[n + 1] = X := ⟨_, rfl⟩
  rw [hX] at hdk1 ⊢
  (apply w_mvi; rfl)
  refine w_xorB (a := X) (b := tB neg) rfl rfl ?_
  have hxl := (X ^^^ tB neg).toNat_lt
  (apply w_cvi64; rfl; omega; omega; apply w_sub; rfl; rfl; omega; omega; apply w_mvi; rfl; apply w_done0; apply w_sq; apply w_reg; apply w_mvi; rfl; apply w_mvi; rfl; apply w_done0; apply w_sq; apply w_block)
  rw [show ((X ^^^ tB neg).toNat : Int) = ((tB neg ^^^ X).toNat : Int) by rw [UInt8.xor_comm]]
  have hxl := (tB neg ^^^ X).toNat_lt
  obtain ⟨xe, hxe⟩ : ∃ xe : Int, ((tB neg ^^^ X).toNat : Int) - 100 = xe := ⟨_, rfl⟩
  rw [hxe]
  refine w_loopS (α := List Nat × Nat) (fun x => [(0, .pointer (some ⟨q, 0, none⟩)), (2, .pointer (some ⟨b2, 0, none⟩)), (3, byteV (tB neg)), (4, byteV (sB neg)), (5, .int .i64 xe), (6, .int .i64 (val x.1)), (7, .int .i64 x.1.length)])
    (fun x d2 L' => d2 = d' ∧ x.2 ≤ b.length ∧ n ≤ x.2 ∧ x.1.length ≤ 18 ∧ (∀ a ∈ x.1, a < 10) ∧ x.1.head? ≠ some 0 ∧ b.drop n = sB neg :: X :: (x.1.map (gD (tB neg)) ++ b.drop x.2) ∧ L' = [rdr q Tq vb x.2, bx b2 T2 [.int .i64 0, .int .i64 0]]) (fun x => b.length - x.2) ([], n + 1 + 1)
    ⟨rfl, rfl, rfl, rfl, rfl, rfl, rfl, trivial⟩ ⟨rfl, hc1, by simp only; omega, by simp, by simp, by simp, by simp only; rw [hdk, hdk1]; rfl, rfl⟩ ?_
  rintro ⟨D, k⟩ ρ d2 L' ⟨hdd, hk, hnk, hD18, hD, hD0, hbd, hL⟩
  subst hdd; subst hL
  simp only at hk hnk hD18 hD hD0 hbd ⊢
  have hvD := pow18 hD hD18
  (apply w_block; apply w_sq; apply w_reg; apply w_mvp; rfl)
  refine w_callE (A := [rdr q Tq vb k]) (B := [bx b2 T2 [.int .i64 0, .int .i64 0]]) rfl rfl (h1 hb hk) (fun d' L' h => KNext_out h) (fun r d' L' _ h => ?_) (fun c d' L' _ h => ?_)
  rotate_left
  · rcases h with ⟨_, h, _⟩ | ⟨hkl, h⟩
    · cases h
    · exact ⟨d', _, Vs.refl _ _, Or.inr ⟨h, fun m x r hr e => (keyN_no hr hD (e.symm.trans hbd)).1 (by rw [hkl]; simp)⟩⟩
  obtain ⟨hck, hr, hdd, hL⟩ := h.resolve_right (fun h => h.2.ret)
  cases hr; subst hdd; subst hL
  have hdk2 := List.drop_eq_getElem_cons hck
  (apply w_mvi; rfl)
  refine w_xorB (a := b[k]) (b := tB neg) rfl rfl ?_
  have hno : ∀ m x r, numRight m x = true → b.drop n = keyN m x ++ r → tB neg ^^^ b[k] = 0 ∨ ((tB neg ^^^ b[k]).toNat ≤ 10 ∧ D.length ≠ 18 ∧ (D = [] → (tB neg ^^^ b[k]).toNat ≠ 1)) := fun m x r hr e => (keyN_no hr hD (e.symm.trans hbd)).2 _ _ hdk2
  have htn : tn (tB neg) (tB neg ^^^ b[k]) = b[k] := tn_tn (tB neg) b[k]
  rw [UInt8.xor_comm b[k] (tB neg)]
  obtain ⟨c, hcc⟩ : ∃ c, tB neg ^^^ b[k] = c := ⟨_, rfl⟩
  rw [hcc] at htn hno ⊢
  have hcl := c.toNat_lt
  by_cases c0 : c = 0
  · have c0' : ((c.toNat : Nat) : Int) = 0 := by rw [c0]; rfl
    rw [c0] at htn
    have hbd2 : b.drop n = sB neg :: X :: (D.map (gD (tB neg)) ++ tn (tB neg) 0 :: b.drop (k + 1)) := by rw [hbd, hdk2, htn]
    obtain ⟨M, hM⟩ : ∃ M : Int, (if neg then -(val D : Int) else (val D : Int)) = M := ⟨_, rfl⟩
    (apply w_mvi; rfl; apply w_done0; apply w_sq; apply w_sq; apply w_reg; apply w_mvi; rfl; apply w_eql; rfl; rfl; apply w_done0; refine w_ifdT rfl (by omega) ?_; apply w_exit; apply w_sq; apply w_sq; apply w_reg; apply w_mvi; rfl; apply w_eql; rfl; rfl; apply w_done0)
    refine w_cut (fun ρ d3 L' => d3 = d' ∧ SlotsAre ρ [(2, .pointer (some ⟨b2, 0, none⟩)), (5, .int .i64 xe), (6, .int .i64 M), (7, .int .i64 D.length)] ∧ L' = [rdr q Tq vb (k + 1), bx b2 T2 [.int .i64 0, .int .i64 0]]) ?_ ?_
    · cases neg with
      | true =>
        have hs1 : (((sB true).toNat : Nat) : Int) = 1 := rfl
        simp only [if_true] at hM
        (refine w_ifdT rfl (by omega) ?_; apply w_reg; apply w_mvi; rfl; apply w_neg; rfl; omega; omega; apply w_mvi; rfl; apply w_done0)
        exact ⟨rfl, ⟨rfl, rfl, int_eq (by omega), rfl, trivial⟩, rfl⟩
      | false =>
        have hs1 : (((sB false).toNat : Nat) : Int) ≠ 1 := by decide
        simp only [Bool.false_eq_true, if_false] at hM
        (refine w_ifdF rfl (by omega) ?_; apply w_skip)
        exact ⟨rfl, ⟨rfl, rfl, int_eq (by omega), rfl, trivial⟩, rfl⟩
    rintro ρ d3 L' ⟨hdd, hsl, hL⟩
    subst hdd; subst hL
    show gwp P _ _ _ _ _
    refine gwp_slots _ hsl ?_
    clear hsl
    have hMb : -1000000000000000000 < M ∧ M < 1000000000000000000 := by cases neg <;> simp at hM <;> omega
    (apply w_sq; apply w_reg; apply w_mvi; rfl; apply w_mvi; rfl; apply w_mvi; rfl; apply w_sub; rfl; rfl; omega; omega; apply w_bnum2; rfl; rfl; apply w_alo; intro _ _)
    rename_i b9 T9
    refine w_stE 0 [.int .i64 M, .int .i64 (xe - D.length)] rfl rfl rfl rfl (Nat.le_of_ble_eq_true rfl) rfl rfl ?_
    have hnone : ∀ m x r, numRight m x = true → b.drop n = keyN m x ++ r → m ≠ 0 ∧ m = M ∧ x = xe - D.length := fun m x r hr e => keyN_none hD hM.symm (by omega) hr (e.symm.trans hbd2)
    by_cases hM0 : M = 0
    · have hM0' : (M : Int) = 0 := hM0
      (apply w_done0; apply w_sq; apply w_sq; apply w_reg; apply w_mvi; rfl; apply w_eql; rfl; rfl; apply w_mvb; rfl; refine w_gdT rfl (by omega) ?_; apply w_gF; rfl; apply w_gF; rfl; apply w_gF; rfl; apply w_pickTb; rfl; rfl; apply w_done0; apply w_ifT; rfl; apply w_reg; apply w_mki)
      exact w_pan rfl ⟨_, _, Vs.refl _ _, Or.inr ⟨⟨_, _, rfl⟩, fun m x r hr e => by have := hnone m x r hr e; omega⟩⟩
    (apply w_done0; apply w_sq; apply w_sq; apply w_reg; apply w_mvi; rfl; apply w_eql; rfl; rfl; apply w_mvb; rfl; refine w_gdF rfl (by omega) ?_; apply w_gT; rfl; apply w_ldb 0; rfl; rfl; rfl; apply w_gT; rfl)
    refine w_pure rfl (h3 ht ⟨by omega, by omega⟩ ⟨by omega, by omega⟩) ?_
    cases hnr : numRight M (xe - D.length) with
    | false =>
      (apply w_gT; rfl; apply w_not; rfl; apply w_pickFb; rfl; rfl; apply w_done0; apply w_ifT; rfl; apply w_reg; apply w_mki)
      exact w_pan rfl ⟨_, _, Vs.refl _ _, Or.inr ⟨⟨_, _, rfl⟩, fun m x r hr e => by
        obtain ⟨_, h2, h3⟩ := hnone m x r hr e
        rw [h2, h3, hnr] at hr; cases hr⟩⟩
    | true =>
      (apply w_gT; rfl; apply w_not; rfl; apply w_pickFb; rfl; rfl; apply w_done0; apply w_ifF; rfl; apply w_skip; apply w_sq; apply w_reg; apply w_ldb 0; rfl; rfl; rfl)
      refine w_stE 2 [.int .i64 M, .int .i64 (xe - D.length)] rfl rfl rfl rfl (Nat.le_of_ble_eq_true rfl) rfl rfl ?_
      (apply w_done0; apply w_ret)
      simp only [mkPost, g_key_reader_digits]
      refine finS (L' := [rdr q Tq vb (k + 1)]) [.agg [.int .i64 M, .int .i64 (xe - D.length)].toArray] ⟨res_cell 2 rfl rfl rfl, trivial⟩ (by simp) (Or.inl ⟨M, xe - D.length, k + 1, rfl, rfl, rfl, hck, by omega, hnr, ?_⟩)
      rw [hbd2, keyN_at (X := X) hD hD0 hM.symm (by omega) hM0]
  have c0' : ((c.toNat : Nat) : Int) ≠ 0 := fun e => c0 (UInt8.toNat_inj.1 (show c.toNat = 0 by omega))
  have hstep : (D = [] → c.toNat ≠ 1) → c.toNat ≤ 10 → D.length ≠ 18 → ∃ x : List Nat × Nat, b.length - x.2 < b.length - k ∧ (Value.int .i64 ((val D : Int) * 10 + c.toNat - 1) = .int .i64 (val x.1) ∧ Value.int .i64 ((D.length : Int) + 1) = .int .i64 x.1.length) ∧ x.2 = k + 1 ∧ x.2 ≤ b.length ∧ n ≤ x.2 ∧ x.1.length ≤ 18 ∧ (∀ a ∈ x.1, a < 10) ∧ x.1.head? ≠ some 0 ∧ b.drop n = sB neg :: X :: (x.1.map (gD (tB neg)) ++ b.drop x.2) := by
    intro e1 e2 e3
    have e4 : c.toNat ≠ 0 := by omega
    have hg : gD (tB neg) (c.toNat - 1) = b[k] := by
      rw [gD, show c.toNat - 1 + 1 = c.toNat by omega, UInt8.ofNat_toNat]; exact htn
    refine ⟨(D ++ [c.toNat - 1], k + 1), by simp only; omega, ⟨?_, ?_⟩, rfl, hck, by simp only; omega, by simp; omega, ?_, ?_, ?_⟩
    · simp only [val_snoc]; exact int_eq (by omega)
    · simp only [List.length_append, List.length_cons, List.length_nil]; exact int_eq (by omega)
    · intro a ha
      rcases List.mem_append.1 ha with h | h
      · exact hD a h
      · simp at h; omega
    · cases D with
      | nil => have := e1 rfl; simp; omega
      | cons a D => simpa using hD0
    · simp only [List.map_append, List.map_cons, List.map_nil, hg, List.append_assoc, List.cons_append, List.nil_append]
      rw [hbd, hdk2]
  by_cases c10 : (10 : Int) < c.toNat
  · (apply w_mvi; rfl; apply w_done0; apply w_sq; apply w_sq; apply w_reg; apply w_mvi; rfl; apply w_eql; rfl; rfl; apply w_done0; refine w_ifdF rfl (by omega) ?_; apply w_skip; apply w_sq; apply w_sq; apply w_reg; apply w_mvi; rfl; apply w_gtr; rfl; rfl; apply w_mvb; rfl; refine w_gdT rfl (by omega) ?_; apply w_gF; rfl; apply w_gF; rfl; apply w_pickTb; rfl; rfl; apply w_mvb; rfl; apply w_gF; rfl; apply w_gF; rfl; apply w_gF; rfl; apply w_gU; rfl; apply w_gU; rfl; apply w_gF; rfl; apply w_pickTb; rfl; rfl; apply w_done0; apply w_ifT; rfl; apply w_reg; apply w_mki)
    exact w_pan rfl ⟨_, _, Vs.refl _ _, Or.inr ⟨⟨_, _, rfl⟩, fun m x r hr e => by rcases hno m x r hr e with h | ⟨h, _⟩; exact c0 h; omega⟩⟩
  by_cases c18 : (D.length : Int) = 18
  · (apply w_mvi; rfl; apply w_done0; apply w_sq; apply w_sq; apply w_reg; apply w_mvi; rfl; apply w_eql; rfl; rfl; apply w_done0; refine w_ifdF rfl (by omega) ?_; apply w_skip; apply w_sq; apply w_sq; apply w_reg; apply w_mvi; rfl; apply w_gtr; rfl; rfl; apply w_mvb; rfl; refine w_gdF rfl (by omega) ?_; apply w_gT; rfl; apply w_mvi; rfl; apply w_gT; rfl; apply w_eql; rfl; rfl; apply w_pickFb; rfl; rfl; apply w_mvb; rfl; refine w_gdT rfl (by omega) ?_; apply w_gF; rfl; apply w_gF; rfl; apply w_gF; rfl; apply w_gU; rfl; apply w_gU; rfl; apply w_gF; rfl; apply w_pickTb; rfl; rfl; apply w_done0; apply w_ifT; rfl; apply w_reg; apply w_mki)
    exact w_pan rfl ⟨_, _, Vs.refl _ _, Or.inr ⟨⟨_, _, rfl⟩, fun m x r hr e => by rcases hno m x r hr e with h | ⟨_, h, _⟩; exact c0 h; omega⟩⟩
  have hv17 := pow17 hD (by omega)
  by_cases cD : (D.length : Int) = 0
  · by_cases c1 : ((c.toNat : Nat) : Int) = 1
    · (apply w_mvi; rfl; apply w_done0; apply w_sq; apply w_sq; apply w_reg; apply w_mvi; rfl; apply w_eql; rfl; rfl; apply w_done0; refine w_ifdF rfl (by omega) ?_; apply w_skip; apply w_sq; apply w_sq; apply w_reg; apply w_mvi; rfl; apply w_gtr; rfl; rfl; apply w_mvb; rfl; refine w_gdF rfl (by omega) ?_; apply w_gT; rfl; apply w_mvi; rfl; apply w_gT; rfl; apply w_eql; rfl; rfl; apply w_pickFb; rfl; rfl; apply w_mvb; rfl; refine w_gdF rfl (by omega) ?_; apply w_gT; rfl; apply w_mvi; rfl; apply w_gT; rfl; apply w_eql; rfl; rfl; apply w_gT; rfl; apply w_mvb; rfl; refine w_gdT rfl (by omega) ?_; apply w_gT; rfl; apply w_mvi; rfl; apply w_gT; rfl; apply w_eql; rfl; rfl; apply w_gT; rfl; apply w_pickTb; rfl; rfl; apply w_pickFb; rfl; rfl; apply w_done0; refine w_ifdT rfl (by omega) ?_; apply w_reg; apply w_mki)
      exact w_pan rfl ⟨_, _, Vs.refl _ _, Or.inr ⟨⟨_, _, rfl⟩, fun m x r hr e => by rcases hno m x r hr e with h | ⟨_, _, h⟩; exact c0 h; exact h (List.eq_nil_of_length_eq_zero (by omega)) (by omega)⟩⟩
    · have hst := hstep (fun _ => by omega) (by omega) (by omega)
      (apply w_mvi; rfl; apply w_done0; apply w_sq; apply w_sq; apply w_reg; apply w_mvi; rfl; apply w_eql; rfl; rfl; apply w_done0; refine w_ifdF rfl (by omega) ?_; apply w_skip; apply w_sq; apply w_sq; apply w_reg; apply w_mvi; rfl; apply w_gtr; rfl; rfl; apply w_mvb; rfl; refine w_gdF rfl (by omega) ?_; apply w_gT; rfl; apply w_mvi; rfl; apply w_gT; rfl; apply w_eql; rfl; rfl; apply w_pickFb; rfl; rfl; apply w_mvb; rfl; refine w_gdF rfl (by omega) ?_; apply w_gT; rfl; apply w_mvi; rfl; apply w_gT; rfl; apply w_eql; rfl; rfl; apply w_gT; rfl; apply w_mvb; rfl; refine w_gdT rfl (by omega) ?_; apply w_gT; rfl; apply w_mvi; rfl; apply w_gT; rfl; apply w_eql; rfl; rfl; apply w_gT; rfl; apply w_pickTb; rfl; rfl; apply w_pickFb; rfl; rfl; apply w_done0; refine w_ifdF rfl (by omega) ?_; apply w_skip; apply w_reg; apply w_mvi; rfl; apply w_mul; rfl; rfl; omega; omega; apply w_mvi; rfl; apply w_cvi64; rfl; omega; omega; apply w_add; rfl; rfl; omega; omega; apply w_sub; rfl; rfl; omega; omega; apply w_mvi; rfl; apply w_add; rfl; rfl; omega; omega; apply w_mvi; rfl; apply w_mvi; rfl; apply w_done0)
      obtain ⟨x, m1, ⟨m2, m3⟩, m4, m5, m6, m7, m8, m9, m10⟩ := hst
      exact ⟨x, m1, ⟨rfl, rfl, rfl, rfl, rfl, m2, m3, trivial⟩, rfl, m5, m6, m7, m8, m9, m10, by rw [m4]; rfl⟩
  · have hst := hstep (fun h => absurd h (by intro h; rw [h] at cD; simp at cD)) (by omega) (by omega)
    (apply w_mvi; rfl; apply w_done0; apply w_sq; apply w_sq; apply w_reg; apply w_mvi; rfl; apply w_eql; rfl; rfl; apply w_done0; refine w_ifdF rfl (by omega) ?_; apply w_skip; apply w_sq; apply w_sq; apply w_reg; apply w_mvi; rfl; apply w_gtr; rfl; rfl; apply w_mvb; rfl; refine w_gdF rfl (by omega) ?_; apply w_gT; rfl; apply w_mvi; rfl; apply w_gT; rfl; apply w_eql; rfl; rfl; apply w_pickFb; rfl; rfl; apply w_mvb; rfl; refine w_gdF rfl (by omega) ?_; apply w_gT; rfl; apply w_mvi; rfl; apply w_gT; rfl; apply w_eql; rfl; rfl; apply w_gT; rfl; apply w_mvb; rfl; refine w_gdF rfl (by omega) ?_; apply w_gF; rfl; apply w_gF; rfl; apply w_gT; rfl; apply w_pickFb; rfl; rfl; apply w_pickFb; rfl; rfl; apply w_done0; apply w_ifF; rfl; apply w_skip; apply w_reg; apply w_mvi; rfl; apply w_mul; rfl; rfl; omega; omega; apply w_mvi; rfl; apply w_cvi64; rfl; omega; omega; apply w_add; rfl; rfl; omega; omega; apply w_sub; rfl; rfl; omega; omega; apply w_mvi; rfl; apply w_add; rfl; rfl; omega; omega; apply w_mvi; rfl; apply w_mvi; rfl; apply w_done0)
    obtain ⟨x, m1, ⟨m2, m3⟩, m4, m5, m6, m7, m8, m9, m10⟩ := hst
    exact ⟨x, m1, ⟨rfl, rfl, rfl, rfl, rfl, m2, m3, trivial⟩, rfl, m5, m6, m7, m8, m9, m10, by rw [m4]; rfl⟩
end Go.Gk.Val
end

section
namespace Go.Gk.Val
open Go Go.Gk Go.Gk.Num

theorem keyV_tail {x : V} {r rest : List UInt8} {c : UInt8} (h : shp x) (e : c :: rest = keyV x ++ r) : (c.toNat : Int) = x.kind + 1 ∧ rest = (if x.kind = 3 then keyN x.m x.e else if x.kind = 4 then keyT x.text else if x.kind = 6 then keyKs x.keys ++ 0 :: keyVs x.list else if x.kind = 5 then keyVs x.list ++ [0] else []) ++ r := by
  have hk := (shp_iff.1 h).1.1
  rw [keyV_eq, List.cons_append, List.cons.injEq] at e
  refine ⟨?_, e.2⟩
  rw [e.1]; simp; omega
theorem no_kind {x : V} {r rest : List UInt8} {c : UInt8} (h : shp x) (hc : c.toNat = 0 ∨ 8 ≤ c.toNat) : c :: rest ≠ keyV x ++ r := fun e => by
  have hk := (shp_iff.1 h).1.1
  have := (keyV_tail h e).1
  omega
theorem no_num {x : V} {r rest : List UInt8} (h : shp x) (hn : ∀ m x r, numRight m x = true → rest ≠ keyN m x ++ r) : 4 :: rest ≠ keyV x ++ r := fun e => by
  obtain ⟨h1, h2⟩ := keyV_tail h e
  have hk : x.kind = 3 := by have : ((4 : UInt8).toNat : Int) = 4 := rfl; omega
  rw [if_pos hk] at h2
  exact hn _ _ _ (shp_iff.1 h).1.2.2.2.2.2.1 h2
theorem no_text {x : V} {r rest : List UInt8} (h : shp x) (hn : ∀ t r, rest ≠ keyT t ++ r) : 5 :: rest ≠ keyV x ++ r := fun e => by
  obtain ⟨h1, h2⟩ := keyV_tail h e
  have hk : x.kind = 4 := by have : ((5 : UInt8).toNat : Int) = 5 := rfl; omega
  rw [if_neg (by omega), if_pos hk] at h2
  exact hn _ _ h2
theorem no_list {x : V} {l : List V} {n : Nat} {r rest : List UInt8} (h : shp x) (hd : depthV x ≤ n + 1) (hl : ∀ y ∈ l, shp y) (hr : rest = [] ∨ (rest.head? ≠ some 0 ∧ ∀ y r, shp y → depthV y ≤ n → rest ≠ keyV y ++ r)) : 6 :: (keyVs l ++ rest) ≠ keyV x ++ r := fun e => by
  obtain ⟨h1, h2⟩ := keyV_tail h e
  have hk : x.kind = 5 := by have : ((6 : UInt8).toNat : Int) = 6 := rfl; omega
  rw [if_neg (by omega), if_neg (by omega), if_neg (by omega), if_pos hk] at h2
  simp only [List.append_assoc, List.cons_append, List.nil_append] at h2
  obtain ⟨m, hm, h3⟩ := keyVs_split0 (l := l) (fun a ha y r r' hy e => keyV_inj a (hl a ha) y r r' hy e) (fun _ h => h) hl (shp_iff.1 h).2 h2.symm
  rcases hr with hr | ⟨hr1, hr2⟩
  · rw [hr] at h3; simp at h3
  · cases m with
    | nil => rw [h3] at hr1; simp [keyVs] at hr1
    | cons y m =>
      have hy : y ∈ x.list := by rw [hm]; simp
      rw [keyVs_cons, List.append_assoc] at h3
      exact hr2 y _ ((shp_iff.1 h).2 y hy) (depth_le.1 hd y hy) h3
theorem no_keys {x : V} {ks : List (List UInt8)} {r rest : List UInt8} (h : shp x) (hr : rest = [] ∨ ∃ c rest', rest = c :: rest' ∧ c ≠ 0 ∧ (c ≠ 5 ∨ ∀ t r, rest' ≠ keyT t ++ r)) : 7 :: (keyKs ks ++ rest) ≠ keyV x ++ r := fun e => by
  obtain ⟨h1, h2⟩ := keyV_tail h e
  have hk : x.kind = 6 := by have : ((7 : UInt8).toNat : Int) = 7 := rfl; omega
  rw [if_neg (by omega), if_neg (by omega), if_pos hk] at h2
  simp only [List.append_assoc, List.cons_append] at h2
  obtain ⟨ls, hm, h3⟩ := keyKs_split h2.symm
  rcases hr with hr | ⟨c, rest', hr, hc, hr2⟩
  · rw [hr] at h3; simp at h3
  · rw [hr] at h3
    cases ls with
    | nil => simp [keyKs] at h3; exact hc h3.1
    | cons s ls =>
      rw [keyKs_cons] at h3
      simp only [List.cons_append, List.cons.injEq, List.append_assoc] at h3
      rcases hr2 with h5 | h5
      · exact h5 h3.1
      · exact h5 _ _ h3.2
theorem no_vals {x : V} {ks : List (List UInt8)} {l : List V} {n : Nat} {r rest : List UInt8} (h : shp x) (hd : depthV x ≤ n + 1) (hl : ∀ y ∈ l, shp y) (hn : l.length < ks.length) (hr : ∀ y r, shp y → depthV y ≤ n → rest ≠ keyV y ++ r) : 7 :: (keyKs ks ++ 0 :: (keyVs l ++ rest)) ≠ keyV x ++ r := fun e => by
  obtain ⟨h1, h2⟩ := keyV_tail h e
  have hk : x.kind = 6 := by have : ((7 : UInt8).toNat : Int) = 7 := rfl; omega
  rw [if_neg (by omega), if_neg (by omega), if_pos hk] at h2
  simp only [List.append_assoc, List.cons_append] at h2
  obtain ⟨hks, h3⟩ := keyKs_inj h2
  have hlen := (shp_iff.1 h).1.2.2.2.2.2.2 hk
  rw [← hks] at hlen
  obtain ⟨m, hm, h4⟩ := keyVs_splitN (l := l) (fun a ha y r r' hy e => keyV_inj a (hl a ha) y r r' hy e) (fun _ h => h) (shp_iff.1 h).2 (by omega) h3.symm
  cases m with
  | nil => rw [List.append_nil] at hm; rw [hm] at hlen; omega
  | cons y m =>
    have hy : y ∈ x.list := by rw [hm]; simp
    rw [keyVs_cons, List.append_assoc] at h4
    exact hr y _ ((shp_iff.1 h).2 y hy) (depth_le.1 hd y hy) h4
theorem shp_kind {k : Int} (h : 0 ≤ k ∧ k ≤ 2) : shp (.mk k 0 0 [] [] []) := shp_iff.2 ⟨⟨⟨h.1, by show k ≤ 6; omega⟩, .inr ⟨rfl, rfl⟩, .inr rfl, .inr rfl, .inr rfl, rfl, fun _ => rfl⟩, fun x hx => by cases hx⟩
theorem shp_num {m e : Int} (h : numRight m e = true) : shp (.mk 3 m e [] [] []) := shp_iff.2 ⟨⟨⟨by show (0 : Int) ≤ 3; omega, by show (3 : Int) ≤ 6; omega⟩, .inl rfl, .inr rfl, .inr rfl, .inr rfl, h, fun _ => rfl⟩, fun x hx => by cases hx⟩
theorem shp_text {t : List UInt8} : shp (.mk 4 0 0 t [] []) := shp_iff.2 ⟨⟨⟨by show (0 : Int) ≤ 4; omega, by show (4 : Int) ≤ 6; omega⟩, .inr ⟨rfl, rfl⟩, .inl rfl, .inr rfl, .inr rfl, rfl, fun _ => rfl⟩, fun x hx => by cases hx⟩
theorem shp_list {l : List V} (h : ∀ x ∈ l, shp x) : shp (.mk 5 0 0 [] l []) := shp_iff.2 ⟨⟨⟨by show (0 : Int) ≤ 5; omega, by show (5 : Int) ≤ 6; omega⟩, .inr ⟨rfl, rfl⟩, .inr rfl, .inl (by show (5 : Int) ≤ 5; omega), .inr rfl, rfl, fun h => absurd h (by show ¬ (5 : Int) = 6; omega)⟩, h⟩
theorem shp_map {l : List V} {ks : List (List UInt8)} (h : ∀ x ∈ l, shp x) (hl : ks.length = l.length) : shp (.mk 6 0 0 [] l ks) := shp_iff.2 ⟨⟨⟨by show (0 : Int) ≤ 6; omega, by show (6 : Int) ≤ 6; omega⟩, .inr ⟨rfl, rfl⟩, .inr rfl, .inl (by show (5 : Int) ≤ 6; omega), .inl rfl, rfl, fun _ => hl⟩, h⟩
theorem keyV_kind {k : Int} (h : 0 ≤ k ∧ k ≤ 2) : keyV (.mk k 0 0 [] [] []) = [UInt8.ofNat ((k + 1) % 256).toNat] := by
  rw [keyV_eq]; simp only [V.kind]
  rw [if_neg (by omega), if_neg (by omega), if_neg (by omega), if_neg (by omega)]
theorem keyV_num (m e : Int) : keyV (.mk 3 m e [] [] []) = 4 :: keyN m e := by rw [keyV_eq]; rfl
theorem keyV_text (t : List UInt8) : keyV (.mk 4 0 0 t [] []) = 5 :: keyT t := by rw [keyV_eq]; rfl
theorem keyV_list (l : List V) : keyV (.mk 5 0 0 [] l []) = 6 :: (keyVs l ++ [0]) := by rw [keyV_eq]; rfl
theorem keyV_map (l : List V) (ks : List (List UInt8)) : keyV (.mk 6 0 0 [] l ks) = 7 :: (keyKs ks ++ 0 :: keyVs l) := by rw [keyV_eq]; rfl
theorem keyV_txt (v : V) : shp v → txtV v ≤ (keyV v).length := by
  induction v using V.ind with
  | h v ih =>
    intro hv
    obtain ⟨⟨a1, a2, a3, a4, a5, a6, a7⟩, hl⟩ := shp_iff.1 hv
    have hT : ∀ s : List UInt8, s.length + 2 ≤ (keyT s).length := fun s => by
      have : ∀ s : List UInt8, s.length ≤ (esc s).length := fun s => by
        induction s with
        | nil => simp
        | cons c s ih => rw [esc_cons, List.length_append, List.length_cons]; split <;> simp <;> omega
      have := this s
      simp [keyT]; omega
    have hK : ∀ ks : List (List UInt8), ks.length ≤ (keyKs ks).length := fun ks => by
      induction ks with
      | nil => simp
      | cons s ks ih => rw [keyKs_cons]; simp; omega
    have hV : ∀ l : List V, (∀ x ∈ l, txtV x ≤ (keyV x).length) → txts l ≤ (keyVs l).length := fun l => by
      induction l with
      | nil => intro _; simp [txts, keyVs]
      | cons x l ih2 =>
        intro h
        have := h x (by simp)
        have := ih2 (fun y hy => h y (by simp [hy]))
        rw [keyVs_cons, List.length_append]; simp only [txts]; omega
    have hl' := hV v.list (fun x hx => ih x hx (hl x hx))
    have hk' := hK v.keys
    have ht' := hT v.text
    rw [txtV_eq, keyV_eq, List.length_cons]
    by_cases k3 : v.kind = 3
    · rw [if_pos k3, a3.resolve_left (by omega), a4.resolve_left (by omega), a5.resolve_left (by omega)]
      simp [txts]
    rw [if_neg k3]
    by_cases k4 : v.kind = 4
    · rw [if_pos k4, a4.resolve_left (by omega), a5.resolve_left (by omega)]
      simp [txts]; omega
    rw [if_neg k4, a3.resolve_left k4]
    by_cases k6 : v.kind = 6
    · rw [if_pos k6]; simp; omega
    rw [if_neg k6, a5.resolve_left k6]
    by_cases k5 : v.kind = 5
    · rw [if_pos k5]; simp; omega
    · rw [if_neg k5, a4.resolve_left (by omega)]; simp [txts]
end Go.Gk.Val
end
