/-
  Our own texts, one behind the other: GkO5 GkO6 GkO7 GkO8 GkO9 GkT0 GkOA GkQ0 Gk26 GkOB0 GkQ1 GkQ2 GkQ3.
-/
import Derived.Test.YtalhkeajhajggaaDoorPkE
section
/-
  Numbers compared: the reference, and the program.
-/
namespace Go.Gk.Val
open Go Go.Gk Go.Gk.Num
attribute [local irreducible] gwp gws

def ansF (neg : Bool) (C : List Nat) : Int := if val C = 0 then 0 else if neg then -1 else 1
def sg (b : Bool) : Int := if b then -1 else 1
def plusA (na nb : Bool) (z : Bool) (c : Int) : Int := if na = nb then (if z then 0 else sg na) else if c < 0 then sg nb else if c = 0 then 0 else sg na
theorem plus_sum {D1 D2 X Y : List Nat} {e1 e2 : Int} (h : PairR D1 e1 D2 e2 X Y) : val (totF false X Y).1 = val X + val Y := by
  obtain ⟨hl, h2, hX, hY, l1, l2, _⟩ := h
  have ht := tot_val false X Y hl hX hY
  have hb := val_bound (tot_lt false X Y hX hY)
  rw [tot_len false X Y hl] at hb
  have hc := tot_carry false X Y
  simp only [Bool.false_eq_true, if_false] at ht
  rcases hc with hc | hc | hc <;> rw [hc] at ht <;> omega
theorem plus_diff {X Y : List Nat} (hl : X.length = Y.length) (hX : ∀ d ∈ X, d < 10) (hY : ∀ d ∈ Y, d < 10) (h : val Y ≤ val X) : val (totF true X Y).1 = val X - val Y := by
  have ht := tot_val true X Y hl hX hY
  have hb := val_bound (tot_lt true X Y hX hY)
  have hbx := val_bound hX
  rw [tot_len true X Y hl] at hb
  have hc := tot_carry true X Y
  simp only [if_true] at ht
  rcases hc with hc | hc | hc <;> rw [hc] at ht <;> omega
theorem plus_same {D1 D2 X Y : List Nat} {e1 e2 : Int} (n : Bool) (h : PairR D1 e1 D2 e2 X Y) : ansF n (totF false X Y).1 = plusA n n (decide (val D1 = 0 ∧ val D2 = 0)) (numC (val D1) e1 (val D2) e2) := by
  have z1 := h.2.2.2.2.2.2.2.1
  have z2 := h.2.2.2.2.2.2.2.2
  rw [ansF, plus_sum h, plusA, if_pos rfl]
  by_cases q : val X = 0 ∧ val Y = 0
  · rw [if_pos (show val X + val Y = 0 by omega), decide_eq_true (by omega)]; rfl
  · rw [if_neg (show ¬ val X + val Y = 0 by omega), decide_eq_false (by omega)]; rfl
theorem plus_up {D1 D2 X Y : List Nat} {e1 e2 : Int} {na nb : Bool} (hn : na ≠ nb) (h : PairR D1 e1 D2 e2 X Y) (hlt : val X < val Y) : ansF nb (totF true Y X).1 = plusA na nb (decide (val D1 = 0 ∧ val D2 = 0)) (numC (val D1) e1 (val D2) e2) := by
  obtain ⟨hl, h2, hX, hY, l1, l2, hc, _⟩ := h
  rw [ansF, plus_diff hl.symm hY hX (by omega), plusA, if_neg hn, ← hc, cmpI_lt (by omega), if_neg (show ¬ val Y - val X = 0 by omega), if_pos (show (-1 : Int) < 0 by decide)]; rfl
theorem plus_down {D1 D2 X Y : List Nat} {e1 e2 : Int} {na nb : Bool} (hn : na ≠ nb) (h : PairR D1 e1 D2 e2 X Y) (hlt : ¬ val X < val Y) : ansF na (totF true X Y).1 = plusA na nb (decide (val D1 = 0 ∧ val D2 = 0)) (numC (val D1) e1 (val D2) e2) := by
  obtain ⟨hl, h2, hX, hY, l1, l2, hc, _⟩ := h
  rw [ansF, plus_diff hl hX hY (by omega), plusA, if_neg hn, ← hc]
  by_cases q : val X = val Y
  · rw [if_pos (show val X - val Y = 0 by omega), cmpI_eq (by omega)]; rfl
  · rw [if_neg (show ¬ val X - val Y = 0 by omega), cmpI_gt (by omega), if_neg (show ¬ (1 : Int) < 0 by decide), if_neg (show ¬ (1 : Int) = 0 by decide)]; rfl
def RLong (d : PHeap) (r : Value) (ans : Int) : Prop := ∃ neg a c C, ∃ e : Int, r = .agg [.bool neg, .slice a C.length c, .int .i64 e].toArray ∧ RInts d (.slice a C.length c) (ints C) ∧ (∀ x ∈ C, x < 10) ∧ C.length ≤ 2000 ∧ ansF neg C = ans
def PlusOk (P : Program) (f : FuncId) : Prop := ∀ {d : PHeap} {na nb : Bool} {v w : Value} {D1 D2 : List Nat} {e1 e2 : Int}, RInts d v (ints D1) → RInts d w (ints D2) → D1.length ≤ 100 → D2.length ≤ 100 → (∀ x ∈ D1, x < 10) → (∀ x ∈ D2, x < 10) →
  -100 ≤ e1 → e1 ≤ 100 → -100 ≤ e2 → e2 ≤ 100 →
  GCall P f [.agg [.bool na, v, .int .i64 e1].toArray, .agg [.bool nb, w, .int .i64 e2].toArray] d [] (Ret fun r d' L' => L' = [] ∧ RLong d' r (plusA na nb (decide (val D1 = 0 ∧ val D2 = 0)) (numC (val D1) e1 (val D2) e2)))
def g_thimbleref01_plus (f_thimbleref01_pair f_thimbleref01_total f_thimbleref01_above : Nat) : GFun :=
 ⟨44, [(.cell 4 (some 3))],
 (.seq
 (.reg false (.op false ⟨(some 2), none, (.box (.tmp 0))⟩
  (.op false ⟨(some 3), none, (.box (.tmp 1))⟩
  (.op false ⟨(some 4), none, (.alo (.agg #[(.bool false), (.slice none 0 0), (.int .i64 0)]))⟩ .done))))
 (.seq
 (.reg false (.op false ⟨(some 9), none, (.ld (some 3) (.tmp 2))⟩
  (.op false ⟨(some 10), none, (.ld (some 3) (.tmp 3))⟩
  (.op false ⟨(some 11), none, (.call f_thimbleref01_pair [(.tmp 9), (.tmp 10)])⟩
  (.op false ⟨(some 8), none, (.mv (.tmp 11))⟩
  (.op false ⟨(some 12), none, (.ext (.tmp 8) 0)⟩
  (.op false ⟨(some 13), none, (.ext (.tmp 8) 1)⟩
  (.op false ⟨(some 14), none, (.ext (.tmp 8) 2)⟩
  (.op false ⟨(some 5), none, (.mv (.tmp 12))⟩
  (.op false ⟨(some 6), none, (.mv (.tmp 13))⟩
  (.op false ⟨(some 7), none, (.mv (.tmp 14))⟩ .done)))))))))))
 (.seq (.seq
 (.reg false (.op false ⟨(some 15), none, (.fld 0 (.tmp 2))⟩
  (.op false ⟨(some 16), none, (.ld none (.tmp 15))⟩
  (.op false ⟨(some 17), none, (.fld 0 (.tmp 3))⟩
  (.op false ⟨(some 18), none, (.ld none (.tmp 17))⟩
  (.op false ⟨(some 19), none, (.eqb false (.tmp 16) (.tmp 18))⟩ .done)))))) (.cond (.tmp 19)
 (.seq
 (.reg true (.op true ⟨(some 20), none, (.fld 0 (.tmp 2))⟩
  (.op true ⟨(some 21), none, (.ld none (.tmp 20))⟩
  (.op true ⟨(some 22), none, (.mv (.tmp 5))⟩
  (.op true ⟨(some 23), none, (.mv (.tmp 6))⟩
  (.op true ⟨(some 25), none, (.mv (.tmp 7))⟩
  (.op false ⟨(some 24), none, (.call f_thimbleref01_total [(.tmp 22), (.tmp 23), (.const (.bool false))])⟩
  (.op true ⟨(some 26), none, (.bld [(0, 1), (1, 1), (2, 1)] [(.bool false), (.slice none 0 0), (.int .i64 0)] [(0, (.tmp 21)), (1, (.tmp 24)), (2, (.tmp 25))])⟩
  (.bar (.op false ⟨none, none, (.st 3 (.tmp 4) (.tmp 26))⟩ .done)))))))))) .ret) .skip))
 (.seq (.seq
 (.reg false (.op false ⟨(some 27), none, (.mv (.tmp 6))⟩
  (.op false ⟨(some 28), none, (.mv (.tmp 5))⟩
  (.op false ⟨(some 29), none, (.call f_thimbleref01_above [(.tmp 27), (.tmp 28)])⟩ .done)))) (.cond (.tmp 29)
 (.seq
 (.reg true (.op true ⟨(some 30), none, (.fld 0 (.tmp 3))⟩
  (.op true ⟨(some 31), none, (.ld none (.tmp 30))⟩
  (.op true ⟨(some 32), none, (.mv (.tmp 6))⟩
  (.op true ⟨(some 33), none, (.mv (.tmp 5))⟩
  (.op true ⟨(some 35), none, (.mv (.tmp 7))⟩
  (.op false ⟨(some 34), none, (.call f_thimbleref01_total [(.tmp 32), (.tmp 33), (.const (.bool true))])⟩
  (.op true ⟨(some 36), none, (.bld [(0, 1), (1, 1), (2, 1)] [(.bool false), (.slice none 0 0), (.int .i64 0)] [(0, (.tmp 31)), (1, (.tmp 34)), (2, (.tmp 35))])⟩
  (.bar (.op false ⟨none, none, (.st 3 (.tmp 4) (.tmp 36))⟩ .done)))))))))) .ret) .skip))
 (.seq
 (.reg true (.op true ⟨(some 37), none, (.fld 0 (.tmp 2))⟩
  (.op true ⟨(some 38), none, (.ld none (.tmp 37))⟩
  (.op true ⟨(some 39), none, (.mv (.tmp 5))⟩
  (.op true ⟨(some 40), none, (.mv (.tmp 6))⟩
  (.op true ⟨(some 42), none, (.mv (.tmp 7))⟩
  (.op false ⟨(some 41), none, (.call f_thimbleref01_total [(.tmp 39), (.tmp 40), (.const (.bool true))])⟩
  (.op true ⟨(some 43), none, (.bld [(0, 1), (1, 1), (2, 1)] [(.bool false), (.slice none 0 0), (.int .i64 0)] [(0, (.tmp 38)), (1, (.tmp 41)), (2, (.tmp 42))])⟩
  (.bar (.op false ⟨none, none, (.st 3 (.tmp 4) (.tmp 43))⟩ .done)))))))))) .ret)))))⟩

set_option maxHeartbeats 1000000 in
theorem plus_ok {P : Program} {f f1 f2 f3 : FuncId} (hd : dec P f = some (g_thimbleref01_plus f1 f2 f3)) (h1 : PairOk P f1) (h2 : TotalOk P f2) (h3 : AboveOk P f3) : PlusOk P f := by
  intro d na nb v w D1 D2 e1 e2 hv hw n1 n2 b1 b2 p1 p2 p3 p4
  refine GCall_of hd (Nat.le_of_ble_eq_true rfl) ?_
  obtain ⟨a, c, rfl⟩ := RSl.val hv
  obtain ⟨a', c', rfl⟩ := RSl.val hw
  rw [ints_len] at hv hw
  rw [ints_len, ints_len]
  show gwp P _ _ _ _ _
  apply w_sq; apply w_reg
  refine w_boxa (l := [.bool na, .slice a D1.length c, .int .i64 e1]) rfl (fun t2 T2 => ?_)
  refine w_boxa (l := [.bool nb, .slice a' D2.length c', .int .i64 e2]) rfl (fun t3 T3 => ?_)
  (apply w_alo; intro _ _; apply w_done0; apply w_sq; apply w_reg; apply w_ldb 2; rfl; rfl; rfl; apply w_ldb 1; rfl; rfl; rfl)
  rename_i t4 T4
  refine w_call0 rfl (h1 hv hw n1 n2 b1 b2 p1 p2 p3 p4) (fun r d2 L2 hl2 ⟨hL, x, y, X, Y, e, hr, rx, ry, hp⟩ => ?_)
  subst hL; subst hr
  obtain ⟨xa, xc, hx⟩ := RSl.val rx
  rw [ints_len] at hx
  subst hx
  obtain ⟨ya, yc, hy⟩ := RSl.val ry
  rw [ints_len] at hy
  subst hy
  have hp' := hp
  obtain ⟨hl, hX2, hX, hY, _⟩ := hp'
  have hfl1 := tot_len false X Y hl
  have hfl2 := tot_len true X Y hl
  have hfl3 := tot_len true Y X hl.symm
  by_cases hn : na = nb
  · subst hn
    have hb : (false ^^ (na == na)) = true := by simp
    (apply w_mvu; rfl; apply w_ext; rfl; rfl; apply w_ext; rfl; rfl; apply w_ext; rfl; rfl; apply w_mvs; rfl; apply w_mvs; rfl; apply w_mvi; rfl; apply w_done0; apply w_sq; apply w_sq; apply w_reg; apply w_fld; rfl; apply w_ld; rfl; exact hc_i 2 rfl rfl; apply w_fld; rfl; apply w_ld; rfl; exact hc_i 1 rfl rfl; apply w_eqb; rfl; rfl; apply w_done0; apply w_ifbT; rfl; (with_reducible assumption); apply w_sq; apply w_drawn; apply w_fld; rfl; apply w_ld; rfl; exact hc_i 2 rfl rfl; apply w_mvs; rfl; apply w_mvs; rfl; apply w_mvi; rfl)
    refine w_call0 rfl (h2 (mi := false) rx ry hl hX hY (by omega)) (fun r d3 L3 hl3 ⟨hL, rr⟩ => ?_)
    subst hL
    obtain ⟨ra, rc, hre⟩ := RSl.val rr
    rw [ints_len] at hre
    subst hre
    (apply w_bld; rfl; apply w_bar)
    refine w_stE 0 [.bool na, .slice ra (totF false X Y).1.length rc, .int .i64 e] rfl rfl rfl rfl (Nat.le_of_ble_eq_true rfl) rfl rfl ?_
    (apply w_done0; apply w_ret)
    exact finS [_] ⟨res_cell 0 rfl rfl rfl, trivial⟩ (List.nil_sublist _) ⟨rfl, na, ra, rc, _, e, rfl, rr, tot_lt false X Y hX hY, by omega, plus_same na hp⟩
  have hb : (false ^^ (na == nb)) = false := by simpa using hn
  by_cases hlt : val X < val Y
  · have hlt' := decide_eq_true hlt
    (apply w_mvu; rfl; apply w_ext; rfl; rfl; apply w_ext; rfl; rfl; apply w_ext; rfl; rfl; apply w_mvs; rfl; apply w_mvs; rfl; apply w_mvi; rfl; apply w_done0; apply w_sq; apply w_sq; apply w_reg; apply w_fld; rfl; apply w_ld; rfl; exact hc_i 2 rfl rfl; apply w_fld; rfl; apply w_ld; rfl; exact hc_i 1 rfl rfl; apply w_eqb; rfl; rfl; apply w_done0; apply w_ifbF; rfl; (with_reducible assumption); apply w_skip; apply w_sq; apply w_sq; apply w_reg; apply w_mvs; rfl; apply w_mvs; rfl)
    refine w_pure rfl (h3 ry rx hl.symm hY hX (by omega)) ?_
    (apply w_done0; refine w_ifdT rfl (by omega) ?_; apply w_sq; apply w_drawn; apply w_fld; rfl; apply w_ld; rfl; exact hc_i 1 rfl rfl; apply w_mvs; rfl; apply w_mvs; rfl; apply w_mvi; rfl)
    refine w_call0 rfl (h2 (mi := true) ry rx hl.symm hY hX (by omega)) (fun r d3 L3 hl3 ⟨hL, rr⟩ => ?_)
    subst hL
    obtain ⟨ra, rc, hre⟩ := RSl.val rr
    rw [ints_len] at hre
    subst hre
    (apply w_bld; rfl; apply w_bar)
    refine w_stE 0 [.bool nb, .slice ra (totF true Y X).1.length rc, .int .i64 e] rfl rfl rfl rfl (Nat.le_of_ble_eq_true rfl) rfl rfl ?_
    (apply w_done0; apply w_ret)
    exact finS [_] ⟨res_cell 0 rfl rfl rfl, trivial⟩ (List.nil_sublist _) ⟨rfl, nb, ra, rc, _, e, rfl, rr, tot_lt true Y X hY hX, by omega, plus_up hn hp hlt⟩
  · have hlt' := decide_eq_false hlt
    (apply w_mvu; rfl; apply w_ext; rfl; rfl; apply w_ext; rfl; rfl; apply w_ext; rfl; rfl; apply w_mvs; rfl; apply w_mvs; rfl; apply w_mvi; rfl; apply w_done0; apply w_sq; apply w_sq; apply w_reg; apply w_fld; rfl; apply w_ld; rfl; exact hc_i 2 rfl rfl; apply w_fld; rfl; apply w_ld; rfl; exact hc_i 1 rfl rfl; apply w_eqb; rfl; rfl; apply w_done0; apply w_ifbF; rfl; (with_reducible assumption); apply w_skip; apply w_sq; apply w_sq; apply w_reg; apply w_mvs; rfl; apply w_mvs; rfl)
    refine w_pure rfl (h3 ry rx hl.symm hY hX (by omega)) ?_
    (apply w_done0; refine w_ifdF rfl (by omega) ?_; apply w_skip; apply w_sq; apply w_drawn; apply w_fld; rfl; apply w_ld; rfl; exact hc_i 2 rfl rfl; apply w_mvs; rfl; apply w_mvs; rfl; apply w_mvi; rfl)
    refine w_call0 rfl (h2 (mi := true) rx ry hl hX hY (by omega)) (fun r d3 L3 hl3 ⟨hL, rr⟩ => ?_)
    subst hL
    obtain ⟨ra, rc, hre⟩ := RSl.val rr
    rw [ints_len] at hre
    subst hre
    (apply w_bld; rfl; apply w_bar)
    refine w_stE 0 [.bool na, .slice ra (totF true X Y).1.length rc, .int .i64 e] rfl rfl rfl rfl (Nat.le_of_ble_eq_true rfl) rfl rfl ?_
    (apply w_done0; apply w_ret)
    exact finS [_] ⟨res_cell 0 rfl rfl rfl, trivial⟩ (List.nil_sublist _) ⟨rfl, na, ra, rc, _, e, rfl, rr, tot_lt true X Y hX hY, by omega, plus_down hn hp hlt⟩
/-- Signs back. -/
theorem plusA_num {m1 e1 m2 e2 : Int} : plusA (decide (m1 < 0)) (!decide (m2 < 0)) (decide (val (digN m1.natAbs) = 0 ∧ val (digN m2.natAbs) = 0)) (numC (val (digN m1.natAbs)) e1 (val (digN m2.natAbs)) e2) = numC m1 e1 m2 e2 := by
  rw [val_digN, val_digN]
  have sgn1 : ∀ m : Int, 0 ≤ m → m ≠ 0 → sgn m = 1 := fun m a b => sgn_pos (by omega)
  by_cases q1 : m1 < 0
  · by_cases q2 : m2 < 0
    · have := numC_abs (m1 := m1) (e1 := e1) (m2 := m2) (e2 := e2) (by rw [sgn_neg q1, sgn_neg q2]) (by rw [sgn_neg q1]; decide)
      rw [sgn_neg q1] at this
      have h2 : numC m1.natAbs e1 m2.natAbs e2 = -numC m1 e1 m2 e2 := by rw [this, numC, Int.natCast_mul, Int.natCast_mul]; omega
      rw [h2, plusA, if_neg (by simp [q1, q2])]
      rcases cmpI_range (m1 * ((10 ^ (e1 - min e1 e2).toNat : Nat) : Int)) (m2 * ((10 ^ (e2 - min e1 e2).toNat : Nat) : Int)) with h | h | h <;> (have h : numC m1 e1 m2 e2 = _ := h; rw [h]; simp [sg, q1, q2])
    · rw [plusA, if_pos (by simp [q1, q2]), decide_eq_false (by omega), sg]
      rw [numC_sgn (.inl (by rw [sgn_neg q1]; by_cases z : m2 = 0; (· subst z; decide); rw [sgn1 m2 (by omega) z]; decide)), sgn_neg q1]
      by_cases z : m2 = 0
      · subst z; simp [q1]; decide
      · rw [sgn1 m2 (by omega) z]; simp [q1]; decide
  · by_cases q2 : m2 < 0
    · rw [plusA, if_pos (by simp [q1, q2]), decide_eq_false (by omega), sg]
      rw [numC_sgn (.inl (by rw [sgn_neg q2]; by_cases z : m1 = 0; (· subst z; decide); rw [sgn1 m1 (by omega) z]; decide)), sgn_neg q2]
      by_cases z : m1 = 0
      · subst z; simp; decide
      · rw [sgn1 m1 (by omega) z]; simp [q1]; decide
    · rw [show ((m1.natAbs : Nat) : Int) = m1 by omega, show ((m2.natAbs : Nat) : Int) = m2 by omega, plusA, if_neg (by simp [q1, q2])]
      rcases cmpI_range (m1 * ((10 ^ (e1 - min e1 e2).toNat : Nat) : Int)) (m2 * ((10 ^ (e2 - min e1 e2).toNat : Nat) : Int)) with h | h | h <;> (have h : numC m1 e1 m2 e2 = _ := h; rw [h]; simp [sg, q1, q2])
end Go.Gk.Val
end

section
/-
  Numbers compared: the reference, and the program.
-/
namespace Go.Gk.Val
open Go Go.Gk Go.Gk.Num
attribute [local irreducible] gwp gws

def numCmpF (m1 e1 m2 e2 : Int) : Int × Int := if numRight m1 e1 && numRight m2 e2 then (numC m1 e1 m2 e2, 0) else (0, 10)
def NumCmpOk (T : PHeap → Prop) (P : Program) (f : FuncId) : Prop := ∀ {d : PHeap} {m1 e1 m2 e2 : Int}, T d → I64 m1 → I64 e1 → I64 m2 → I64 e2 →
  GPure P f [.agg [.int .i64 m1, .int .i64 e1].toArray, .agg [.int .i64 m2, .int .i64 e2].toArray] d (.tuple #[.int .i64 (numCmpF m1 e1 m2 e2).1, .int .i64 (numCmpF m1 e1 m2 e2).2])
theorem val_at {C : List Nat} {i : Nat} (hi : i < C.length) (h : C[i] ≠ 0) : val C ≠ 0 := by
  have := val_pos ⟨C[i], List.getElem_mem hi, h⟩; omega
def g_thimbleref01_Cmp (f_thimbleref01_Right f_thimbleref01_long f_thimbleref01_plus : Nat) : GFun :=
 ⟨50, [(.tmp 4), (.tmp 5)],
 (.seq
 (.reg false (.op false ⟨(some 2), none, (.box (.tmp 0))⟩
  (.op false ⟨(some 3), none, (.box (.tmp 1))⟩
  (.op false ⟨(some 4), none, (.mv (.const (.int .i64 0)))⟩
  (.op false ⟨(some 5), none, (.mv (.const (.int .i64 0)))⟩ .done)))))
 (.seq (.seq
 (.reg false (.op false ⟨(some 9), none, (.ld (some 2) (.tmp 2))⟩
  (.op false ⟨(some 10), none, (.call f_thimbleref01_Right [(.tmp 9)])⟩
  (.op false ⟨(some 11), none, (.un .not (.tmp 10))⟩
  (.op false ⟨(some 12), none, (.mv (.tmp 11))⟩
  (.op false ⟨(some 13), (some (12, false)), (.ld (some 2) (.tmp 3))⟩
  (.op false ⟨(some 14), (some (12, false)), (.call f_thimbleref01_Right [(.tmp 13)])⟩
  (.op false ⟨(some 15), (some (12, false)), (.un .not (.tmp 14))⟩
  (.op false ⟨(some 16), none, (.pick (.tmp 12) (.const (.bool true)) (.tmp 15))⟩ .done))))))))) (.cond (.tmp 16)
 (.seq
 (.reg false (.op false ⟨(some 4), none, (.mv (.const (.int .i64 0)))⟩
  (.op false ⟨(some 5), none, (.mv (.const (.int .i64 10)))⟩ .done))) .ret) .skip))
 (.seq
 (.reg false (.op false ⟨(some 17), none, (.ld (some 2) (.tmp 3))⟩
  (.op false ⟨(some 18), none, (.call f_thimbleref01_long [(.tmp 17)])⟩
  (.op false ⟨(some 6), none, (.alo (.agg #[(.bool false), (.slice none 0 0), (.int .i64 0)]))⟩
  (.op false ⟨none, none, (.st 3 (.tmp 6) (.tmp 18))⟩ .done)))))
 (.seq
 (.reg false (.op false ⟨(some 19), none, (.fld 0 (.tmp 6))⟩
  (.op false ⟨(some 20), none, (.ld none (.tmp 19))⟩
  (.op false ⟨(some 21), none, (.un .not (.tmp 20))⟩
  (.op false ⟨(some 22), none, (.fld 0 (.tmp 6))⟩
  (.op false ⟨none, none, (.st 1 (.tmp 22) (.tmp 21))⟩ .done))))))
 (.seq
 (.reg true (.op true ⟨(some 23), none, (.ld (some 2) (.tmp 2))⟩
  (.op true ⟨(some 25), none, (.ld (some 3) (.tmp 6))⟩ (.par (.op false ⟨(some 24), none, (.call f_thimbleref01_long [(.tmp 23)])⟩
  (.op false ⟨(some 26), none, (.call f_thimbleref01_plus [(.tmp 24), (.tmp 25)])⟩ .done)) (.op false ⟨(some 7), none, (.alo (.agg #[(.bool false), (.slice none 0 0), (.int .i64 0)]))⟩ .done) (.bar (.op false ⟨none, none, (.st 3 (.tmp 7) (.tmp 26))⟩ .done))))))
 (.seq (.seq
 (.reg false (.op false ⟨(some 8), none, (.mv (.const (.int .i64 0)))⟩ .done)) (.block 0 (.loop
 (.seq (.seq
 (.reg false (.op false ⟨(some 27), none, (.mv (.tmp 8))⟩
  (.op false ⟨(some 28), none, (.fld 1 (.tmp 7))⟩
  (.op false ⟨(some 29), none, (.ld none (.tmp 28))⟩
  (.op false ⟨(some 30), none, (.len (.tmp 29))⟩
  (.op false ⟨(some 31), none, (.bin .lss (.tmp 27) (.tmp 30))⟩ .done)))))) (.cond (.tmp 31) .skip (.exit 0)))
 (.seq (.block 1
 (.seq (.seq
 (.reg false (.op false ⟨(some 34), none, (.fld 1 (.tmp 7))⟩
  (.op false ⟨(some 35), none, (.ld none (.tmp 34))⟩
  (.op false ⟨(some 36), none, (.mv (.tmp 8))⟩
  (.op false ⟨(some 37), none, (.idx 1 (.tmp 35) (.tmp 36))⟩
  (.op false ⟨(some 38), none, (.ld none (.tmp 37))⟩
  (.op false ⟨(some 39), none, (.bin .neq (.tmp 38) (.const (.int .i64 0)))⟩
  (.op false ⟨(some 40), none, (.mv (.tmp 39))⟩
  (.op false ⟨(some 41), (some (40, true)), (.fld 0 (.tmp 7))⟩
  (.op false ⟨(some 42), (some (40, true)), (.ld none (.tmp 41))⟩
  (.op false ⟨(some 43), none, (.pick (.tmp 40) (.tmp 42) (.const (.bool false)))⟩ .done))))))))))) (.cond (.tmp 43)
 (.seq
 (.reg false (.op false ⟨(some 4), none, (.mv (.const (.int .i64 (-1))))⟩
  (.op false ⟨(some 5), none, (.mv (.const (.int .i64 0)))⟩ .done))) .ret) .skip))
 (.seq
 (.reg false (.op false ⟨(some 44), none, (.fld 1 (.tmp 7))⟩
  (.op false ⟨(some 45), none, (.ld none (.tmp 44))⟩
  (.op false ⟨(some 46), none, (.mv (.tmp 8))⟩
  (.op false ⟨(some 47), none, (.idx 1 (.tmp 45) (.tmp 46))⟩
  (.op false ⟨(some 48), none, (.ld none (.tmp 47))⟩
  (.op false ⟨(some 49), none, (.bin .neq (.tmp 48) (.const (.int .i64 0)))⟩ .done))))))) (.cond (.tmp 49)
 (.seq
 (.reg false (.op false ⟨(some 4), none, (.mv (.const (.int .i64 1)))⟩
  (.op false ⟨(some 5), none, (.mv (.const (.int .i64 0)))⟩ .done))) .ret) .skip))))
 (.reg false (.op false ⟨(some 32), none, (.mv (.tmp 8))⟩
  (.op false ⟨(some 33), none, (.bin .add (.tmp 32) (.const (.int .i64 1)))⟩
  (.op false ⟨(some 8), none, (.mv (.tmp 33))⟩ .done)))))))))
 (.seq
 (.reg false (.op false ⟨(some 4), none, (.mv (.const (.int .i64 0)))⟩
  (.op false ⟨(some 5), none, (.mv (.const (.int .i64 0)))⟩ .done))) .ret)))))))⟩

set_option maxHeartbeats 1000000 in
theorem rcmp_ok {T : PHeap → Prop} {P : Program} {f f1 f2 f3 : FuncId} (hd : decp P f = some (g_thimbleref01_Cmp f1 f2 f3)) (h1 : NumOk T P f1) (h2 : LongOk P f2) (h3 : PlusOk P f3) : NumCmpOk T P f := by
  intro d m1 e1 m2 e2 ht i1 i2 i3 i4
  refine GPure.of' hd (Nat.le_of_ble_eq_true rfl) ?_
  show gwp P _ _ _ _ _
  apply w_sq; apply w_reg
  refine w_boxa (l := [.int .i64 m1, .int .i64 e1]) rfl (fun t2 T2 => ?_)
  refine w_boxa (l := [.int .i64 m2, .int .i64 e2]) rfl (fun t3 T3 => ?_)
  cases r1 : numRight m1 e1 with
  | false =>
    rw [numCmpF, r1]
    (apply w_mvi; rfl; apply w_mvi; rfl; apply w_done0; apply w_sq; apply w_sq; apply w_reg; apply w_ldb 1; rfl; rfl; rfl)
    refine w_pure rfl (h1 ht i1 i2) ?_
    rw [r1]
    (apply w_not; rfl; apply w_mvb; rfl; apply w_gF; rfl; apply w_gF; rfl; apply w_gF; rfl; apply w_pickTb; rfl; rfl; apply w_done0; apply w_ifT; rfl; apply w_sq; apply w_reg; apply w_mvi; rfl; apply w_mvi; rfl; apply w_done0; apply w_ret)
    exact finQ2 rfl rfl
  | true =>
    cases r2 : numRight m2 e2 with
    | false =>
      rw [numCmpF, r1, r2]
      (apply w_mvi; rfl; apply w_mvi; rfl; apply w_done0; apply w_sq; apply w_sq; apply w_reg; apply w_ldb 1; rfl; rfl; rfl)
      refine w_pure rfl (h1 ht i1 i2) ?_
      rw [r1]
      (apply w_not; rfl; apply w_mvb; rfl; apply w_gT; rfl; apply w_ldb 0; rfl; rfl; rfl; apply w_gT; rfl)
      refine w_pure rfl (h1 ht i3 i4) ?_
      rw [r2]
      (apply w_gT; rfl; apply w_not; rfl; apply w_pickFb; rfl; rfl; apply w_done0; apply w_ifT; rfl; apply w_sq; apply w_reg; apply w_mvi; rfl; apply w_mvi; rfl; apply w_done0; apply w_ret)
      exact finQ2 rfl rfl
    | true =>
      have b1 := numR0 r1
      have b2 := numR0 r2
      rw [numCmpF, r1, r2]
      (apply w_mvi; rfl; apply w_mvi; rfl; apply w_done0; apply w_sq; apply w_sq; apply w_reg; apply w_ldb 1; rfl; rfl; rfl)
      refine w_pure rfl (h1 ht i1 i2) ?_
      rw [r1]
      (apply w_not; rfl; apply w_mvb; rfl; apply w_gT; rfl; apply w_ldb 0; rfl; rfl; rfl; apply w_gT; rfl)
      refine w_pure rfl (h1 ht i3 i4) ?_
      rw [r2]
      (apply w_gT; rfl; apply w_not; rfl; apply w_pickFb; rfl; rfl; apply w_done0; apply w_ifF; rfl; apply w_skip; apply w_sq; apply w_reg; apply w_ldb 0; rfl; rfl; rfl)
      refine w_call0 rfl (h2 i3 i4) (fun r d2 L2 hl2 ⟨hL, dv, hr, hdv⟩ => ?_)
      subst hL; subst hr
      obtain ⟨ba, bc, hx⟩ := RSl.val hdv
      rw [ints_len] at hx
      subst hx
      (apply w_alo; intro _ _)
      rename_i t6 T6
      refine w_stE 0 [.bool (decide (m2 < 0)), .slice ba (digN m2.natAbs).length bc, .int .i64 e2] rfl rfl rfl rfl (Nat.le_of_ble_eq_true rfl) rfl rfl ?_
      (apply w_done0; apply w_sq; apply w_reg; apply w_fld; rfl; apply w_ld; rfl; exact hc_i 0 rfl rfl; apply w_not; rfl; apply w_fld; rfl)
      refine w_stE 0 [.bool (!decide (m2 < 0)), .slice ba (digN m2.natAbs).length bc, .int .i64 e2] rfl rfl rfl rfl (Nat.le_of_ble_eq_true rfl) rfl rfl ?_
      (apply w_done0; apply w_sq)
      refine w_drawn ?_
      (apply w_ldb 2; rfl; rfl; rfl; apply w_ldb 0; rfl; rfl; rfl)
      refine w_par (α := Bool × Option Addr × Nat × List Nat × Int) (β := Nat × TypeId) [(4, .int .i64 0), (5, .int .i64 0)] (fun x => [(26, .agg [.bool x.1, .slice x.2.1 x.2.2.2.1.length x.2.2.1, .int .i64 x.2.2.2.2].toArray)])
        (fun x d L => L = [] ∧ RInts d (.slice x.2.1 x.2.2.2.1.length x.2.2.1) (ints x.2.2.2.1) ∧ x.2.2.2.1.length ≤ 2000 ∧ ansF x.1 x.2.2.2.1 = numC m1 e1 m2 e2)
        (fun y => [(7, .pointer (some ⟨y.1, 0, none⟩))]) (fun y d L => L = [bx y.1 y.2 [.bool false, .slice none 0 0, .int .i64 0]]) [] [] rfl
        (fun x d d' M hl h => ⟨h.1, RSl.mono (R := RInt) mono_int h.2.1 hl, h.2.2⟩) (fun y d d' M hl h => h) (fun x => rfl) (fun y => rfl) rfl ⟨rfl, rfl, trivial⟩ ?_ ?_ ?_
      · refine w_call0 rfl (h2 i1 i2) (fun r d3 L3 hl3 ⟨hL, dv, hr, hdv3⟩ => ?_)
        subst hL; subst hr
        have l1 := (digN_len m1.natAbs 18).2 (by rw [show (10 : Nat) ^ 18 = 1000000000000000000 by decide]; omega)
        have l2 := (digN_len m2.natAbs 18).2 (by rw [show (10 : Nat) ^ 18 = 1000000000000000000 by decide]; omega)
        refine w_call0 rfl (h3 hdv3 (RSl.mono (R := RInt) mono_int hdv hl3) (by omega) (by omega) (digN_lt _) (digN_lt _) (by omega) (by omega) (by omega) (by omega)) (fun r d4 L4 hl4 ⟨hL, neg, a, c, C, e, hr, rC, hC, hCl, ha⟩ => ?_)
        subst hL; subst hr
        rw [plusA_num] at ha
        refine w_done ?_
        exact ⟨_, rfl, (neg, a, c, C, e), ⟨rfl, trivial⟩, rfl, rC, hCl, ha⟩
      · (apply w_alo; intro _ _; apply w_done)
        exact ⟨_, rfl, (_, _), ⟨rfl, trivial⟩, rfl⟩
      rintro ⟨neg, a, c, C, e⟩ ⟨b7, T7⟩ ρ d3 M1 M2 hl3 ⟨hM1, rC, hCl, ha⟩ hM2
      simp only at hM1 rC hCl ha hM2
      subst hM1; subst hM2
      (apply w_bar)
      refine w_stE 3 [.bool neg, .slice a C.length c, .int .i64 e] rfl rfl rfl rfl (Nat.le_of_ble_eq_true rfl) rfl rfl ?_
      have n1 := ints_len C
      have q1 : RSl 1 RInt d3 (.slice a C.length c) (ints C) := rC
      have n2 : C.length ≤ 2000 := hCl
      (apply w_done0; apply w_sq; apply w_sq; apply w_reg; apply w_mvi; rfl; apply w_done0; apply w_block)
      refine w_loopN (α := Nat) (fun i => [(7, .pointer (some ⟨b7, 0, none⟩)), (8, .int .i64 i)]) (fun _ => [bx t6 T6 [.bool (!decide (m2 < 0)), .slice ba (digN m2.natAbs).length bc, .int .i64 e2], bx t3 T3 [.int .i64 m2, .int .i64 e2], bx t2 T2 [.int .i64 m1, .int .i64 e1], bx b7 T7 [.bool neg, .slice a C.length c, .int .i64 e]])
        (fun i => i ≤ C.length ∧ (∀ j (h : j < C.length), j < i → C[j] = 0)) (fun i => C.length - i) 0 ⟨rfl, rfl, trivial⟩ rfl ⟨Nat.zero_le _, fun j h h' => absurd h' (Nat.not_lt_zero j)⟩ ?_
      rintro i ρ ⟨hi, hz⟩
      by_cases hc : i < C.length
      · have e1 := ints_at C (i := i) (by omega)
        by_cases h0 : (ints C)[i]'(by omega) = 0
        · (apply w_sq; apply w_sq; apply w_reg; apply w_mvi; rfl; apply w_fld; rfl; apply w_ld; rfl; exact hc_i 3 rfl rfl; apply w_len; rfl; apply w_lss; rfl; rfl; apply w_done0; refine w_ifdT rfl (by omega) ?_; apply w_skip; apply w_sq; apply w_block; apply w_sq; apply w_sq; apply w_reg; apply w_fld; rfl; apply w_ld; rfl; exact hc_i 3 rfl rfl; apply w_mvi; rfl; refine w_idxR (sz := 1) (R := RInt) (by rfl) (by assumption) (by rfl) rfl (by omega) ?_; rintro _ _ _ _ _ ⟨rfl, _, _⟩; apply w_ld; rfl; exact hc_ds0 (by assumption) rfl; apply w_neq; rfl; rfl; apply w_mvb; rfl; refine w_gdF rfl (by omega) ?_; apply w_gF; rfl; apply w_gF; rfl; apply w_pickFb; rfl; rfl; apply w_done0; apply w_ifF; rfl; apply w_skip; apply w_sq; apply w_reg; apply w_fld; rfl; apply w_ld; rfl; exact hc_i 3 rfl rfl; apply w_mvi; rfl; refine w_idxR (sz := 1) (R := RInt) (by rfl) (by assumption) (by rfl) rfl (by omega) ?_; rintro _ _ _ _ _ ⟨rfl, _, _⟩; apply w_ld; rfl; exact hc_ds0 (by assumption) rfl; apply w_neq; rfl; rfl; apply w_done0; refine w_ifdF rfl (by omega) ?_; apply w_skip; apply w_reg; apply w_mvi; rfl; apply w_add; rfl; rfl; omega; omega; apply w_mvi; rfl; apply w_done0)
          exact ⟨i + 1, by omega, ⟨rfl, int_eq (by omega), trivial⟩, rfl, rfl, hc, fun j h h' => if q : j = i then (by subst q; omega) else hz j h (by omega)⟩
        · have hv := val_at hc (by omega)
          cases neg with
          | true =>
            rw [ansF, if_neg hv, if_pos rfl] at ha
            (apply w_sq; apply w_sq; apply w_reg; apply w_mvi; rfl; apply w_fld; rfl; apply w_ld; rfl; exact hc_i 3 rfl rfl; apply w_len; rfl; apply w_lss; rfl; rfl; apply w_done0; refine w_ifdT rfl (by omega) ?_; apply w_skip; apply w_sq; apply w_block; apply w_sq; apply w_sq; apply w_reg; apply w_fld; rfl; apply w_ld; rfl; exact hc_i 3 rfl rfl; apply w_mvi; rfl; refine w_idxR (sz := 1) (R := RInt) (by rfl) (by assumption) (by rfl) rfl (by omega) ?_; rintro _ _ _ _ _ ⟨rfl, _, _⟩; apply w_ld; rfl; exact hc_ds0 (by assumption) rfl; apply w_neq; rfl; rfl; apply w_mvb; rfl; refine w_gdT rfl (by omega) ?_; apply w_gT; rfl; apply w_fld; rfl; apply w_gT; rfl; apply w_ld; rfl; exact hc_i 3 rfl rfl; apply w_pickTb; rfl; rfl; apply w_done0; apply w_ifT; rfl; apply w_sq; apply w_reg; apply w_mvi; rfl; apply w_mvi; rfl; apply w_done0; apply w_ret)
            refine finQ2 (int_eq ?_) rfl
            exact ha
          | false =>
            rw [ansF, if_neg hv, if_neg (by decide)] at ha
            (apply w_sq; apply w_sq; apply w_reg; apply w_mvi; rfl; apply w_fld; rfl; apply w_ld; rfl; exact hc_i 3 rfl rfl; apply w_len; rfl; apply w_lss; rfl; rfl; apply w_done0; refine w_ifdT rfl (by omega) ?_; apply w_skip; apply w_sq; apply w_block; apply w_sq; apply w_sq; apply w_reg; apply w_fld; rfl; apply w_ld; rfl; exact hc_i 3 rfl rfl; apply w_mvi; rfl; refine w_idxR (sz := 1) (R := RInt) (by rfl) (by assumption) (by rfl) rfl (by omega) ?_; rintro _ _ _ _ _ ⟨rfl, _, _⟩; apply w_ld; rfl; exact hc_ds0 (by assumption) rfl; apply w_neq; rfl; rfl; apply w_mvb; rfl; refine w_gdT rfl (by omega) ?_; apply w_gT; rfl; apply w_fld; rfl; apply w_gT; rfl; apply w_ld; rfl; exact hc_i 3 rfl rfl; apply w_pickTb; rfl; rfl; apply w_done0; apply w_ifF; rfl; apply w_skip; apply w_sq; apply w_reg; apply w_fld; rfl; apply w_ld; rfl; exact hc_i 3 rfl rfl; apply w_mvi; rfl; refine w_idxR (sz := 1) (R := RInt) (by rfl) (by assumption) (by rfl) rfl (by omega) ?_; rintro _ _ _ _ _ ⟨rfl, _, _⟩; apply w_ld; rfl; exact hc_ds0 (by assumption) rfl; apply w_neq; rfl; rfl; apply w_done0; refine w_ifdT rfl (by omega) ?_; apply w_sq; apply w_reg; apply w_mvi; rfl; apply w_mvi; rfl; apply w_done0; apply w_ret)
            refine finQ2 (int_eq ?_) rfl
            exact ha
      obtain rfl : i = C.length := by omega
      have hv : val C = 0 := val_zero_iff.2 fun x hx => by
        obtain ⟨j, hj, rfl⟩ := List.getElem_of_mem hx
        exact hz j hj hj
      rw [ansF, if_pos hv] at ha
      (apply w_sq; apply w_sq; apply w_reg; apply w_mvi; rfl; apply w_fld; rfl; apply w_ld; rfl; exact hc_i 3 rfl rfl; apply w_len; rfl; apply w_lss; rfl; rfl; apply w_done0; refine w_ifdF rfl (by omega) ?_; apply w_exit; apply w_sq; apply w_reg; apply w_mvi; rfl; apply w_mvi; rfl; apply w_done0; apply w_ret)
      refine finQ2 (int_eq ?_) rfl
      exact ha
end Go.Gk.Val
end

section
/-
  Numbers compared: the program.
-/
namespace Go.Gk.Val
open Go Go.Gk Go.Gk.Num
attribute [local irreducible] gwp gws

theorem sgn_i (m : Int) : sgn m = -1 ∨ sgn m = 0 ∨ sgn m = 1 := by
  rcases Int.lt_trichotomy m 0 with h | h | h
  · exact .inl (sgn_neg h)
  · subst h; exact .inr (.inl rfl)
  · exact .inr (.inr (sgn_pos h))
theorem cmpB_i : ∀ a b : List UInt8, Lib.compareBytes a b = -1 ∨ Lib.compareBytes a b = 0 ∨ Lib.compareBytes a b = 1
  | [], [] => .inr (.inl rfl)
  | [], _ :: _ => .inl rfl
  | _ :: _, [] => .inr (.inr rfl)
  | a :: l, b :: m => by
    simp only [Lib.compareBytes]
    by_cases h1 : a < b
    · rw [if_pos h1]; exact .inl rfl
    · rw [if_neg h1]
      by_cases h2 : b < a
      · rw [if_pos h2]; exact .inr (.inr rfl)
      · rw [if_neg h2]; exact cmpB_i l m
section
variable {P : Program} {pan : List PanicEntry → Post} {Qn : Env → Post} {Ls L : List PHeap} {ρ : Env} {d : PHeap} {s : GS} {t : Nat} {tk : Bool}
theorem w_mul1 {x y : Operand} {a b : Int} (ex : ev ρ x = .int .i64 a) (ey : ev ρ y = .int .i64 b) (ha : a = -1 ∨ a = 0 ∨ a = 1) (hb : b = -1 ∨ b = 0 ∨ b = 1) (h : gws P pan Qn s Ls (upd ρ t (.int .i64 (a * b))) d L) :
    gws P pan Qn (.op tk ⟨some t, none, .bin .mul x y⟩ s) Ls ρ d L := by
  refine w_bin ?_ h
  rw [ex, ey]
  simp only [binV]
  rcases ha with rfl | rfl | rfl <;> rcases hb with rfl | rfl | rfl <;> rfl
end
def g_num_Cmp (f_num_Right f_num_sign f_num_compare f_num_size f_strconv_FormatUint f_strings_Compare : Nat) : GFun :=
 ⟨63, [(.tmp 4), (.tmp 5)],
 (.seq
 (.reg false (.op false ⟨(some 2), none, (.box (.tmp 0))⟩
  (.op false ⟨(some 3), none, (.box (.tmp 1))⟩
  (.op false ⟨(some 4), none, (.mv (.const (.int .i64 0)))⟩
  (.op false ⟨(some 5), none, (.mv (.const (.int .i64 0)))⟩ .done)))))
 (.seq (.seq
 (.reg false (.op false ⟨(some 10), none, (.ld (some 2) (.tmp 2))⟩
  (.op false ⟨(some 11), none, (.call f_num_Right [(.tmp 10)])⟩
  (.op false ⟨(some 12), none, (.un .not (.tmp 11))⟩
  (.op false ⟨(some 13), none, (.mv (.tmp 12))⟩
  (.op false ⟨(some 14), (some (13, false)), (.ld (some 2) (.tmp 3))⟩
  (.op false ⟨(some 15), (some (13, false)), (.call f_num_Right [(.tmp 14)])⟩
  (.op false ⟨(some 16), (some (13, false)), (.un .not (.tmp 15))⟩
  (.op false ⟨(some 17), none, (.pick (.tmp 13) (.const (.bool true)) (.tmp 16))⟩ .done))))))))) (.cond (.tmp 17)
 (.seq
 (.reg false (.op false ⟨(some 4), none, (.mv (.const (.int .i64 0)))⟩
  (.op false ⟨(some 5), none, (.mv (.const (.int .i64 10)))⟩ .done))) .ret) .skip))
 (.seq
 (.reg true (.op true ⟨(some 18), none, (.ld (some 2) (.tmp 2))⟩
  (.op true ⟨(some 20), none, (.ld (some 2) (.tmp 3))⟩
  (.op false ⟨(some 19), none, (.call f_num_sign [(.tmp 18)])⟩
  (.op false ⟨(some 21), none, (.call f_num_sign [(.tmp 20)])⟩
  (.op true ⟨(some 6), none, (.mv (.tmp 19))⟩
  (.op true ⟨(some 7), none, (.mv (.tmp 21))⟩ .done)))))))
 (.seq (.seq
 (.reg false (.op false ⟨(some 22), none, (.mv (.tmp 6))⟩
  (.op false ⟨(some 23), none, (.mv (.tmp 7))⟩
  (.op false ⟨(some 24), none, (.bin .neq (.tmp 22) (.tmp 23))⟩
  (.op false ⟨(some 25), none, (.mv (.tmp 24))⟩
  (.op false ⟨(some 26), (some (25, false)), (.mv (.tmp 6))⟩
  (.op false ⟨(some 27), (some (25, false)), (.bin .eql (.tmp 26) (.const (.int .i64 0)))⟩
  (.op false ⟨(some 28), none, (.pick (.tmp 25) (.const (.bool true)) (.tmp 27))⟩ .done)))))))) (.cond (.tmp 28)
 (.seq
 (.reg false (.op false ⟨(some 29), none, (.mv (.tmp 6))⟩
  (.op false ⟨(some 30), none, (.mv (.tmp 7))⟩
  (.op false ⟨(some 31), none, (.call f_num_compare [(.tmp 29), (.tmp 30)])⟩
  (.op false ⟨(some 4), none, (.mv (.tmp 31))⟩
  (.op false ⟨(some 5), none, (.mv (.const (.int .i64 0)))⟩ .done)))))) .ret) .skip))
 (.seq
 (.reg true (.op true ⟨(some 32), none, (.ld (some 2) (.tmp 2))⟩
  (.op true ⟨(some 36), none, (.fld 1 (.tmp 2))⟩
  (.op true ⟨(some 37), none, (.ld none (.tmp 36))⟩
  (.op true ⟨(some 39), none, (.ld (some 2) (.tmp 3))⟩
  (.op true ⟨(some 43), none, (.fld 1 (.tmp 3))⟩
  (.op true ⟨(some 44), none, (.ld none (.tmp 43))⟩
  (.op false ⟨(some 33), none, (.call f_num_size [(.tmp 32)])⟩
  (.op false ⟨(some 34), none, (.call f_strconv_FormatUint [(.tmp 33), (.const (.int .i64 10))])⟩
  (.op true ⟨(some 35), none, (.lens (.tmp 34))⟩
  (.op true ⟨(some 38), none, (.bin .add (.tmp 35) (.tmp 37))⟩
  (.op false ⟨(some 40), none, (.call f_num_size [(.tmp 39)])⟩
  (.op false ⟨(some 41), none, (.call f_strconv_FormatUint [(.tmp 40), (.const (.int .i64 10))])⟩
  (.op true ⟨(some 42), none, (.lens (.tmp 41))⟩
  (.op true ⟨(some 45), none, (.bin .add (.tmp 42) (.tmp 44))⟩
  (.op true ⟨(some 8), none, (.mv (.tmp 38))⟩
  (.op true ⟨(some 9), none, (.mv (.tmp 45))⟩ .done)))))))))))))))))
 (.seq (.seq
 (.reg false (.op false ⟨(some 46), none, (.mv (.tmp 8))⟩
  (.op false ⟨(some 47), none, (.mv (.tmp 9))⟩
  (.op false ⟨(some 48), none, (.bin .neq (.tmp 46) (.tmp 47))⟩ .done)))) (.cond (.tmp 48)
 (.seq
 (.reg false (.op false ⟨(some 49), none, (.mv (.tmp 6))⟩
  (.op false ⟨(some 50), none, (.mv (.tmp 8))⟩
  (.op false ⟨(some 51), none, (.mv (.tmp 9))⟩
  (.op false ⟨(some 52), none, (.call f_num_compare [(.tmp 50), (.tmp 51)])⟩
  (.op false ⟨(some 53), none, (.bin .mul (.tmp 49) (.tmp 52))⟩
  (.op false ⟨(some 4), none, (.mv (.tmp 53))⟩
  (.op false ⟨(some 5), none, (.mv (.const (.int .i64 0)))⟩ .done)))))))) .ret) .skip))
 (.seq
 (.reg true (.op true ⟨(some 54), none, (.mv (.tmp 6))⟩
  (.op true ⟨(some 55), none, (.ld (some 2) (.tmp 2))⟩
  (.op true ⟨(some 58), none, (.ld (some 2) (.tmp 3))⟩
  (.op false ⟨(some 56), none, (.call f_num_size [(.tmp 55)])⟩
  (.op false ⟨(some 57), none, (.call f_strconv_FormatUint [(.tmp 56), (.const (.int .i64 10))])⟩
  (.op false ⟨(some 59), none, (.call f_num_size [(.tmp 58)])⟩
  (.op false ⟨(some 60), none, (.call f_strconv_FormatUint [(.tmp 59), (.const (.int .i64 10))])⟩
  (.op false ⟨(some 61), none, (.call f_strings_Compare [(.tmp 57), (.tmp 60)])⟩
  (.op true ⟨(some 62), none, (.bin .mul (.tmp 54) (.tmp 61))⟩
  (.bar (.op true ⟨(some 4), none, (.mv (.tmp 62))⟩
  (.op true ⟨(some 5), none, (.mv (.const (.int .i64 0)))⟩ .done))))))))))))) .ret)))))))⟩

set_option maxHeartbeats 1000000 in
theorem ncmp_ok {T : PHeap → Prop} {P : Program} {f f1 f2 f3 f4 f5 f6 : FuncId} (hd : dec P f = some (g_num_Cmp f1 f2 f3 f4 f5 f6)) (h1 : NumOk T P f1) (h2 : SignOk P f2) (h3 : CmpIOk P f3) (h4 : SizeOk P f4) (h5 : FmtUOk T P f5) (h6 : CmpSOk P f6) : NumCmpOk T P f := by
  intro d m1 e1 m2 e2 ht i1 i2 i3 i4
  refine GPure.of' hd (Nat.le_of_ble_eq_true rfl) ?_
  show gwp P _ _ _ _ _
  apply w_sq; apply w_reg
  refine w_boxa (l := [.int .i64 m1, .int .i64 e1]) rfl (fun t2 T2 => ?_)
  refine w_boxa (l := [.int .i64 m2, .int .i64 e2]) rfl (fun t3 T3 => ?_)
  cases r1 : numRight m1 e1 with
  | false =>
    rw [numCmpF, r1]
    (apply w_mvi; rfl; apply w_mvi; rfl; apply w_done0; apply w_sq; apply w_sq; apply w_reg; apply w_ldb 1; rfl; rfl; rfl)
    refine w_pure rfl (h1 ht i1 i2) ?_
    rw [r1]
    (apply w_not; rfl; apply w_mvb; rfl; apply w_gF; rfl; apply w_gF; rfl; apply w_gF; rfl; apply w_pickTb; rfl; rfl; apply w_done0; apply w_ifT; rfl; apply w_sq; apply w_reg; apply w_mvi; rfl; apply w_mvi; rfl; apply w_done0; apply w_ret)
    exact finQ2 rfl rfl
  | true =>
    cases r2 : numRight m2 e2 with
    | false =>
      rw [numCmpF, r1, r2]
      (apply w_mvi; rfl; apply w_mvi; rfl; apply w_done0; apply w_sq; apply w_sq; apply w_reg; apply w_ldb 1; rfl; rfl; rfl)
      refine w_pure rfl (h1 ht i1 i2) ?_
      rw [r1]
      (apply w_not; rfl; apply w_mvb; rfl; apply w_gT; rfl; apply w_ldb 0; rfl; rfl; rfl; apply w_gT; rfl)
      refine w_pure rfl (h1 ht i3 i4) ?_
      rw [r2]
      (apply w_gT; rfl; apply w_not; rfl; apply w_pickFb; rfl; rfl; apply w_done0; apply w_ifT; rfl; apply w_sq; apply w_reg; apply w_mvi; rfl; apply w_mvi; rfl; apply w_done0; apply w_ret)
      exact finQ2 rfl rfl
    | true =>
      have b1 := numR0 r1
      have b2 := numR0 r2
      have hpl := @numC_place m1 e1 m2 e2 r1 r2
      have hsg := @numC_sgn m1 e1 m2 e2
      have u1 : m1.natAbs < 18446744073709551616 := by omega
      have u2 : m2.natAbs < 18446744073709551616 := by omega
      have l1 := Lib.decDigits_length m1.natAbs
      have l2 := Lib.decDigits_length m2.natAbs
      have k1 := Lib.nDigits_le20 m1.natAbs u1
      have k2 := Lib.nDigits_le20 m2.natAbs u2
      rw [numCmpF, r1, r2]
      (apply w_mvi; rfl; apply w_mvi; rfl; apply w_done0; apply w_sq; apply w_sq; apply w_reg; apply w_ldb 1; rfl; rfl; rfl)
      refine w_pure rfl (h1 ht i1 i2) ?_
      rw [r1]
      (apply w_not; rfl; apply w_mvb; rfl; apply w_gT; rfl; apply w_ldb 0; rfl; rfl; rfl; apply w_gT; rfl)
      refine w_pure rfl (h1 ht i3 i4) ?_
      rw [r2]
      (apply w_gT; rfl; apply w_not; rfl; apply w_pickFb; rfl; rfl; apply w_done0; apply w_ifF; rfl; apply w_skip; apply w_sq; apply w_drawn; apply w_ldb 1; rfl; rfl; rfl; apply w_ldb 0; rfl; rfl; rfl)
      refine w_pure rfl h2 ?_
      refine w_pure rfl h2 ?_
      have hfin : ∀ {x : Int}, x = numC m1 e1 m2 e2 → Value.int .i64 x = .int .i64 (if (true && true) = true then (numC m1 e1 m2 e2, (0 : Int)) else (0, 10)).1 := fun h => by rw [h]; rfl
      by_cases hs : sgn m1 = sgn m2
      · by_cases h0 : sgn m1 = 0
        · (apply w_mvi; rfl; apply w_mvi; rfl; apply w_done; apply w_sq; apply w_sq; apply w_reg; apply w_mvi; rfl; apply w_mvi; rfl; apply w_neq; rfl; rfl; apply w_mvb; rfl; refine w_gdF rfl (by omega) ?_; apply w_gT; rfl; apply w_mvi; rfl; apply w_gT; rfl; apply w_eql; rfl; rfl; apply w_pickFb; rfl; rfl; apply w_done0; refine w_ifdT rfl (by omega) ?_; apply w_sq; apply w_reg; apply w_mvi; rfl; apply w_mvi; rfl)
          refine w_pure rfl h3 ?_
          (apply w_mvi; rfl; apply w_mvi; rfl; apply w_done0; apply w_ret)
          exact finQ2 (hfin (hsg (.inr h0)).symm) rfl
        · have hpl := hpl hs h0
          by_cases hp : ((Lib.decDigits m1.natAbs).length : Int) + e1 = (Lib.decDigits m2.natAbs).length + e2
          · rw [if_neg (by omega)] at hpl
            have q1 := sgn_i m1
            have q2 := cmpB_i (Lib.decDigits m1.natAbs) (Lib.decDigits m2.natAbs)
            (apply w_mvi; rfl; apply w_mvi; rfl; apply w_done; apply w_sq; apply w_sq; apply w_reg; apply w_mvi; rfl; apply w_mvi; rfl; apply w_neq; rfl; rfl; apply w_mvb; rfl; refine w_gdF rfl (by omega) ?_; apply w_gT; rfl; apply w_mvi; rfl; apply w_gT; rfl; apply w_eql; rfl; rfl; apply w_pickFb; rfl; rfl; apply w_done0; refine w_ifdF rfl (by omega) ?_; apply w_skip; apply w_sq; apply w_drawn; apply w_ldb 1; rfl; rfl; rfl; apply w_fld; rfl; apply w_ld; rfl; exact hc_i 1 rfl rfl; apply w_ldb 0; rfl; rfl; rfl; apply w_fld; rfl; apply w_ld; rfl; exact hc_i 0 rfl rfl)
            refine w_pure rfl (h4 i1) ?_
            refine w_pure rfl (h5 ht u1) ?_
            (apply w_lens; rfl; apply w_add; rfl; rfl; omega; omega)
            refine w_pure rfl (h4 i3) ?_
            refine w_pure rfl (h5 ht u2) ?_
            (apply w_lens; rfl; apply w_add; rfl; rfl; omega; omega; apply w_mvi; rfl; apply w_mvi; rfl; apply w_done; apply w_sq; apply w_sq; apply w_reg; apply w_mvi; rfl; apply w_mvi; rfl; apply w_neq; rfl; rfl; apply w_done0; refine w_ifdF rfl (by omega) ?_; apply w_skip; apply w_sq; apply w_drawn; apply w_mvi; rfl; apply w_ldb 1; rfl; rfl; rfl; apply w_ldb 0; rfl; rfl; rfl)
            refine w_pure rfl (h4 i1) ?_
            refine w_pure rfl (h5 ht u1) ?_
            refine w_pure rfl (h4 i3) ?_
            refine w_pure rfl (h5 ht u2) ?_
            refine w_pure rfl h6 ?_
            refine w_mul1 rfl rfl q1 q2 ?_
            (apply w_bar; apply w_mvi; rfl; apply w_mvi; rfl; apply w_done0; apply w_ret)
            exact finQ2 (hfin hpl.symm) rfl
          · rw [if_pos (by omega)] at hpl
            have q1 := sgn_i m1
            have q2 := cmpI_range ((Lib.decDigits m1.natAbs).length + e1) ((Lib.decDigits m2.natAbs).length + e2)
            (apply w_mvi; rfl; apply w_mvi; rfl; apply w_done; apply w_sq; apply w_sq; apply w_reg; apply w_mvi; rfl; apply w_mvi; rfl; apply w_neq; rfl; rfl; apply w_mvb; rfl; refine w_gdF rfl (by omega) ?_; apply w_gT; rfl; apply w_mvi; rfl; apply w_gT; rfl; apply w_eql; rfl; rfl; apply w_pickFb; rfl; rfl; apply w_done0; refine w_ifdF rfl (by omega) ?_; apply w_skip; apply w_sq; apply w_drawn; apply w_ldb 1; rfl; rfl; rfl; apply w_fld; rfl; apply w_ld; rfl; exact hc_i 1 rfl rfl; apply w_ldb 0; rfl; rfl; rfl; apply w_fld; rfl; apply w_ld; rfl; exact hc_i 0 rfl rfl)
            refine w_pure rfl (h4 i1) ?_
            refine w_pure rfl (h5 ht u1) ?_
            (apply w_lens; rfl; apply w_add; rfl; rfl; omega; omega)
            refine w_pure rfl (h4 i3) ?_
            refine w_pure rfl (h5 ht u2) ?_
            (apply w_lens; rfl; apply w_add; rfl; rfl; omega; omega; apply w_mvi; rfl; apply w_mvi; rfl; apply w_done; apply w_sq; apply w_sq; apply w_reg; apply w_mvi; rfl; apply w_mvi; rfl; apply w_neq; rfl; rfl; apply w_done0; refine w_ifdT rfl (by omega) ?_; apply w_sq; apply w_reg; apply w_mvi; rfl; apply w_mvi; rfl; apply w_mvi; rfl)
            refine w_pure rfl h3 ?_
            refine w_mul1 rfl rfl q1 q2 ?_
            (apply w_mvi; rfl; apply w_mvi; rfl; apply w_done0; apply w_ret)
            exact finQ2 (hfin hpl.symm) rfl
      · (apply w_mvi; rfl; apply w_mvi; rfl; apply w_done; apply w_sq; apply w_sq; apply w_reg; apply w_mvi; rfl; apply w_mvi; rfl; apply w_neq; rfl; rfl; apply w_mvb; rfl; refine w_gdT rfl (by omega) ?_; apply w_gF; rfl; apply w_gF; rfl; apply w_pickTb; rfl; rfl; apply w_done0; apply w_ifT; rfl; apply w_sq; apply w_reg; apply w_mvi; rfl; apply w_mvi; rfl)
        refine w_pure rfl h3 ?_
        (apply w_mvi; rfl; apply w_mvi; rfl; apply w_done0; apply w_ret)
        exact finQ2 (hfin (hsg (.inl hs)).symm) rfl
end Go.Gk.Val
end

section
/-
  The order of values, plain: no program.
-/
namespace Go.Gk.Val
open Go Go.Gk Go.Gk.Num

/-- The first that is not nought. -/
def thn (a b : Int) : Int := if a = 0 then b else a
def lexF {α : Type} (f : α → α → Int) : List α → List α → Int
  | [], [] => 0
  | [], _ :: _ => -1
  | _ :: _, [] => 1
  | a :: l, b :: m => thn (f a b) (lexF f l m)
abbrev cmpB : List UInt8 → List UInt8 → Int := Lib.compareBytes
mutual
def cmpV : V → V → Int
  | .mk k m e t l ks, b => thn (cmpI k b.kind) (thn (if k = 3 then numC m e b.m b.e else 0) (thn (cmpB t b.text) (thn (lexF cmpB ks b.keys) (cmpVs l b.list))))
def cmpVs : List V → List V → Int
  | [], [] => 0
  | [], _ :: _ => -1
  | _ :: _, [] => 1
  | a :: l, b :: m => thn (cmpV a b) (cmpVs l m)
end
theorem cmpVs_eq : ∀ l m : List V, cmpVs l m = lexF cmpV l m
  | [], [] => by simp [cmpVs, lexF]
  | [], _ :: _ => by simp [cmpVs, lexF]
  | _ :: _, [] => by simp [cmpVs, lexF]
  | a :: l, b :: m => by simp only [cmpVs, lexF]; rw [cmpVs_eq l m]
theorem cmpV_eq (a b : V) : cmpV a b = thn (cmpI a.kind b.kind) (thn (if a.kind = 3 then numC a.m a.e b.m b.e else 0) (thn (cmpB a.text b.text) (thn (lexF cmpB a.keys b.keys) (lexF cmpV a.list b.list)))) := by
  obtain ⟨k, m, e, t, l, ks⟩ := a
  rw [cmpV, cmpVs_eq]
theorem thn0 (b : Int) : thn 0 b = b := if_pos rfl
theorem thnN {a : Int} (h : a ≠ 0) (b : Int) : thn a b = a := if_neg h
theorem thn_0 (a : Int) : thn a 0 = a := by rw [thn]; split <;> simp_all
theorem thn_zero {a b : Int} : thn a b = 0 ↔ a = 0 ∧ b = 0 := by rw [thn]; split <;> simp_all
theorem thn_neg (a b : Int) : thn (-a) (-b) = -thn a b := by rw [thn, thn]; split <;> split <;> omega
theorem thn_i {a b : Int} (ha : a = -1 ∨ a = 0 ∨ a = 1) (hb : b = -1 ∨ b = 0 ∨ b = 1) : thn a b = -1 ∨ thn a b = 0 ∨ thn a b = 1 := by rw [thn]; split <;> assumption
section
variable {α : Type} {f : α → α → Int}
theorem lexF_nil : lexF f [] [] = 0 := rfl
theorem lexF_end : ∀ (i : Nat) (l m : List α), i ≤ l.length → i ≤ m.length → (i = l.length ∨ i = m.length) → lexF f (l.drop i) (m.drop i) = cmpI l.length m.length := by
  intro i l m h1 h2 h3
  by_cases q1 : i = l.length
  · subst q1
    rw [List.drop_length]
    by_cases q2 : l.length = m.length
    · rw [q2, List.drop_length, cmpI_eq rfl]; rfl
    · rw [List.drop_eq_getElem_cons (by omega), cmpI_lt (by omega)]; rfl
  · obtain rfl : i = m.length := by omega
    rw [List.drop_length, List.drop_eq_getElem_cons (by omega), cmpI_gt (by omega)]; rfl
theorem lexF_step {i : Nat} {l m : List α} (h1 : i < l.length) (h2 : i < m.length) : lexF f (l.drop i) (m.drop i) = thn (f l[i] m[i]) (lexF f (l.drop (i + 1)) (m.drop (i + 1))) := by
  rw [List.drop_eq_getElem_cons h1, List.drop_eq_getElem_cons h2]; rfl
theorem lexF_i : ∀ l m : List α, (∀ x ∈ l, ∀ y ∈ m, f x y = -1 ∨ f x y = 0 ∨ f x y = 1) → lexF f l m = -1 ∨ lexF f l m = 0 ∨ lexF f l m = 1
  | [], [], _ => .inr (.inl rfl)
  | [], _ :: _, _ => .inl rfl
  | _ :: _, [], _ => .inr (.inr rfl)
  | a :: l, b :: m, h => thn_i (h a (List.mem_cons_self ..) b (List.mem_cons_self ..)) (lexF_i l m (fun x hx y hy => h x (List.mem_cons_of_mem _ hx) y (List.mem_cons_of_mem _ hy)))
theorem lexF_swap : ∀ l m : List α, (∀ x ∈ l, ∀ y ∈ m, f x y = -f y x) → lexF f l m = -lexF f m l
  | [], [], _ => rfl
  | [], _ :: _, _ => rfl
  | _ :: _, [], _ => rfl
  | a :: l, b :: m, h => by
    rw [lexF, lexF, h a (List.mem_cons_self ..) b (List.mem_cons_self ..), lexF_swap l m (fun x hx y hy => h x (List.mem_cons_of_mem _ hx) y (List.mem_cons_of_mem _ hy)), thn_neg]
theorem lexF_zero : ∀ l m : List α, (∀ x ∈ l, ∀ y ∈ m, f x y = 0 ↔ x = y) → (lexF f l m = 0 ↔ l = m)
  | [], [], _ => by simp [lexF]
  | [], _ :: _, _ => by simp [lexF]
  | _ :: _, [], _ => by simp [lexF]
  | a :: l, b :: m, h => by
    rw [lexF, thn_zero, h a (List.mem_cons_self ..) b (List.mem_cons_self ..), lexF_zero l m (fun x hx y hy => h x (List.mem_cons_of_mem _ hx) y (List.mem_cons_of_mem _ hy)), List.cons.injEq]
/-- Not above, and not above: not above. And where one of the two is below: below. -/
def Trans3 (x z w : Int) : Prop := (x ≤ 0 → z ≤ 0 → w ≤ 0) ∧ (x < 0 → z ≤ 0 → w < 0) ∧ (x ≤ 0 → z < 0 → w < 0) ∧ (x = 0 → z = 0 → w = 0)
theorem thn_trans {a1 a2 a3 b1 b2 b3 : Int} (ha : Trans3 a1 a2 a3) (hb : a1 = 0 → a2 = 0 → a3 = 0 → Trans3 b1 b2 b3) : Trans3 (thn a1 b1) (thn a2 b2) (thn a3 b3) := by
  obtain ⟨p1, p2, p3, p4⟩ := ha
  by_cases q1 : a1 = 0
  · by_cases q2 : a2 = 0
    · have q3 := p4 q1 q2
      rw [q1, q2, q3, thn0, thn0, thn0]; exact hb q1 q2 q3
    · rw [thnN q2]
      refine ⟨fun h1 h2 => ?_, fun h1 h2 => ?_, fun h1 h2 => ?_, fun h1 h2 => absurd h2 q2⟩ <;>
      · have := p3 (by omega) (by omega)
        rw [thnN (by omega)]; omega
  · rw [thnN q1]
    refine ⟨fun h1 h2 => ?_, fun h1 h2 => ?_, fun h1 h2 => ?_, fun h1 h2 => absurd h1 q1⟩ <;>
    · have h3 : a2 ≤ 0 := by rw [thn] at h2; split at h2 <;> omega
      have := p2 (by omega) h3
      rw [thnN (by omega)]; omega
theorem lexF_trans : ∀ l m n : List α, (∀ x ∈ l, ∀ y ∈ m, ∀ z ∈ n, Trans3 (f x y) (f y z) (f x z)) → Trans3 (lexF f l m) (lexF f m n) (lexF f l n)
  | [], m, [], _ => by cases m <;> simp [lexF, Trans3]
  | [], m, c :: n, _ => by cases m <;> simp [lexF, Trans3]
  | a :: l, [], n, _ => by cases n <;> simp [lexF, Trans3]
  | a :: l, b :: m, [], _ => by simp [lexF, Trans3]
  | a :: l, b :: m, c :: n, h => by
    rw [lexF, lexF, lexF]
    exact thn_trans (h a (List.mem_cons_self ..) b (List.mem_cons_self ..) c (List.mem_cons_self ..)) (fun _ _ _ => lexF_trans l m n (fun x hx y hy z hz => h x (List.mem_cons_of_mem _ hx) y (List.mem_cons_of_mem _ hy) z (List.mem_cons_of_mem _ hz)))
end
theorem cmpI_trans (a b c : Int) : Trans3 (cmpI a b) (cmpI b c) (cmpI a c) := by
  have key : ∀ x y : Int, (cmpI x y ≤ 0 ↔ x ≤ y) ∧ (cmpI x y < 0 ↔ x < y) ∧ (cmpI x y = 0 ↔ x = y) := fun x y => by
    rcases Int.lt_trichotomy x y with h | h | h
    · rw [cmpI_lt h]; omega
    · rw [cmpI_eq h]; omega
    · rw [cmpI_gt h]; omega
  obtain ⟨k1, k2, k3⟩ := key a b
  obtain ⟨k4, k5, k6⟩ := key b c
  obtain ⟨k7, k8, k9⟩ := key a c
  rw [Trans3, k1, k2, k3, k4, k5, k6, k7, k8, k9]
  omega
theorem numC_trans (m1 e1 m2 e2 m3 e3 : Int) : Trans3 (numC m1 e1 m2 e2) (numC m2 e2 m3 e3) (numC m1 e1 m3 e3) := by
  have h1 : min e1 (min e2 e3) ≤ e1 := by omega
  have h2 : min e1 (min e2 e3) ≤ e2 := by omega
  have h3 : min e1 (min e2 e3) ≤ e3 := by omega
  rw [← numC_at m1 e1 m2 e2 _ h1 h2, ← numC_at m2 e2 m3 e3 _ h2 h3, ← numC_at m1 e1 m3 e3 _ h1 h3]
  exact cmpI_trans _ _ _
theorem cmpB_lex : ∀ a b : List UInt8, cmpB a b = lexF (fun (x y : UInt8) => cmpI x.toNat y.toNat) a b
  | [], [] => rfl
  | [], _ :: _ => rfl
  | _ :: _, [] => rfl
  | a :: l, b :: m => by
    rw [cmpB, Lib.compareBytes, lexF]
    by_cases h1 : a < b
    · rw [if_pos h1]; rw [UInt8.lt_iff_toNat_lt] at h1; rw [cmpI_lt (by omega), thnN (by decide)]
    · by_cases h2 : b < a
      · rw [if_neg h1, if_pos h2]; rw [UInt8.lt_iff_toNat_lt] at h2; rw [cmpI_gt (by omega), thnN (by decide)]
      · rw [if_neg h1, if_neg h2]; rw [UInt8.lt_iff_toNat_lt] at h1 h2; rw [cmpI_eq (by omega), thn0]; exact cmpB_lex l m
theorem cmpB_zero (a b : List UInt8) : cmpB a b = 0 ↔ a = b := by
  rw [cmpB_lex]
  exact lexF_zero _ _ (fun x _ y _ => by rw [cmpI_zero]; exact ⟨fun h => UInt8.toNat_inj.1 (by omega), fun h => by rw [h]⟩)
theorem cmpB_trans (a b c : List UInt8) : Trans3 (cmpB a b) (cmpB b c) (cmpB a c) := by
  rw [cmpB_lex, cmpB_lex, cmpB_lex]
  exact lexF_trans _ _ _ (fun _ _ _ _ _ _ => cmpI_trans _ _ _)
theorem cmpV_i (a b : V) : cmpV a b = -1 ∨ cmpV a b = 0 ∨ cmpV a b = 1 := by
  induction a using V.ind generalizing b with
  | h a ih =>
    rw [cmpV_eq]
    refine thn_i (cmpI_range _ _) (thn_i ?_ (thn_i (cmpB_i _ _) (thn_i (lexF_i _ _ (fun x _ y _ => cmpB_i _ _)) (lexF_i _ _ (fun x hx y _ => ih x hx y)))))
    split
    · exact cmpI_range _ _
    · exact .inr (.inl rfl)
theorem cmpV_swap (a b : V) : cmpV a b = -cmpV b a := by
  induction a using V.ind generalizing b with
  | h a ih =>
    rw [cmpV_eq, cmpV_eq, lexF_swap _ _ (fun x hx y _ => ih x hx y), lexF_swap a.keys b.keys (fun x _ y _ => cmpB_swap x y), show cmpB a.text b.text = -cmpB b.text a.text from cmpB_swap _ _, cmpI_swap]
    by_cases h : b.kind = a.kind
    · rw [h]
      have : (if a.kind = 3 then numC a.m a.e b.m b.e else 0) = -(if a.kind = 3 then numC b.m b.e a.m a.e else 0) := by
        split
        · exact numC_swap ..
        · rfl
      rw [this, thn_neg, thn_neg, thn_neg, thn_neg]
    · have hz : cmpI b.kind a.kind ≠ 0 := fun q => h (cmpI_zero.1 q)
      rw [thnN (by omega), thnN hz]
theorem cmpV_trans (a b c : V) : Trans3 (cmpV a b) (cmpV b c) (cmpV a c) := by
  induction a using V.ind generalizing b c with
  | h a ih =>
    rw [cmpV_eq a b, cmpV_eq b c, cmpV_eq a c]
    refine thn_trans (cmpI_trans _ _ _) (fun h1 h2 _ => ?_)
    rw [cmpI_zero] at h1 h2
    refine thn_trans ?_ (fun _ _ _ => thn_trans (cmpB_trans _ _ _) (fun _ _ _ => thn_trans (lexF_trans _ _ _ (fun _ _ _ _ _ _ => cmpB_trans _ _ _)) (fun _ _ _ => lexF_trans _ _ _ (fun x hx y _ z _ => ih x hx y z))))
    rw [← h1]
    split
    · exact numC_trans ..
    · simp [Trans3]
theorem may_bare {v : V} (h : mayV v = true) : (0 ≤ v.kind ∧ v.kind ≤ 6) ∧ (v.kind = 3 ∨ (v.m = 0 ∧ v.e = 0)) ∧ (v.kind = 4 ∨ v.text = []) ∧ (5 ≤ v.kind ∨ v.list = []) ∧ (v.kind = 6 ∨ v.keys = []) ∧ numRight v.m v.e = true := by
  have h1 := may_one h
  simp only [oneB, bareB, Bool.and_eq_true, Bool.or_eq_true, decide_eq_true_eq] at h1
  obtain ⟨⟨⟨⟨⟨⟨⟨⟨a, b⟩, c⟩, d⟩, e⟩, n⟩, _⟩, _⟩, _⟩ := h1
  exact ⟨a, b, c, d, e, n⟩
theorem cmpV_zero {a b : V} (ha : mayV a = true) (hb : mayV b = true) : cmpV a b = 0 ↔ a = b := by
  induction a using V.ind generalizing b with
  | h a ih =>
    obtain ⟨_, a2, _, _, _, an⟩ := may_bare ha
    obtain ⟨_, b2, _, _, _, bn⟩ := may_bare hb
    rw [cmpV_eq, thn_zero, thn_zero, thn_zero, thn_zero, cmpI_zero, cmpB_zero, lexF_zero _ _ (fun x _ y _ => cmpB_zero x y), lexF_zero _ _ (fun x hx y hy => ih x hx (may_mem ha hx) (may_mem hb hy))]
    constructor
    · rintro ⟨h1, h2, h3, h4, h5⟩
      have hn : a.m = b.m ∧ a.e = b.e := by
        by_cases q : a.kind = 3
        · rw [if_pos q] at h2; exact numC_zero an bn h2
        · have q2 : b.kind ≠ 3 := by omega
          rcases a2 with a2 | a2
          · exact absurd a2 q
          · rcases b2 with b2 | b2
            · exact absurd b2 q2
            · omega
      exact V.ext h1 hn.1 hn.2 h3 h5 h4
    · intro h
      subst h
      refine ⟨rfl, ?_, rfl, rfl, rfl⟩
      split
      · rw [numC, cmpI_zero]
      · rfl
end Go.Gk.Val
end

section
/-
  The order of values: the program.
-/
namespace Go.Gk.Val
open Go Go.Gk Go.Gk.Num
attribute [local irreducible] gwp gws

def CmpFuncVOk (P : Program) (f : FuncId) : Prop := ∀ {d : PHeap} {v w : Value} {l m : List V} {g : FuncId}, RVals d v l → RVals d w m → (∀ x ∈ l, ∀ y ∈ m, ∀ cs ds, RVal d cs x → RVal d ds y → GPure P g [.agg cs.toArray, .agg ds.toArray] d (.int .i64 (cmpV x y))) →
  GPure P f [v, w, .func (.func g) #[] #[]] d (.int .i64 (lexF cmpV l m))
def g_slices_CompareFunc_api_Value_api_Value_api_Value_api_Value : GFun :=
 ⟨39, [(.tmp 6)],
 (.seq
 (.reg false (.op false ⟨(some 6), none, (.mv (.const (.int .i64 0)))⟩ .done))
 (.seq (.seq
 (.reg false (.op false ⟨(some 11), none, (.mv (.tmp 0))⟩
  (.op false ⟨(some 12), none, (.len (.tmp 11))⟩
  (.op false ⟨(some 13), none, (.mv (.const (.int .i64 0)))⟩ .done)))) (.block 0 (.loop
 (.seq
 (.reg false (.op false ⟨(some 14), none, (.bin .lss (.tmp 13) (.tmp 12))⟩ .done))
 (.seq (.cond (.tmp 14) .skip (.exit 0))
 (.seq (.block 1
 (.seq
 (.reg false (.op false ⟨(some 15), none, (.mv (.tmp 13))⟩
  (.op false ⟨(some 16), none, (.idx 6 (.tmp 11) (.tmp 13))⟩
  (.op false ⟨(some 17), none, (.ld (some 6) (.tmp 16))⟩
  (.op false ⟨(some 8), none, (.alo (.agg #[(.int .i64 0), (.int .i64 0), (.int .i64 0), (strV []), (.slice none 0 0), (.slice none 0 0)]))⟩
  (.op false ⟨(some 7), none, (.mv (.tmp 15))⟩
  (.op false ⟨none, none, (.st 6 (.tmp 8) (.tmp 17))⟩ .done)))))))
 (.seq (.seq
 (.reg false (.op false ⟨(some 18), none, (.mv (.tmp 7))⟩
  (.op false ⟨(some 19), none, (.mv (.tmp 1))⟩
  (.op false ⟨(some 20), none, (.len (.tmp 19))⟩
  (.op false ⟨(some 21), none, (.bin .geq (.tmp 18) (.tmp 20))⟩ .done))))) (.cond (.tmp 21)
 (.seq
 (.reg false (.op false ⟨(some 6), none, (.mv (.const (.int .i64 1)))⟩ .done)) .ret) .skip))
 (.seq
 (.reg false (.op false ⟨(some 22), none, (.mv (.tmp 1))⟩
  (.op false ⟨(some 23), none, (.mv (.tmp 7))⟩
  (.op false ⟨(some 24), none, (.idx 6 (.tmp 22) (.tmp 23))⟩
  (.op false ⟨(some 25), none, (.ld (some 6) (.tmp 24))⟩
  (.op false ⟨(some 9), none, (.alo (.agg #[(.int .i64 0), (.int .i64 0), (.int .i64 0), (strV []), (.slice none 0 0), (.slice none 0 0)]))⟩
  (.op false ⟨none, none, (.st 6 (.tmp 9) (.tmp 25))⟩ .done)))))))
 (.seq
 (.reg false (.op false ⟨(some 26), none, (.mv (.tmp 2))⟩
  (.op false ⟨(some 27), none, (.ld (some 6) (.tmp 8))⟩
  (.op false ⟨(some 28), none, (.ld (some 6) (.tmp 9))⟩
  (.op false ⟨(some 29), none, (.callv (.tmp 26) [(.tmp 27), (.tmp 28)])⟩
  (.op false ⟨(some 10), none, (.mv (.tmp 29))⟩ .done))))))
 (.seq
 (.reg false (.op false ⟨(some 30), none, (.mv (.tmp 10))⟩
  (.op false ⟨(some 31), none, (.bin .neq (.tmp 30) (.const (.int .i64 0)))⟩ .done))) (.cond (.tmp 31)
 (.seq
 (.reg false (.op false ⟨(some 32), none, (.mv (.tmp 10))⟩
  (.op false ⟨(some 6), none, (.mv (.tmp 32))⟩ .done))) .ret) .skip)))))))
 (.reg false (.op false ⟨(some 33), none, (.bin .add (.tmp 13) (.const (.int .i64 1)))⟩
  (.op false ⟨(some 13), none, (.mv (.tmp 33))⟩ .done)))))))))
 (.seq (.seq
 (.reg false (.op false ⟨(some 34), none, (.mv (.tmp 0))⟩
  (.op false ⟨(some 35), none, (.len (.tmp 34))⟩
  (.op false ⟨(some 36), none, (.mv (.tmp 1))⟩
  (.op false ⟨(some 37), none, (.len (.tmp 36))⟩
  (.op false ⟨(some 38), none, (.bin .lss (.tmp 35) (.tmp 37))⟩ .done)))))) (.cond (.tmp 38)
 (.seq
 (.reg false (.op false ⟨(some 6), none, (.mv (.const (.int .i64 (-1))))⟩ .done)) .ret) .skip))
 (.seq
 (.reg false (.op false ⟨(some 6), none, (.mv (.const (.int .i64 0)))⟩ .done)) .ret))))⟩

set_option maxHeartbeats 1000000 in
theorem cmpfuncv_ok {P : Program} {f : FuncId} (hd : dec P f = some g_slices_CompareFunc_api_Value_api_Value_api_Value_api_Value) : CmpFuncVOk P f := by
  intro d v w a b g hv hw hg
  have n1 := RSl.len_le hv
  have n2 := RSl.len_le hw
  obtain ⟨pa, ca, rfl⟩ := RSl.val hv
  obtain ⟨pb, cb, rfl⟩ := RSl.val hw
  have hv' : RSl 6 RVal d (.slice pa a.length ca) a := hv
  have hw' : RSl 6 RVal d (.slice pb b.length cb) b := hw
  refine GPure.of' hd (Nat.le_of_ble_eq_true rfl) ?_
  show gwp P _ _ _ _ _
  (apply w_sq; apply w_reg; apply w_mvi; rfl; apply w_done0; apply w_sq; apply w_sq; apply w_reg; apply w_mvs; rfl; apply w_len; rfl; apply w_mvi; rfl; apply w_done0; apply w_block)
  refine w_loopS (α := Nat) (fun i => [(0, .slice pa a.length ca), (1, .slice pb b.length cb), (2, .func (.func g) #[] #[]), (11, .slice pa a.length ca), (12, .int .i64 a.length), (13, .int .i64 i)]) (fun i d' L' => d' = d ∧ i ≤ a.length ∧ i ≤ b.length ∧ lexF cmpV a b = lexF cmpV (a.drop i) (b.drop i)) (fun i => a.length - i) 0 ⟨rfl, rfl, rfl, rfl, rfl, rfl, trivial⟩ ⟨rfl, Nat.zero_le _, Nat.zero_le _, rfl⟩ ?_
  rintro i ρ d' L' ⟨hdd, hi, hj, heq⟩
  subst hdd
  have hv2 : RSl 6 RVal d' (.slice pa a.length ca) a := hv'
  have hw2 : RSl 6 RVal d' (.slice pb b.length cb) b := hw'
  by_cases hc : i < a.length
  · by_cases hcb : i < b.length
    · rw [lexF_step hc hcb] at heq
      (apply w_sq; apply w_reg; apply w_lss; rfl; rfl; apply w_done0; apply w_sq; refine w_ifdT rfl (by omega) ?_; apply w_skip; apply w_sq; apply w_block; apply w_sq; apply w_reg; apply w_mvi; rfl; refine w_idxR (sz := 6) (R := RVal) (by rfl) (by assumption) (by rfl) rfl (by omega) ?_; rintro _ _ _ _ _ _; apply w_ldd; rfl; assumption; assumption; apply w_alo; intro _ _; apply w_mvi; rfl)
      rename_i cs hcs hD hR b8 T8
      obtain ⟨c0, c1, c2, c3, c4, c5, rfl⟩ := six hcs
      refine w_stE 0 [c0, c1, c2, c3, c4, c5] rfl rfl rfl rfl (Nat.le_of_ble_eq_true rfl) (cell1_val _ _ _ hR) rfl ?_
      (apply w_done0; apply w_sq; apply w_sq; apply w_reg; apply w_mvi; rfl; apply w_mvs; rfl; apply w_len; rfl; apply w_geq; rfl; rfl; apply w_done0; refine w_ifdF rfl (by omega) ?_; apply w_skip; apply w_sq; apply w_reg; apply w_mvs; rfl; apply w_mvi; rfl; refine w_idxR (sz := 6) (R := RVal) (by rfl) (by assumption) (by rfl) rfl (by omega) ?_; rintro _ _ _ _ _ _; apply w_ldd; rfl; assumption; assumption; apply w_alo; intro _ _)
      rename_i ds hds hD2 hR2 b9 T9
      obtain ⟨e0, e1, e2, e3, e4, e5, rfl⟩ := six hds
      refine w_stE 0 [e0, e1, e2, e3, e4, e5] rfl rfl rfl rfl (Nat.le_of_ble_eq_true rfl) (cell1_val _ _ _ hR2) rfl ?_
      (apply w_done0; apply w_sq; apply w_reg; apply w_mvf; rfl; apply w_ldb 1; rfl; rfl; rfl; apply w_ldb 0; rfl; rfl; rfl)
      refine w_purev (vs := [.agg [c0, c1, c2, c3, c4, c5].toArray, .agg [e0, e1, e2, e3, e4, e5].toArray]) rfl rfl (hg _ (List.getElem_mem hc) _ (List.getElem_mem hcb) _ _ hR hR2) ?_
      by_cases hz : cmpV a[i] b[i] = 0
      · rw [hz, thn0] at heq
        (apply w_mvi; rfl; apply w_done0; apply w_sq; apply w_reg; apply w_mvi; rfl; apply w_neq; rfl; rfl; apply w_done0; refine w_ifdF rfl (by omega) ?_; apply w_skip; apply w_reg; apply w_add; rfl; rfl; omega; omega; apply w_mvi; rfl; apply w_done0)
        exact ⟨i + 1, by omega, ⟨rfl, rfl, rfl, rfl, rfl, int_eq (by omega), trivial⟩, rfl, hc, hcb, heq⟩
      · rw [thnN hz] at heq
        (apply w_mvi; rfl; apply w_done0; apply w_sq; apply w_reg; apply w_mvi; rfl; apply w_neq; rfl; rfl; apply w_done0; refine w_ifdT rfl (by omega) ?_; apply w_sq; apply w_reg; apply w_mvi; rfl; apply w_mvi; rfl; apply w_done0; apply w_ret)
        exact finQ (int_eq heq.symm)
    · have hend := lexF_end (f := cmpV) i a b hi hj (.inr (by omega))
      rw [cmpI_gt (by omega)] at hend
      (apply w_sq; apply w_reg; apply w_lss; rfl; rfl; apply w_done0; apply w_sq; refine w_ifdT rfl (by omega) ?_; apply w_skip; apply w_sq; apply w_block; apply w_sq; apply w_reg; apply w_mvi; rfl; refine w_idxR (sz := 6) (R := RVal) (by rfl) (by assumption) (by rfl) rfl (by omega) ?_; rintro _ _ _ _ _ _; apply w_ldd; rfl; assumption; assumption; apply w_alo; intro _ _; apply w_mvi; rfl)
      rename_i cs hcs hD hR b8 T8
      obtain ⟨c0, c1, c2, c3, c4, c5, rfl⟩ := six hcs
      refine w_stE 0 [c0, c1, c2, c3, c4, c5] rfl rfl rfl rfl (Nat.le_of_ble_eq_true rfl) (cell1_val _ _ _ hR) rfl ?_
      (apply w_done0; apply w_sq; apply w_sq; apply w_reg; apply w_mvi; rfl; apply w_mvs; rfl; apply w_len; rfl; apply w_geq; rfl; rfl; apply w_done0; refine w_ifdT rfl (by omega) ?_; apply w_sq; apply w_reg; apply w_mvi; rfl; apply w_done0; apply w_ret)
      exact finQ (int_eq (by rw [heq, hend]))
  · have hend := lexF_end (f := cmpV) i a b hi hj (.inl (by omega))
    by_cases hcb : (a.length : Int) < b.length
    · rw [cmpI_lt hcb] at hend
      (apply w_sq; apply w_reg; apply w_lss; rfl; rfl; apply w_done0; apply w_sq; refine w_ifdF rfl (by omega) ?_; apply w_exit; apply w_sq; apply w_sq; apply w_reg; apply w_mvs; rfl; apply w_len; rfl; apply w_mvs; rfl; apply w_len; rfl; apply w_lss; rfl; rfl; apply w_done0; refine w_ifdT rfl (by omega) ?_; apply w_sq; apply w_reg; apply w_mvi; rfl; apply w_done0; apply w_ret)
      exact finQ (int_eq (by rw [heq, hend]))
    · rw [cmpI_eq (by omega)] at hend
      (apply w_sq; apply w_reg; apply w_lss; rfl; rfl; apply w_done0; apply w_sq; refine w_ifdF rfl (by omega) ?_; apply w_exit; apply w_sq; apply w_sq; apply w_reg; apply w_mvs; rfl; apply w_len; rfl; apply w_mvs; rfl; apply w_len; rfl; apply w_lss; rfl; rfl; apply w_done0; refine w_ifdF rfl (by omega) ?_; apply w_skip; apply w_sq; apply w_reg; apply w_mvi; rfl; apply w_done0; apply w_ret)
      exact finQ (int_eq (by rw [heq, hend]))
def CmpFuncSOk (P : Program) (f : FuncId) : Prop := ∀ {d : PHeap} {v w : Value} {l m : List (List UInt8)} {g : FuncId}, RStrs d v l → RStrs d w m → CmpSOk P g →
  GPure P f [v, w, .func (.func g) #[] #[]] d (.int .i64 (lexF cmpB l m))
def g_slices_CompareFunc_string_string_string_string : GFun :=
 ⟨39, [(.tmp 6)],
 (.seq
 (.reg false (.op false ⟨(some 6), none, (.mv (.const (.int .i64 0)))⟩ .done))
 (.seq (.seq
 (.reg false (.op false ⟨(some 11), none, (.mv (.tmp 0))⟩
  (.op false ⟨(some 12), none, (.len (.tmp 11))⟩
  (.op false ⟨(some 13), none, (.mv (.const (.int .i64 0)))⟩ .done)))) (.block 0 (.loop
 (.seq
 (.reg false (.op false ⟨(some 14), none, (.bin .lss (.tmp 13) (.tmp 12))⟩ .done))
 (.seq (.cond (.tmp 14) .skip (.exit 0))
 (.seq (.block 1
 (.seq
 (.reg false (.op false ⟨(some 15), none, (.mv (.tmp 13))⟩
  (.op false ⟨(some 16), none, (.idx 1 (.tmp 11) (.tmp 13))⟩
  (.op false ⟨(some 17), none, (.ld none (.tmp 16))⟩
  (.op false ⟨(some 7), none, (.mv (.tmp 15))⟩
  (.op false ⟨(some 8), none, (.mv (.tmp 17))⟩ .done))))))
 (.seq (.seq
 (.reg false (.op false ⟨(some 18), none, (.mv (.tmp 7))⟩
  (.op false ⟨(some 19), none, (.mv (.tmp 1))⟩
  (.op false ⟨(some 20), none, (.len (.tmp 19))⟩
  (.op false ⟨(some 21), none, (.bin .geq (.tmp 18) (.tmp 20))⟩ .done))))) (.cond (.tmp 21)
 (.seq
 (.reg false (.op false ⟨(some 6), none, (.mv (.const (.int .i64 1)))⟩ .done)) .ret) .skip))
 (.seq
 (.reg false (.op false ⟨(some 22), none, (.mv (.tmp 1))⟩
  (.op false ⟨(some 23), none, (.mv (.tmp 7))⟩
  (.op false ⟨(some 24), none, (.idx 1 (.tmp 22) (.tmp 23))⟩
  (.op false ⟨(some 25), none, (.ld none (.tmp 24))⟩
  (.op false ⟨(some 9), none, (.mv (.tmp 25))⟩ .done))))))
 (.seq
 (.reg false (.op false ⟨(some 26), none, (.mv (.tmp 2))⟩
  (.op false ⟨(some 27), none, (.mv (.tmp 8))⟩
  (.op false ⟨(some 28), none, (.mv (.tmp 9))⟩
  (.op false ⟨(some 29), none, (.callv (.tmp 26) [(.tmp 27), (.tmp 28)])⟩
  (.op false ⟨(some 10), none, (.mv (.tmp 29))⟩ .done))))))
 (.seq
 (.reg false (.op false ⟨(some 30), none, (.mv (.tmp 10))⟩
  (.op false ⟨(some 31), none, (.bin .neq (.tmp 30) (.const (.int .i64 0)))⟩ .done))) (.cond (.tmp 31)
 (.seq
 (.reg false (.op false ⟨(some 32), none, (.mv (.tmp 10))⟩
  (.op false ⟨(some 6), none, (.mv (.tmp 32))⟩ .done))) .ret) .skip)))))))
 (.reg false (.op false ⟨(some 33), none, (.bin .add (.tmp 13) (.const (.int .i64 1)))⟩
  (.op false ⟨(some 13), none, (.mv (.tmp 33))⟩ .done)))))))))
 (.seq (.seq
 (.reg false (.op false ⟨(some 34), none, (.mv (.tmp 0))⟩
  (.op false ⟨(some 35), none, (.len (.tmp 34))⟩
  (.op false ⟨(some 36), none, (.mv (.tmp 1))⟩
  (.op false ⟨(some 37), none, (.len (.tmp 36))⟩
  (.op false ⟨(some 38), none, (.bin .lss (.tmp 35) (.tmp 37))⟩ .done)))))) (.cond (.tmp 38)
 (.seq
 (.reg false (.op false ⟨(some 6), none, (.mv (.const (.int .i64 (-1))))⟩ .done)) .ret) .skip))
 (.seq
 (.reg false (.op false ⟨(some 6), none, (.mv (.const (.int .i64 0)))⟩ .done)) .ret))))⟩

set_option maxHeartbeats 1000000 in
theorem cmpfuncs_ok {P : Program} {f : FuncId} (hd : dec P f = some g_slices_CompareFunc_string_string_string_string) : CmpFuncSOk P f := by
  intro d v w a b g hv hw hg
  have n1 := RSl.len_le hv
  have n2 := RSl.len_le hw
  obtain ⟨pa, ca, rfl⟩ := RSl.val hv
  obtain ⟨pb, cb, rfl⟩ := RSl.val hw
  have hv' : RSl 1 RStr d (.slice pa a.length ca) a := hv
  have hw' : RSl 1 RStr d (.slice pb b.length cb) b := hw
  refine GPure.of' hd (Nat.le_of_ble_eq_true rfl) ?_
  show gwp P _ _ _ _ _
  (apply w_sq; apply w_reg; apply w_mvi; rfl; apply w_done0; apply w_sq; apply w_sq; apply w_reg; apply w_mvs; rfl; apply w_len; rfl; apply w_mvi; rfl; apply w_done0; apply w_block)
  refine w_loopS (α := Nat) (fun i => [(0, .slice pa a.length ca), (1, .slice pb b.length cb), (2, .func (.func g) #[] #[]), (11, .slice pa a.length ca), (12, .int .i64 a.length), (13, .int .i64 i)]) (fun i d' L' => d' = d ∧ i ≤ a.length ∧ i ≤ b.length ∧ lexF cmpB a b = lexF cmpB (a.drop i) (b.drop i)) (fun i => a.length - i) 0 ⟨rfl, rfl, rfl, rfl, rfl, rfl, trivial⟩ ⟨rfl, Nat.zero_le _, Nat.zero_le _, rfl⟩ ?_
  rintro i ρ d' L' ⟨hdd, hi, hj, heq⟩
  subst hdd
  have hv2 : RSl 1 RStr d' (.slice pa a.length ca) a := hv'
  have hw2 : RSl 1 RStr d' (.slice pb b.length cb) b := hw'
  by_cases hc : i < a.length
  · by_cases hcb : i < b.length
    · rw [lexF_step hc hcb] at heq
      (apply w_sq; apply w_reg; apply w_lss; rfl; rfl; apply w_done0; apply w_sq; refine w_ifdT rfl (by omega) ?_; apply w_skip; apply w_sq; apply w_block; apply w_sq; apply w_reg; apply w_mvi; rfl; refine w_idxR (sz := 1) (R := RStr) (by rfl) (by assumption) (by rfl) rfl (by omega) ?_; rintro _ _ _ _ _ ⟨rfl, _⟩; apply w_ld; rfl; exact hc_ds0 (by assumption) rfl; apply w_mvi; rfl; apply w_mvt; rfl; apply w_done0; apply w_sq; apply w_sq; apply w_reg; apply w_mvi; rfl; apply w_mvs; rfl; apply w_len; rfl; apply w_geq; rfl; rfl; apply w_done0; refine w_ifdF rfl (by omega) ?_; apply w_skip; apply w_sq; apply w_reg; apply w_mvs; rfl; apply w_mvi; rfl; refine w_idxR (sz := 1) (R := RStr) (by rfl) (by assumption) (by rfl) rfl (by omega) ?_; rintro _ _ _ _ _ ⟨rfl, _⟩; apply w_ld; rfl; exact hc_ds0 (by assumption) rfl; apply w_mvt; rfl; apply w_done0; apply w_sq; apply w_reg; apply w_mvf; rfl; apply w_mvt; rfl; apply w_mvt; rfl)
      refine w_purev (vs := [strV a[i], strV b[i]]) rfl rfl hg ?_
      by_cases hz : cmpB a[i] b[i] = 0
      · rw [hz, thn0] at heq
        have hz' : Lib.compareBytes a[i] b[i] = 0 := hz
        (apply w_mvi; rfl; apply w_done0; apply w_sq; apply w_reg; apply w_mvi; rfl; apply w_neq; rfl; rfl; apply w_done0; refine w_ifdF rfl (by omega) ?_; apply w_skip; apply w_reg; apply w_add; rfl; rfl; omega; omega; apply w_mvi; rfl; apply w_done0)
        exact ⟨i + 1, by omega, ⟨rfl, rfl, rfl, rfl, rfl, int_eq (by omega), trivial⟩, rfl, hc, hcb, heq⟩
      · rw [thnN hz] at heq
        have hz' : ¬ Lib.compareBytes a[i] b[i] = 0 := hz
        (apply w_mvi; rfl; apply w_done0; apply w_sq; apply w_reg; apply w_mvi; rfl; apply w_neq; rfl; rfl; apply w_done0; refine w_ifdT rfl (by omega) ?_; apply w_sq; apply w_reg; apply w_mvi; rfl; apply w_mvi; rfl; apply w_done0; apply w_ret)
        exact finQ (int_eq heq.symm)
    · have hend := lexF_end (f := cmpB) i a b hi hj (.inr (by omega))
      rw [cmpI_gt (by omega)] at hend
      (apply w_sq; apply w_reg; apply w_lss; rfl; rfl; apply w_done0; apply w_sq; refine w_ifdT rfl (by omega) ?_; apply w_skip; apply w_sq; apply w_block; apply w_sq; apply w_reg; apply w_mvi; rfl; refine w_idxR (sz := 1) (R := RStr) (by rfl) (by assumption) (by rfl) rfl (by omega) ?_; rintro _ _ _ _ _ ⟨rfl, _⟩; apply w_ld; rfl; exact hc_ds0 (by assumption) rfl; apply w_mvi; rfl; apply w_mvt; rfl; apply w_done0; apply w_sq; apply w_sq; apply w_reg; apply w_mvi; rfl; apply w_mvs; rfl; apply w_len; rfl; apply w_geq; rfl; rfl; apply w_done0; refine w_ifdT rfl (by omega) ?_; apply w_sq; apply w_reg; apply w_mvi; rfl; apply w_done0; apply w_ret)
      exact finQ (int_eq (by rw [heq, hend]))
  · have hend := lexF_end (f := cmpB) i a b hi hj (.inl (by omega))
    by_cases hcb : (a.length : Int) < b.length
    · rw [cmpI_lt hcb] at hend
      (apply w_sq; apply w_reg; apply w_lss; rfl; rfl; apply w_done0; apply w_sq; refine w_ifdF rfl (by omega) ?_; apply w_exit; apply w_sq; apply w_sq; apply w_reg; apply w_mvs; rfl; apply w_len; rfl; apply w_mvs; rfl; apply w_len; rfl; apply w_lss; rfl; rfl; apply w_done0; refine w_ifdT rfl (by omega) ?_; apply w_sq; apply w_reg; apply w_mvi; rfl; apply w_done0; apply w_ret)
      exact finQ (int_eq (by rw [heq, hend]))
    · rw [cmpI_eq (by omega)] at hend
      (apply w_sq; apply w_reg; apply w_lss; rfl; rfl; apply w_done0; apply w_sq; refine w_ifdF rfl (by omega) ?_; apply w_exit; apply w_sq; apply w_sq; apply w_reg; apply w_mvs; rfl; apply w_len; rfl; apply w_mvs; rfl; apply w_len; rfl; apply w_lss; rfl; rfl; apply w_done0; refine w_ifdF rfl (by omega) ?_; apply w_skip; apply w_sq; apply w_reg; apply w_mvi; rfl; apply w_done0; apply w_ret)
      exact finQ (int_eq (by rw [heq, hend]))
def g_order_rows_api_Value (f_slices_CompareFunc_api_Value_api_Value_api_Value_api_Value : Nat) : GFun :=
 ⟨11, [(.tmp 6)],
 (.seq
 (.reg false (.op false ⟨(some 6), none, (.mv (.const (.int .i64 0)))⟩ .done))
 (.seq
 (.reg false (.op false ⟨(some 7), none, (.mv (.tmp 0))⟩
  (.op false ⟨(some 8), none, (.mv (.tmp 1))⟩
  (.op false ⟨(some 9), none, (.mv (.tmp 2))⟩
  (.op false ⟨(some 10), none, (.call f_slices_CompareFunc_api_Value_api_Value_api_Value_api_Value [(.tmp 7), (.tmp 8), (.tmp 9)])⟩
  (.op false ⟨(some 6), none, (.mv (.tmp 10))⟩ .done)))))) .ret))⟩

theorem rowsv_ok {P : Program} {f f1 : FuncId} (hd : dec P f = some (g_order_rows_api_Value f1)) (h1 : CmpFuncVOk P f1) : CmpFuncVOk P f := by
  intro d v w a b g hv hw hg
  obtain ⟨pa, ca, rfl⟩ := RSl.val hv
  obtain ⟨pb, cb, rfl⟩ := RSl.val hw
  refine GPure.of' hd (Nat.le_of_ble_eq_true rfl) ?_
  show gwp P _ _ _ _ _
  (apply w_sq; apply w_reg; apply w_mvi; rfl; apply w_done0; apply w_sq; apply w_reg; apply w_mvs; rfl; apply w_mvs; rfl; apply w_mvf; rfl)
  refine w_pure rfl (h1 hv hw hg) ?_
  (apply w_mvi; rfl; apply w_done0; apply w_ret)
  exact finQ rfl
def g_order_rows_string (f_slices_CompareFunc_string_string_string_string : Nat) : GFun :=
 ⟨11, [(.tmp 6)],
 (.seq
 (.reg false (.op false ⟨(some 6), none, (.mv (.const (.int .i64 0)))⟩ .done))
 (.seq
 (.reg false (.op false ⟨(some 7), none, (.mv (.tmp 0))⟩
  (.op false ⟨(some 8), none, (.mv (.tmp 1))⟩
  (.op false ⟨(some 9), none, (.mv (.tmp 2))⟩
  (.op false ⟨(some 10), none, (.call f_slices_CompareFunc_string_string_string_string [(.tmp 7), (.tmp 8), (.tmp 9)])⟩
  (.op false ⟨(some 6), none, (.mv (.tmp 10))⟩ .done)))))) .ret))⟩

theorem rowss_ok {P : Program} {f f1 : FuncId} (hd : dec P f = some (g_order_rows_string f1)) (h1 : CmpFuncSOk P f1) : CmpFuncSOk P f := by
  intro d v w a b g hv hw hg
  obtain ⟨pa, ca, rfl⟩ := RSl.val hv
  obtain ⟨pb, cb, rfl⟩ := RSl.val hw
  refine GPure.of' hd (Nat.le_of_ble_eq_true rfl) ?_
  show gwp P _ _ _ _ _
  (apply w_sq; apply w_reg; apply w_mvi; rfl; apply w_done0; apply w_sq; apply w_reg; apply w_mvs; rfl; apply w_mvs; rfl; apply w_mvf; rfl)
  refine w_pure rfl (h1 hv hw hg) ?_
  (apply w_mvi; rfl; apply w_done0; apply w_ret)
  exact finQ rfl
def CmpVOk (T : PHeap → Prop) (P : Program) (f : FuncId) : Prop := ∀ (a b : V) {d : PHeap} {cs ds : List Value}, T d → RVal d cs a → RVal d ds b → mayV a = true → mayV b = true → GPure P f [.agg cs.toArray, .agg ds.toArray] d (.int .i64 (cmpV a b))
def g_order_compare (f_cmp_Compare_int f_num_Cmp f_strings_Compare f_order_rows_string f_order_rows_api_Value f_order_compare : Nat) : GFun :=
 ⟨53, [(.tmp 4)],
 (.seq
 (.reg false (.op false ⟨(some 2), none, (.box (.tmp 0))⟩
  (.op false ⟨(some 3), none, (.box (.tmp 1))⟩
  (.op false ⟨(some 4), none, (.mv (.const (.int .i64 0)))⟩ .done))))
 (.seq (.seq
 (.reg false (.op false ⟨(some 8), none, (.fld 0 (.tmp 2))⟩
  (.op false ⟨(some 9), none, (.ld none (.tmp 8))⟩
  (.op false ⟨(some 10), none, (.fld 0 (.tmp 3))⟩
  (.op false ⟨(some 11), none, (.ld none (.tmp 10))⟩
  (.op false ⟨(some 12), none, (.bin .neq (.tmp 9) (.tmp 11))⟩ .done)))))) (.cond (.tmp 12)
 (.seq
 (.reg false (.op false ⟨(some 13), none, (.fld 0 (.tmp 2))⟩
  (.op false ⟨(some 14), none, (.ld none (.tmp 13))⟩
  (.op false ⟨(some 15), none, (.fld 0 (.tmp 3))⟩
  (.op false ⟨(some 16), none, (.ld none (.tmp 15))⟩
  (.op false ⟨(some 17), none, (.call f_cmp_Compare_int [(.tmp 14), (.tmp 16)])⟩
  (.op false ⟨(some 4), none, (.mv (.tmp 17))⟩ .done))))))) .ret) .skip))
 (.seq (.seq
 (.reg false (.op false ⟨(some 18), none, (.fld 0 (.tmp 2))⟩
  (.op false ⟨(some 19), none, (.ld none (.tmp 18))⟩ .done))) (.block 0
 (.seq
 (.reg false (.op false ⟨(some 21), none, (.bin .eql (.tmp 19) (.const (.int .i64 3)))⟩
  (.op false ⟨(some 20), none, (.mv (.tmp 21))⟩ .done))) (.cond (.tmp 20)
 (.seq
 (.reg false (.op false ⟨(some 23), none, (.fld 1 (.tmp 2))⟩
  (.op false ⟨(some 24), none, (.ld (some 2) (.tmp 23))⟩
  (.op false ⟨(some 25), none, (.fld 1 (.tmp 3))⟩
  (.op false ⟨(some 26), none, (.ld (some 2) (.tmp 25))⟩
  (.op false ⟨(some 27), none, (.call f_num_Cmp [(.tmp 24), (.tmp 26)])⟩
  (.op false ⟨(some 22), none, (.mv (.tmp 27))⟩
  (.op false ⟨(some 28), none, (.ext (.tmp 22) 0)⟩
  (.op false ⟨(some 29), none, (.ext (.tmp 22) 1)⟩
  (.op false ⟨(some 5), none, (.mv (.tmp 28))⟩
  (.op false ⟨(some 6), none, (.mv (.tmp 29))⟩ .done)))))))))))
 (.seq
 (.reg false (.op false ⟨(some 30), none, (.mv (.tmp 5))⟩
  (.op false ⟨(some 4), none, (.mv (.tmp 30))⟩ .done))) .ret))
 (.seq
 (.reg false (.op false ⟨(some 32), none, (.bin .eql (.tmp 19) (.const (.int .i64 4)))⟩
  (.op false ⟨(some 31), none, (.mv (.tmp 32))⟩ .done))) (.cond (.tmp 31)
 (.seq
 (.reg false (.op false ⟨(some 33), none, (.fld 3 (.tmp 2))⟩
  (.op false ⟨(some 34), none, (.ld none (.tmp 33))⟩
  (.op false ⟨(some 35), none, (.fld 3 (.tmp 3))⟩
  (.op false ⟨(some 36), none, (.ld none (.tmp 35))⟩
  (.op false ⟨(some 37), none, (.call f_strings_Compare [(.tmp 34), (.tmp 36)])⟩
  (.op false ⟨(some 4), none, (.mv (.tmp 37))⟩ .done))))))) .ret)
 (.seq
 (.reg false (.op false ⟨(some 39), none, (.bin .eql (.tmp 19) (.const (.int .i64 6)))⟩
  (.op false ⟨(some 38), none, (.mv (.tmp 39))⟩ .done))) (.cond (.tmp 38)
 (.seq
 (.reg false (.op false ⟨(some 40), none, (.fld 5 (.tmp 2))⟩
  (.op false ⟨(some 41), none, (.ld none (.tmp 40))⟩
  (.op false ⟨(some 42), none, (.fld 5 (.tmp 3))⟩
  (.op false ⟨(some 43), none, (.ld none (.tmp 42))⟩
  (.op false ⟨(some 44), none, (.call f_order_rows_string [(.tmp 41), (.tmp 43), (.func f_strings_Compare)])⟩
  (.op false ⟨(some 7), none, (.mv (.tmp 44))⟩ .done)))))))
 (.seq
 (.reg false (.op false ⟨(some 45), none, (.mv (.tmp 7))⟩
  (.op false ⟨(some 46), none, (.bin .neq (.tmp 45) (.const (.int .i64 0)))⟩ .done))) (.cond (.tmp 46)
 (.seq
 (.reg false (.op false ⟨(some 47), none, (.mv (.tmp 7))⟩
  (.op false ⟨(some 4), none, (.mv (.tmp 47))⟩ .done))) .ret) .skip))) .skip))))))))
 (.seq
 (.reg false (.op false ⟨(some 48), none, (.fld 4 (.tmp 2))⟩
  (.op false ⟨(some 49), none, (.ld none (.tmp 48))⟩
  (.op false ⟨(some 50), none, (.fld 4 (.tmp 3))⟩
  (.op false ⟨(some 51), none, (.ld none (.tmp 50))⟩
  (.op false ⟨(some 52), none, (.call f_order_rows_api_Value [(.tmp 49), (.tmp 51), (.func f_order_compare)])⟩
  (.op false ⟨(some 4), none, (.mv (.tmp 52))⟩ .done))))))) .ret))))⟩

set_option maxHeartbeats 1000000 in
theorem ocompare_ok {T : PHeap → Prop} {P : Program} {f f1 f2 f3 f4 f5 : FuncId} (hd : dec P f = some (g_order_compare f1 f2 f3 f4 f5 f)) (h1 : CmpIOk P f1) (h2 : NumCmpOk T P f2) (h3 : CmpSOk P f3) (h4 : CmpFuncSOk P f4) (h5 : CmpFuncVOk P f5) : CmpVOk T P f := by
  intro a
  induction a using V.ind with
  | h a ih =>
  intro b d cs ds ht ha hb ma mb
  refine GPure.of' hd (Nat.le_of_ble_eq_true rfl) ?_
  obtain ⟨x1, x2, x3, x4, x5, x6⟩ := may_bare ma
  obtain ⟨y1, y2, y3, y4, y5, y6⟩ := may_bare mb
  have hE := cmpV_eq a b
  obtain ⟨lv, kv, rfl, ik, im, ie, it, hl, hks⟩ := ha.open
  obtain ⟨lv', kv', rfl, ik', im', ie', it', hl', hks'⟩ := hb.open
  obtain ⟨la, lc, rfl⟩ := RSl.val hl
  obtain ⟨ka, kc, rfl⟩ := RSl.val hks
  obtain ⟨la', lc', rfl⟩ := RSl.val hl'
  obtain ⟨ka', kc', rfl⟩ := RSl.val hks'
  have hih : ∀ x ∈ a.list, ∀ y ∈ b.list, ∀ cs ds, RVal d cs x → RVal d ds y → GPure P f [.agg cs.toArray, .agg ds.toArray] d (.int .i64 (cmpV x y)) := fun x hx y hy cs ds hcx hcy => ih x hx y ht hcx hcy (may_mem ma hx) (may_mem mb hy)
  show gwp P _ _ _ _ _
  apply w_sq; apply w_reg
  refine w_boxa (l := [.int .i64 a.kind, .int .i64 a.m, .int .i64 a.e, strV a.text, .slice la a.list.length lc, .slice ka a.keys.length kc]) rfl (fun b2 T2 => ?_)
  refine w_boxa (l := [.int .i64 b.kind, .int .i64 b.m, .int .i64 b.e, strV b.text, .slice la' b.list.length lc', .slice ka' b.keys.length kc']) rfl (fun b3 T3 => ?_)
  by_cases p1 : a.kind = b.kind
  · rw [p1, cmpI_eq rfl, thn0] at hE
    by_cases p3 : b.kind = 3
    · rw [if_pos p3, y3.resolve_left (by omega), x3.resolve_left (by omega), y5.resolve_left (by omega), x5.resolve_left (by omega), y4.resolve_left (by omega), x4.resolve_left (by omega)] at hE
      have hE : cmpV a b = numC a.m a.e b.m b.e := by rw [hE]; exact thn_0 _
      have hn : numCmpF a.m a.e b.m b.e = (cmpV a b, 0) := by rw [hE, numCmpF, x6, y6]; rfl
      (apply w_mvi; rfl; apply w_done0; apply w_sq; apply w_sq; apply w_reg; apply w_fld; rfl; apply w_ld; rfl; exact hc_i 1 rfl rfl; apply w_fld; rfl; apply w_ld; rfl; exact hc_i 0 rfl rfl; apply w_neq; rfl; rfl; apply w_done0; refine w_ifdF rfl (by omega) ?_; apply w_skip; apply w_sq; apply w_sq; apply w_reg; apply w_fld; rfl; apply w_ld; rfl; exact hc_i 1 rfl rfl; apply w_done0; apply w_block; apply w_sq; apply w_reg; apply w_eql; rfl; rfl; apply w_mvb; rfl; apply w_done0; refine w_ifdT rfl (by omega) ?_; apply w_sq; apply w_reg; apply w_fld; rfl; apply w_ldp 1; rfl; rfl; rfl; apply w_fld; rfl; apply w_ldp 0; rfl; rfl; rfl)
      refine w_pure rfl (h2 ht im ie im' ie') ?_
      rw [hn]
      (apply w_mvu; rfl; apply w_ext; rfl; rfl; apply w_ext; rfl; rfl; apply w_mvi; rfl; apply w_mvi; rfl; apply w_done0; apply w_sq; apply w_reg; apply w_mvi; rfl; apply w_mvi; rfl; apply w_done0; apply w_ret)
      exact finQ rfl
    rw [if_neg p3, thn0] at hE
    by_cases p4 : b.kind = 4
    · rw [y5.resolve_left (by omega), x5.resolve_left (by omega), y4.resolve_left (by omega), x4.resolve_left (by omega)] at hE
      have hE : cmpV a b = cmpB a.text b.text := by rw [hE]; exact thn_0 _
      (apply w_mvi; rfl; apply w_done0; apply w_sq; apply w_sq; apply w_reg; apply w_fld; rfl; apply w_ld; rfl; exact hc_i 1 rfl rfl; apply w_fld; rfl; apply w_ld; rfl; exact hc_i 0 rfl rfl; apply w_neq; rfl; rfl; apply w_done0; refine w_ifdF rfl (by omega) ?_; apply w_skip; apply w_sq; apply w_sq; apply w_reg; apply w_fld; rfl; apply w_ld; rfl; exact hc_i 1 rfl rfl; apply w_done0; apply w_block; apply w_sq; apply w_reg; apply w_eql; rfl; rfl; apply w_mvb; rfl; apply w_done0; refine w_ifdF rfl (by omega) ?_; apply w_sq; apply w_reg; apply w_eql; rfl; rfl; apply w_mvb; rfl; apply w_done0; refine w_ifdT rfl (by omega) ?_; apply w_sq; apply w_reg; apply w_fld; rfl; apply w_ld; rfl; exact hc_i 1 rfl rfl; apply w_fld; rfl; apply w_ld; rfl; exact hc_i 0 rfl rfl)
      refine w_pure rfl h3 ?_
      (apply w_mvi; rfl; apply w_done0; apply w_ret)
      exact finQ (int_eq hE.symm)
    rw [y3.resolve_left (by omega), x3.resolve_left (by omega), show cmpB [] [] = 0 from rfl, thn0] at hE
    by_cases p6 : b.kind = 6
    · (apply w_mvi; rfl; apply w_done0; apply w_sq; apply w_sq; apply w_reg; apply w_fld; rfl; apply w_ld; rfl; exact hc_i 1 rfl rfl; apply w_fld; rfl; apply w_ld; rfl; exact hc_i 0 rfl rfl; apply w_neq; rfl; rfl; apply w_done0; refine w_ifdF rfl (by omega) ?_; apply w_skip; apply w_sq; apply w_sq; apply w_reg; apply w_fld; rfl; apply w_ld; rfl; exact hc_i 1 rfl rfl; apply w_done0; apply w_block; apply w_sq; apply w_reg; apply w_eql; rfl; rfl; apply w_mvb; rfl; apply w_done0; refine w_ifdF rfl (by omega) ?_; apply w_sq; apply w_reg; apply w_eql; rfl; rfl; apply w_mvb; rfl; apply w_done0; refine w_ifdF rfl (by omega) ?_; apply w_sq; apply w_reg; apply w_eql; rfl; rfl; apply w_mvb; rfl; apply w_done0; refine w_ifdT rfl (by omega) ?_; apply w_sq; apply w_reg; apply w_fld; rfl; apply w_ld; rfl; exact hc_i 1 rfl rfl; apply w_fld; rfl; apply w_ld; rfl; exact hc_i 0 rfl rfl)
      refine w_pure rfl (h4 hks hks' h3) ?_
      by_cases hz : lexF cmpB a.keys b.keys = 0
      · rw [hz, thn0] at hE
        (apply w_mvi; rfl; apply w_done0; apply w_sq; apply w_reg; apply w_mvi; rfl; apply w_neq; rfl; rfl; apply w_done0; refine w_ifdF rfl (by omega) ?_; apply w_skip; apply w_sq; apply w_reg; apply w_fld; rfl; apply w_ld; rfl; exact hc_i 1 rfl rfl; apply w_fld; rfl; apply w_ld; rfl; exact hc_i 0 rfl rfl)
        refine w_pure rfl (h5 hl hl' hih) ?_
        (apply w_mvi; rfl; apply w_done0; apply w_ret)
        exact finQ (int_eq hE.symm)
      · rw [thnN hz] at hE
        (apply w_mvi; rfl; apply w_done0; apply w_sq; apply w_reg; apply w_mvi; rfl; apply w_neq; rfl; rfl; apply w_done0; refine w_ifdT rfl (by omega) ?_; apply w_sq; apply w_reg; apply w_mvi; rfl; apply w_mvi; rfl; apply w_done0; apply w_ret)
        exact finQ (int_eq hE.symm)
    · rw [y5.resolve_left (by omega), x5.resolve_left (by omega), lexF_nil, thn0] at hE
      (apply w_mvi; rfl; apply w_done0; apply w_sq; apply w_sq; apply w_reg; apply w_fld; rfl; apply w_ld; rfl; exact hc_i 1 rfl rfl; apply w_fld; rfl; apply w_ld; rfl; exact hc_i 0 rfl rfl; apply w_neq; rfl; rfl; apply w_done0; refine w_ifdF rfl (by omega) ?_; apply w_skip; apply w_sq; apply w_sq; apply w_reg; apply w_fld; rfl; apply w_ld; rfl; exact hc_i 1 rfl rfl; apply w_done0; apply w_block; apply w_sq; apply w_reg; apply w_eql; rfl; rfl; apply w_mvb; rfl; apply w_done0; refine w_ifdF rfl (by omega) ?_; apply w_sq; apply w_reg; apply w_eql; rfl; rfl; apply w_mvb; rfl; apply w_done0; refine w_ifdF rfl (by omega) ?_; apply w_sq; apply w_reg; apply w_eql; rfl; rfl; apply w_mvb; rfl; apply w_done0; refine w_ifdF rfl (by omega) ?_; apply w_skip; apply w_sq; apply w_reg; apply w_fld; rfl; apply w_ld; rfl; exact hc_i 1 rfl rfl; apply w_fld; rfl; apply w_ld; rfl; exact hc_i 0 rfl rfl)
      refine w_pure rfl (h5 hl hl' hih) ?_
      (apply w_mvi; rfl; apply w_done0; apply w_ret)
      exact finQ (int_eq hE.symm)
  · have hz : cmpI a.kind b.kind ≠ 0 := fun q => p1 (cmpI_zero.1 q)
    rw [thnN hz] at hE
    (apply w_mvi; rfl; apply w_done0; apply w_sq; apply w_sq; apply w_reg; apply w_fld; rfl; apply w_ld; rfl; exact hc_i 1 rfl rfl; apply w_fld; rfl; apply w_ld; rfl; exact hc_i 0 rfl rfl; apply w_neq; rfl; rfl; apply w_done0; refine w_ifdT rfl (by omega) ?_; apply w_sq; apply w_reg; apply w_fld; rfl; apply w_ld; rfl; exact hc_i 1 rfl rfl; apply w_fld; rfl; apply w_ld; rfl; exact hc_i 0 rfl rfl)
    refine w_pure rfl h1 ?_
    (apply w_mvi; rfl; apply w_done0; apply w_ret)
    exact finQ (int_eq hE.symm)
/-- What two values' order is, or what is wrong. -/
def cmpTop (a b : V) : Int × Int := if rightV a ≠ 0 then (0, rightV a) else if rightV b ≠ 0 then (0, rightV b) else (cmpV a b, 0)
def CmpTopOk (T : PHeap → Prop) (P : Program) (f : FuncId) : Prop := ∀ (a b : V) {d : PHeap} {cs ds : List Value}, T d → RVal d cs a → RVal d ds b → depthV a ≤ 1000000000 → depthV b ≤ 1000000000 → GPure P f [.agg cs.toArray, .agg ds.toArray] d (.tuple #[.int .i64 (cmpTop a b).1, .int .i64 (cmpTop a b).2])
theorem right_small (v : V) : rightV v = 0 ∨ rightV v = 30 ∨ rightV v = 31 := by rw [rightV]; split <;> (try split) <;> simp
def g_order_Cmp (f_value_Right f_order_compare : Nat) : GFun :=
 ⟨21, [(.tmp 4), (.tmp 5)],
 (.seq
 (.reg false (.op false ⟨(some 2), none, (.box (.tmp 0))⟩
  (.op false ⟨(some 3), none, (.box (.tmp 1))⟩
  (.op false ⟨(some 4), none, (.mv (.const (.int .i64 0)))⟩
  (.op false ⟨(some 5), none, (.mv (.const (.int .i64 0)))⟩ .done)))))
 (.seq (.seq
 (.reg false (.op false ⟨(some 8), none, (.ld (some 6) (.tmp 2))⟩
  (.op false ⟨(some 9), none, (.call f_value_Right [(.tmp 8)])⟩
  (.op false ⟨(some 6), none, (.mv (.tmp 9))⟩ .done))))
 (.seq
 (.reg false (.op false ⟨(some 10), none, (.mv (.tmp 6))⟩
  (.op false ⟨(some 11), none, (.bin .neq (.tmp 10) (.const (.int .i64 0)))⟩ .done))) (.cond (.tmp 11)
 (.seq
 (.reg false (.op false ⟨(some 12), none, (.mv (.tmp 6))⟩
  (.op false ⟨(some 4), none, (.mv (.const (.int .i64 0)))⟩
  (.op false ⟨(some 5), none, (.mv (.tmp 12))⟩ .done)))) .ret) .skip)))
 (.seq (.seq
 (.reg false (.op false ⟨(some 13), none, (.ld (some 6) (.tmp 3))⟩
  (.op false ⟨(some 14), none, (.call f_value_Right [(.tmp 13)])⟩
  (.op false ⟨(some 7), none, (.mv (.tmp 14))⟩ .done))))
 (.seq
 (.reg false (.op false ⟨(some 15), none, (.mv (.tmp 7))⟩
  (.op false ⟨(some 16), none, (.bin .neq (.tmp 15) (.const (.int .i64 0)))⟩ .done))) (.cond (.tmp 16)
 (.seq
 (.reg false (.op false ⟨(some 17), none, (.mv (.tmp 7))⟩
  (.op false ⟨(some 4), none, (.mv (.const (.int .i64 0)))⟩
  (.op false ⟨(some 5), none, (.mv (.tmp 17))⟩ .done)))) .ret) .skip)))
 (.seq
 (.reg false (.op false ⟨(some 18), none, (.ld (some 6) (.tmp 2))⟩
  (.op false ⟨(some 19), none, (.ld (some 6) (.tmp 3))⟩
  (.op false ⟨(some 20), none, (.call f_order_compare [(.tmp 18), (.tmp 19)])⟩
  (.op false ⟨(some 4), none, (.mv (.tmp 20))⟩
  (.op false ⟨(some 5), none, (.mv (.const (.int .i64 0)))⟩ .done)))))) .ret))))⟩

set_option maxHeartbeats 1000000 in
theorem ocmp_ok {T : PHeap → Prop} {P : Program} {f f1 f2 : FuncId} (hd : dec P f = some (g_order_Cmp f1 f2)) (h1 : RightOk T P f1) (h2 : CmpVOk T P f2) : CmpTopOk T P f := by
  intro a b d cs ds ht ha hb _ _
  refine GPure.of' hd (Nat.le_of_ble_eq_true rfl) ?_
  obtain ⟨c0, c1, c2, c3, c4, c5, rfl⟩ := six ha.len
  obtain ⟨e0, e1, e2, e3, e4, e5, rfl⟩ := six hb.len
  have qa := right_small a
  have qb := right_small b
  show gwp P _ _ _ _ _
  apply w_sq; apply w_reg
  refine w_boxa (l := [c0, c1, c2, c3, c4, c5]) rfl (fun b2 T2 => ?_)
  refine w_boxa (l := [e0, e1, e2, e3, e4, e5]) rfl (fun b3 T3 => ?_)
  by_cases p1 : rightV a = 0
  · by_cases p2 : rightV b = 0
    · rw [cmpTop, if_neg (by omega), if_neg (by omega)]
      (apply w_mvi; rfl; apply w_mvi; rfl; apply w_done0; apply w_sq; apply w_sq; apply w_reg; apply w_ldb 1; rfl; rfl; rfl)
      refine w_pure rfl (h1 ht ha) ?_
      (apply w_mvi; rfl; apply w_done0; apply w_sq; apply w_reg; apply w_mvi; rfl; apply w_neq; rfl; rfl; apply w_done0; refine w_ifdF rfl (by omega) ?_; apply w_skip; apply w_sq; apply w_sq; apply w_reg; apply w_ldb 0; rfl; rfl; rfl)
      refine w_pure rfl (h1 ht hb) ?_
      (apply w_mvi; rfl; apply w_done0; apply w_sq; apply w_reg; apply w_mvi; rfl; apply w_neq; rfl; rfl; apply w_done0; refine w_ifdF rfl (by omega) ?_; apply w_skip; apply w_sq; apply w_reg; apply w_ldb 1; rfl; rfl; rfl; apply w_ldb 0; rfl; rfl; rfl)
      refine w_pure rfl (h2 a b ht ha hb (right_iff.1 p1).1 (right_iff.1 p2).1) ?_
      (apply w_mvi; rfl; apply w_mvi; rfl; apply w_done0; apply w_ret)
      exact finQ2 rfl rfl
    · rw [cmpTop, if_neg (by omega), if_pos p2]
      (apply w_mvi; rfl; apply w_mvi; rfl; apply w_done0; apply w_sq; apply w_sq; apply w_reg; apply w_ldb 1; rfl; rfl; rfl)
      refine w_pure rfl (h1 ht ha) ?_
      (apply w_mvi; rfl; apply w_done0; apply w_sq; apply w_reg; apply w_mvi; rfl; apply w_neq; rfl; rfl; apply w_done0; refine w_ifdF rfl (by omega) ?_; apply w_skip; apply w_sq; apply w_sq; apply w_reg; apply w_ldb 0; rfl; rfl; rfl)
      refine w_pure rfl (h1 ht hb) ?_
      (apply w_mvi; rfl; apply w_done0; apply w_sq; apply w_reg; apply w_mvi; rfl; apply w_neq; rfl; rfl; apply w_done0; refine w_ifdT rfl (by omega) ?_; apply w_sq; apply w_reg; apply w_mvi; rfl; apply w_mvi; rfl; apply w_mvi; rfl; apply w_done0; apply w_ret)
      exact finQ2 rfl rfl
  · rw [cmpTop, if_pos p1]
    (apply w_mvi; rfl; apply w_mvi; rfl; apply w_done0; apply w_sq; apply w_sq; apply w_reg; apply w_ldb 1; rfl; rfl; rfl)
    refine w_pure rfl (h1 ht ha) ?_
    (apply w_mvi; rfl; apply w_done0; apply w_sq; apply w_reg; apply w_mvi; rfl; apply w_neq; rfl; rfl; apply w_done0; refine w_ifdT rfl (by omega) ?_; apply w_sq; apply w_reg; apply w_mvi; rfl; apply w_mvi; rfl; apply w_mvi; rfl; apply w_done0; apply w_ret)
    exact finQ2 rfl rfl
end Go.Gk.Val
end

section
/-
  Two and three values as a literal.
-/
namespace Go.Gk.Val
open Go Go.Gk
section
variable {P : Program} {pan : List PanicEntry → Post} {Qn : Env → Post} {Ls L : List PHeap} {ρ : Env} {d : PHeap} {s : GS} {t : Nat} {tk : Bool}
theorem w_bsV2 {x y : Operand} {a b : List Value} (ex : ev ρ x = .agg a.toArray) (ha : a.length = 6) (ey : ev ρ y = .agg b.toArray) (hb : b.length = 6) (h : ∀ q T, gws P pan Qn s Ls (upd ρ t (.slice (some ⟨q, 0, none⟩) 2 2)) d (bx q T (a ++ b) :: L)) :
    gws P pan Qn (.op false ⟨some t, none, .bsl 2 6 [.int .i64 0, .int .i64 0, .int .i64 0, strV [], .slice none 0 0, .slice none 0 0] [(0, x), (1, y)]⟩ s) Ls ρ d L := by
  obtain ⟨a0, a1, a2, a3, a4, a5, rfl⟩ := six ha
  obtain ⟨b0, b1, b2, b3, b4, b5, rfl⟩ := six hb
  refine w_bsl (by omega) ?_ h
  simp [Instr.fill, zrow, List.range, List.range.loop, ex, ey, Value.cells]
theorem w_bsV3 {x y z : Operand} {a b c : List Value} (ex : ev ρ x = .agg a.toArray) (ha : a.length = 6) (ey : ev ρ y = .agg b.toArray) (hb : b.length = 6) (ez : ev ρ z = .agg c.toArray) (hc : c.length = 6)
    (h : ∀ q T, gws P pan Qn s Ls (upd ρ t (.slice (some ⟨q, 0, none⟩) 3 3)) d (bx q T (a ++ b ++ c) :: L)) :
    gws P pan Qn (.op false ⟨some t, none, .bsl 3 6 [.int .i64 0, .int .i64 0, .int .i64 0, strV [], .slice none 0 0, .slice none 0 0] [(0, x), (1, y), (2, z)]⟩ s) Ls ρ d L := by
  obtain ⟨a0, a1, a2, a3, a4, a5, rfl⟩ := six ha
  obtain ⟨b0, b1, b2, b3, b4, b5, rfl⟩ := six hb
  obtain ⟨c0, c1, c2, c3, c4, c5, rfl⟩ := six hc
  refine w_bsl (by omega) ?_ h
  simp [Instr.fill, zrow, List.range, List.range.loop, ex, ey, ez, Value.cells]
end
theorem rvals2 {d d' : PHeap} {q : Nat} {T : TypeId} {a b : List Value} {x y : V} (hx : RVal d a x) (hy : RVal d b y) (hl : Le d d') (h : Le (bx q T (a ++ b)) d') : RVals d' (.slice (some ⟨q, 0, none⟩) 2 2) [x, y] := by
  obtain ⟨a0, a1, a2, a3, a4, a5, rfl⟩ := six hx.len
  obtain ⟨b0, b1, b2, b3, b4, b5, rfl⟩ := six hy.len
  have o := ORow.lit (sz := 6) (b := q) (T := T) (n := 2) (l := [a0, a1, a2, a3, a4, a5] ++ [b0, b1, b2, b3, b4, b5]) rfl (by omega)
  refine o.rsl (R := RVal) h rfl (by omega) (fun i hi => ?_)
  have hi2 : i < 2 := hi
  obtain rfl | rfl : i = 0 ∨ i = 1 := by omega
  · exact RVal.mono hl hx
  · exact RVal.mono hl hy
theorem rvals3 {d d' : PHeap} {q : Nat} {T : TypeId} {a b c : List Value} {x y z : V} (hx : RVal d a x) (hy : RVal d b y) (hz : RVal d c z) (hl : Le d d') (h : Le (bx q T (a ++ b ++ c)) d') : RVals d' (.slice (some ⟨q, 0, none⟩) 3 3) [x, y, z] := by
  obtain ⟨a0, a1, a2, a3, a4, a5, rfl⟩ := six hx.len
  obtain ⟨b0, b1, b2, b3, b4, b5, rfl⟩ := six hy.len
  obtain ⟨c0, c1, c2, c3, c4, c5, rfl⟩ := six hz.len
  have o := ORow.lit (sz := 6) (b := q) (T := T) (n := 3) (l := [a0, a1, a2, a3, a4, a5] ++ [b0, b1, b2, b3, b4, b5] ++ [c0, c1, c2, c3, c4, c5]) rfl (by omega)
  refine o.rsl (R := RVal) h rfl (by omega) (fun i hi => ?_)
  have hi2 : i < 3 := hi
  obtain rfl | rfl | rfl : i = 0 ∨ i = 1 ∨ i = 2 := by omega
  · exact RVal.mono hl hx
  · exact RVal.mono hl hy
  · exact RVal.mono hl hz
end Go.Gk.Val
end

section
/-
  The order of values: the reference.
-/
namespace Go.Gk.Val
open Go Go.Gk Go.Gk.Num
attribute [local irreducible] gwp gws

theorem thn_assoc (a b c : Int) : thn (thn a b) c = thn a (thn b c) := by
  by_cases h : a = 0
  · subst h; rw [thn0, thn0]
  · rw [thnN h, thnN h, thnN h]
def g_thimbleref04_Compare (f_thimbleref04_kinds f_thimbleref01_Cmp f_thimbleref04_texts f_thimbleref04_Compare : Nat) : GFun :=
 ⟨112, [(.tmp 4)],
 (.seq
 (.reg false (.op false ⟨(some 2), none, (.box (.tmp 0))⟩
  (.op false ⟨(some 3), none, (.box (.tmp 1))⟩
  (.op false ⟨(some 4), none, (.mv (.const (.int .i64 0)))⟩ .done))))
 (.seq
 (.reg false (.op false ⟨(some 8), none, (.fld 0 (.tmp 2))⟩
  (.op false ⟨(some 9), none, (.ld none (.tmp 8))⟩
  (.op false ⟨(some 10), none, (.fld 0 (.tmp 3))⟩
  (.op false ⟨(some 11), none, (.ld none (.tmp 10))⟩
  (.op false ⟨(some 12), none, (.call f_thimbleref04_kinds [(.tmp 9), (.tmp 11)])⟩
  (.op false ⟨(some 5), none, (.mv (.tmp 12))⟩ .done)))))))
 (.seq (.seq
 (.reg false (.op false ⟨(some 13), none, (.mv (.tmp 5))⟩
  (.op false ⟨(some 14), none, (.bin .eql (.tmp 13) (.const (.int .i64 0)))⟩
  (.op false ⟨(some 15), none, (.mv (.tmp 14))⟩
  (.op false ⟨(some 16), (some (15, true)), (.fld 0 (.tmp 2))⟩
  (.op false ⟨(some 17), (some (15, true)), (.ld none (.tmp 16))⟩
  (.op false ⟨(some 18), (some (15, true)), (.bin .eql (.tmp 17) (.const (.int .i64 3)))⟩
  (.op false ⟨(some 19), none, (.pick (.tmp 15) (.tmp 18) (.const (.bool false)))⟩ .done)))))))) (.cond (.tmp 19)
 (.reg false (.op false ⟨(some 21), none, (.fld 1 (.tmp 2))⟩
  (.op false ⟨(some 22), none, (.ld (some 2) (.tmp 21))⟩
  (.op false ⟨(some 23), none, (.fld 1 (.tmp 3))⟩
  (.op false ⟨(some 24), none, (.ld (some 2) (.tmp 23))⟩
  (.op false ⟨(some 25), none, (.call f_thimbleref01_Cmp [(.tmp 22), (.tmp 24)])⟩
  (.op false ⟨(some 20), none, (.mv (.tmp 25))⟩
  (.op false ⟨(some 26), none, (.ext (.tmp 20) 0)⟩
  (.op false ⟨(some 27), none, (.ext (.tmp 20) 1)⟩
  (.op false ⟨(some 5), none, (.mv (.tmp 26))⟩ .done)))))))))) .skip))
 (.seq (.seq
 (.reg false (.op false ⟨(some 28), none, (.mv (.tmp 5))⟩
  (.op false ⟨(some 29), none, (.bin .eql (.tmp 28) (.const (.int .i64 0)))⟩ .done))) (.cond (.tmp 29)
 (.reg false (.op false ⟨(some 30), none, (.fld 3 (.tmp 2))⟩
  (.op false ⟨(some 31), none, (.ld none (.tmp 30))⟩
  (.op false ⟨(some 32), none, (.fld 3 (.tmp 3))⟩
  (.op false ⟨(some 33), none, (.ld none (.tmp 32))⟩
  (.op false ⟨(some 34), none, (.call f_thimbleref04_texts [(.tmp 31), (.tmp 33)])⟩
  (.op false ⟨(some 5), none, (.mv (.tmp 34))⟩ .done))))))) .skip))
 (.seq (.seq
 (.reg false (.op false ⟨(some 6), none, (.mv (.const (.int .i64 0)))⟩ .done)) (.block 0 (.loop
 (.seq (.seq
 (.reg false (.op false ⟨(some 35), none, (.mv (.tmp 5))⟩
  (.op false ⟨(some 36), none, (.bin .eql (.tmp 35) (.const (.int .i64 0)))⟩
  (.op false ⟨(some 37), none, (.mv (.tmp 36))⟩
  (.op false ⟨(some 38), (some (37, true)), (.mv (.tmp 6))⟩
  (.op false ⟨(some 39), (some (37, true)), (.fld 5 (.tmp 2))⟩
  (.op false ⟨(some 40), (some (37, true)), (.ld none (.tmp 39))⟩
  (.op false ⟨(some 41), (some (37, true)), (.len (.tmp 40))⟩
  (.op false ⟨(some 42), (some (37, true)), (.bin .lss (.tmp 38) (.tmp 41))⟩
  (.op false ⟨(some 43), none, (.pick (.tmp 37) (.tmp 42) (.const (.bool false)))⟩
  (.op false ⟨(some 44), none, (.mv (.tmp 43))⟩
  (.op false ⟨(some 45), (some (44, true)), (.mv (.tmp 6))⟩
  (.op false ⟨(some 46), (some (44, true)), (.fld 5 (.tmp 3))⟩
  (.op false ⟨(some 47), (some (44, true)), (.ld none (.tmp 46))⟩
  (.op false ⟨(some 48), (some (44, true)), (.len (.tmp 47))⟩
  (.op false ⟨(some 49), (some (44, true)), (.bin .lss (.tmp 45) (.tmp 48))⟩
  (.op false ⟨(some 50), none, (.pick (.tmp 44) (.tmp 49) (.const (.bool false)))⟩ .done))))))))))))))))) (.cond (.tmp 50) .skip (.exit 0)))
 (.seq (.block 1
 (.reg true (.op true ⟨(some 53), none, (.fld 5 (.tmp 2))⟩
  (.op true ⟨(some 54), none, (.ld none (.tmp 53))⟩
  (.op true ⟨(some 55), none, (.mv (.tmp 6))⟩
  (.op true ⟨(some 56), none, (.idx 1 (.tmp 54) (.tmp 55))⟩
  (.op true ⟨(some 57), none, (.ld none (.tmp 56))⟩
  (.op true ⟨(some 58), none, (.fld 5 (.tmp 3))⟩
  (.op true ⟨(some 59), none, (.ld none (.tmp 58))⟩
  (.op true ⟨(some 60), none, (.mv (.tmp 6))⟩
  (.op true ⟨(some 61), none, (.idx 1 (.tmp 59) (.tmp 60))⟩
  (.op true ⟨(some 62), none, (.ld none (.tmp 61))⟩
  (.op false ⟨(some 63), none, (.call f_thimbleref04_texts [(.tmp 57), (.tmp 62)])⟩
  (.bar (.op true ⟨(some 5), none, (.mv (.tmp 63))⟩ .done)))))))))))))))
 (.reg false (.op false ⟨(some 51), none, (.mv (.tmp 6))⟩
  (.op false ⟨(some 52), none, (.bin .add (.tmp 51) (.const (.int .i64 1)))⟩
  (.op false ⟨(some 6), none, (.mv (.tmp 52))⟩ .done)))))))))
 (.seq (.seq
 (.reg false (.op false ⟨(some 64), none, (.mv (.tmp 5))⟩
  (.op false ⟨(some 65), none, (.bin .eql (.tmp 64) (.const (.int .i64 0)))⟩ .done))) (.cond (.tmp 65)
 (.reg false (.op false ⟨(some 66), none, (.fld 5 (.tmp 2))⟩
  (.op false ⟨(some 67), none, (.ld none (.tmp 66))⟩
  (.op false ⟨(some 68), none, (.len (.tmp 67))⟩
  (.op false ⟨(some 69), none, (.fld 5 (.tmp 3))⟩
  (.op false ⟨(some 70), none, (.ld none (.tmp 69))⟩
  (.op false ⟨(some 71), none, (.len (.tmp 70))⟩
  (.op false ⟨(some 72), none, (.call f_thimbleref04_kinds [(.tmp 68), (.tmp 71)])⟩
  (.op false ⟨(some 5), none, (.mv (.tmp 72))⟩ .done))))))))) .skip))
 (.seq (.seq
 (.reg false (.op false ⟨(some 7), none, (.mv (.const (.int .i64 0)))⟩ .done)) (.block 2 (.loop
 (.seq (.seq
 (.reg false (.op false ⟨(some 73), none, (.mv (.tmp 5))⟩
  (.op false ⟨(some 74), none, (.bin .eql (.tmp 73) (.const (.int .i64 0)))⟩
  (.op false ⟨(some 75), none, (.mv (.tmp 74))⟩
  (.op false ⟨(some 76), (some (75, true)), (.mv (.tmp 7))⟩
  (.op false ⟨(some 77), (some (75, true)), (.fld 4 (.tmp 2))⟩
  (.op false ⟨(some 78), (some (75, true)), (.ld none (.tmp 77))⟩
  (.op false ⟨(some 79), (some (75, true)), (.len (.tmp 78))⟩
  (.op false ⟨(some 80), (some (75, true)), (.bin .lss (.tmp 76) (.tmp 79))⟩
  (.op false ⟨(some 81), none, (.pick (.tmp 75) (.tmp 80) (.const (.bool false)))⟩
  (.op false ⟨(some 82), none, (.mv (.tmp 81))⟩
  (.op false ⟨(some 83), (some (82, true)), (.mv (.tmp 7))⟩
  (.op false ⟨(some 84), (some (82, true)), (.fld 4 (.tmp 3))⟩
  (.op false ⟨(some 85), (some (82, true)), (.ld none (.tmp 84))⟩
  (.op false ⟨(some 86), (some (82, true)), (.len (.tmp 85))⟩
  (.op false ⟨(some 87), (some (82, true)), (.bin .lss (.tmp 83) (.tmp 86))⟩
  (.op false ⟨(some 88), none, (.pick (.tmp 82) (.tmp 87) (.const (.bool false)))⟩ .done))))))))))))))))) (.cond (.tmp 88) .skip (.exit 2)))
 (.seq (.block 3
 (.reg true (.op true ⟨(some 91), none, (.fld 4 (.tmp 2))⟩
  (.op true ⟨(some 92), none, (.ld none (.tmp 91))⟩
  (.op true ⟨(some 93), none, (.mv (.tmp 7))⟩
  (.op true ⟨(some 94), none, (.idx 6 (.tmp 92) (.tmp 93))⟩
  (.op true ⟨(some 95), none, (.ld (some 6) (.tmp 94))⟩
  (.op true ⟨(some 96), none, (.fld 4 (.tmp 3))⟩
  (.op true ⟨(some 97), none, (.ld none (.tmp 96))⟩
  (.op true ⟨(some 98), none, (.mv (.tmp 7))⟩
  (.op true ⟨(some 99), none, (.idx 6 (.tmp 97) (.tmp 98))⟩
  (.op true ⟨(some 100), none, (.ld (some 6) (.tmp 99))⟩
  (.op false ⟨(some 101), none, (.call f_thimbleref04_Compare [(.tmp 95), (.tmp 100)])⟩
  (.bar (.op true ⟨(some 5), none, (.mv (.tmp 101))⟩ .done)))))))))))))))
 (.reg false (.op false ⟨(some 89), none, (.mv (.tmp 7))⟩
  (.op false ⟨(some 90), none, (.bin .add (.tmp 89) (.const (.int .i64 1)))⟩
  (.op false ⟨(some 7), none, (.mv (.tmp 90))⟩ .done)))))))))
 (.seq (.seq
 (.reg false (.op false ⟨(some 102), none, (.mv (.tmp 5))⟩
  (.op false ⟨(some 103), none, (.bin .eql (.tmp 102) (.const (.int .i64 0)))⟩ .done))) (.cond (.tmp 103)
 (.reg false (.op false ⟨(some 104), none, (.fld 4 (.tmp 2))⟩
  (.op false ⟨(some 105), none, (.ld none (.tmp 104))⟩
  (.op false ⟨(some 106), none, (.len (.tmp 105))⟩
  (.op false ⟨(some 107), none, (.fld 4 (.tmp 3))⟩
  (.op false ⟨(some 108), none, (.ld none (.tmp 107))⟩
  (.op false ⟨(some 109), none, (.len (.tmp 108))⟩
  (.op false ⟨(some 110), none, (.call f_thimbleref04_kinds [(.tmp 106), (.tmp 109)])⟩
  (.op false ⟨(some 5), none, (.mv (.tmp 110))⟩ .done))))))))) .skip))
 (.seq
 (.reg false (.op false ⟨(some 111), none, (.mv (.tmp 5))⟩
  (.op false ⟨(some 4), none, (.mv (.tmp 111))⟩ .done))) .ret)))))))))⟩

set_option maxHeartbeats 2000000 in
theorem rcompare_ok {T : PHeap → Prop} {P : Program} {f f1 f2 f3 : FuncId} (hd : dec P f = some (g_thimbleref04_Compare f1 f2 f3 f)) (h1 : CmpIOk P f1) (h2 : NumCmpOk T P f2) (h3 : CmpSOk P f3) : CmpVOk T P f := by
  intro a
  induction a using V.ind with
  | h a ih =>
  intro b d cs ds ht ha hb ma mb
  refine GPure.of' hd (Nat.le_of_ble_eq_true rfl) ?_
  obtain ⟨_, _, _, _, _, x6⟩ := may_bare ma
  obtain ⟨_, _, _, _, _, y6⟩ := may_bare mb
  have hE := cmpV_eq a b
  obtain ⟨lv, kv, rfl, ik, im, ie, it, hl, hks⟩ := ha.open
  obtain ⟨lv', kv', rfl, ik', im', ie', it', hl', hks'⟩ := hb.open
  have n1 := RSl.len_le hl
  have n2 := RSl.len_le hl'
  have n3 := RSl.len_le hks
  have n4 := RSl.len_le hks'
  obtain ⟨la, lc, rfl⟩ := RSl.val hl
  obtain ⟨ka, kc, rfl⟩ := RSl.val hks
  obtain ⟨la', lc', rfl⟩ := RSl.val hl'
  obtain ⟨ka', kc', rfl⟩ := RSl.val hks'
  have q1 : RSl 6 RVal d (.slice la a.list.length lc) a.list := hl
  have q2 : RSl 6 RVal d (.slice la' b.list.length lc') b.list := hl'
  have q3 : RSl 1 RStr d (.slice ka a.keys.length kc) a.keys := hks
  have q4 : RSl 1 RStr d (.slice ka' b.keys.length kc') b.keys := hks'
  have hih : ∀ x ∈ a.list, ∀ y ∈ b.list, ∀ cs ds, RVal d cs x → RVal d ds y → GPure P f [.agg cs.toArray, .agg ds.toArray] d (.int .i64 (cmpV x y)) := fun x hx y hy cs ds hcx hcy => ih x hx y ht hcx hcy (may_mem ma hx) (may_mem mb hy)
  show gwp P _ _ _ _ _
  apply w_sq; apply w_reg
  refine w_boxa (l := [.int .i64 a.kind, .int .i64 a.m, .int .i64 a.e, strV a.text, .slice la a.list.length lc, .slice ka a.keys.length kc]) rfl (fun b2 T2 => ?_)
  refine w_boxa (l := [.int .i64 b.kind, .int .i64 b.m, .int .i64 b.e, strV b.text, .slice la' b.list.length lc', .slice ka' b.keys.length kc']) rfl (fun b3 T3 => ?_)
  (apply w_mvi; rfl; apply w_done0; apply w_sq; apply w_reg; apply w_fld; rfl; apply w_ld; rfl; exact hc_i 1 rfl rfl; apply w_fld; rfl; apply w_ld; rfl; exact hc_i 0 rfl rfl)
  refine w_pure rfl h1 ?_
  (apply w_mvi; rfl; apply w_done0)
  refine w_mid (fun ρ d' L' => d' = d ∧ L' = [bx b3 T3 [.int .i64 b.kind, .int .i64 b.m, .int .i64 b.e, strV b.text, .slice la' b.list.length lc', .slice ka' b.keys.length kc'], bx b2 T2 [.int .i64 a.kind, .int .i64 a.m, .int .i64 a.e, strV a.text, .slice la a.list.length lc, .slice ka a.keys.length kc]] ∧ ∃ c : Int, SlotsAre ρ [(2, .pointer (some ⟨b2, 0, none⟩)), (3, .pointer (some ⟨b3, 0, none⟩)), (5, .int .i64 c)] ∧ cmpV a b = thn c (thn (cmpB a.text b.text) (thn (lexF cmpB a.keys b.keys) (lexF cmpV a.list b.list)))) ?_ ?_
  · by_cases p1 : a.kind = b.kind
    · rw [p1, cmpI_eq rfl, thn0] at hE
      have hk : cmpI a.kind b.kind = 0 := cmpI_eq p1
      by_cases p3 : b.kind = 3
      · rw [if_pos p3] at hE
        have hn : numCmpF a.m a.e b.m b.e = (numC a.m a.e b.m b.e, 0) := by rw [numCmpF, x6, y6]; rfl
        have p3' : a.kind = 3 := by omega
        (apply w_sq; apply w_reg; apply w_mvi; rfl; apply w_eql; rfl; rfl; apply w_mvb; rfl; refine w_gdT rfl (by omega) ?_; apply w_gT; rfl; apply w_fld; rfl; apply w_gT; rfl; apply w_ld; rfl; exact hc_i 1 rfl rfl; apply w_gT; rfl; apply w_eql; rfl; rfl; apply w_pickTb; rfl; rfl; apply w_done0; refine w_ifdT rfl (by omega) ?_; apply w_reg; apply w_fld; rfl; apply w_ldp 1; rfl; rfl; rfl; apply w_fld; rfl; apply w_ldp 0; rfl; rfl; rfl)
        refine w_pure rfl (h2 ht im ie im' ie') ?_
        rw [hn]
        (apply w_mvu; rfl; apply w_ext; rfl; rfl; apply w_ext; rfl; rfl; apply w_mvi; rfl; apply w_done0)
        exact ⟨rfl, rfl, _, ⟨rfl, rfl, rfl, trivial⟩, hE⟩
      · rw [if_neg p3, thn0] at hE
        have p3' : ¬ a.kind = 3 := by omega
        (apply w_sq; apply w_reg; apply w_mvi; rfl; apply w_eql; rfl; rfl; apply w_mvb; rfl; refine w_gdT rfl (by omega) ?_; apply w_gT; rfl; apply w_fld; rfl; apply w_gT; rfl; apply w_ld; rfl; exact hc_i 1 rfl rfl; apply w_gT; rfl; apply w_eql; rfl; rfl; apply w_pickTb; rfl; rfl; apply w_done0; refine w_ifdF rfl (by omega) ?_; apply w_skip)
        exact ⟨rfl, rfl, _, ⟨rfl, rfl, rfl, trivial⟩, by rw [hk, thn0]; exact hE⟩
    · have hk : ¬ cmpI a.kind b.kind = 0 := fun q => p1 (cmpI_zero.1 q)
      rw [thnN hk] at hE
      (apply w_sq; apply w_reg; apply w_mvi; rfl; apply w_eql; rfl; rfl; apply w_mvb; rfl; refine w_gdF rfl (by omega) ?_; apply w_gF; rfl; apply w_gF; rfl; apply w_gF; rfl; apply w_pickFb; rfl; rfl; apply w_done0; apply w_ifF; rfl; apply w_skip)
      exact ⟨rfl, rfl, _, ⟨rfl, rfl, rfl, trivial⟩, by rw [thnN hk]; exact hE⟩
  clear hE
  rintro ρ d' L' ⟨hdd, hL, c, hs, hc⟩
  subst hdd; subst hL
  refine gwp_slots _ hs ?_
  clear hs
  refine w_mid (fun ρ d2 L' => d2 = d' ∧ L' = [bx b3 T3 [.int .i64 b.kind, .int .i64 b.m, .int .i64 b.e, strV b.text, .slice la' b.list.length lc', .slice ka' b.keys.length kc'], bx b2 T2 [.int .i64 a.kind, .int .i64 a.m, .int .i64 a.e, strV a.text, .slice la a.list.length lc, .slice ka a.keys.length kc]] ∧ ∃ c : Int, SlotsAre ρ [(2, .pointer (some ⟨b2, 0, none⟩)), (3, .pointer (some ⟨b3, 0, none⟩)), (5, .int .i64 c)] ∧ cmpV a b = thn c (thn (lexF cmpB a.keys b.keys) (lexF cmpV a.list b.list))) ?_ ?_
  · by_cases hz : c = 0
    · rw [hz, thn0] at hc
      (apply w_sq; apply w_reg; apply w_mvi; rfl; apply w_eql; rfl; rfl; apply w_done0; refine w_ifdT rfl (by omega) ?_; apply w_reg; apply w_fld; rfl; apply w_ld; rfl; exact hc_i 1 rfl rfl; apply w_fld; rfl; apply w_ld; rfl; exact hc_i 0 rfl rfl)
      refine w_pure rfl h3 ?_
      (apply w_mvi; rfl; apply w_done0)
      exact ⟨rfl, rfl, _, ⟨rfl, rfl, rfl, trivial⟩, hc⟩
    · rw [thnN hz] at hc
      (apply w_sq; apply w_reg; apply w_mvi; rfl; apply w_eql; rfl; rfl; apply w_done0; refine w_ifdF rfl (by omega) ?_; apply w_skip)
      exact ⟨rfl, rfl, c, ⟨rfl, rfl, rfl, trivial⟩, by rw [thnN hz]; exact hc⟩
  clear hc
  rintro ρ d2 L' ⟨hdd, hL, c, hs, hc⟩
  subst hdd; subst hL
  refine gwp_slots _ hs ?_
  clear hs
  refine w_mid (fun ρ d3 L' => d3 = d2 ∧ L' = [bx b3 T3 [.int .i64 b.kind, .int .i64 b.m, .int .i64 b.e, strV b.text, .slice la' b.list.length lc', .slice ka' b.keys.length kc'], bx b2 T2 [.int .i64 a.kind, .int .i64 a.m, .int .i64 a.e, strV a.text, .slice la a.list.length lc, .slice ka a.keys.length kc]] ∧ ∃ c : Int, SlotsAre ρ [(2, .pointer (some ⟨b2, 0, none⟩)), (3, .pointer (some ⟨b3, 0, none⟩)), (5, .int .i64 c)] ∧ ((c = 0 ∧ cmpV a b = thn (cmpI a.keys.length b.keys.length) (lexF cmpV a.list b.list)) ∨ (c ≠ 0 ∧ cmpV a b = c))) ?_ ?_
  · apply w_sq; apply w_reg
    (apply w_mvi; rfl; apply w_done0)
    apply w_block
    refine w_loopN (α := Int × Nat) (fun x => [(2, .pointer (some ⟨b2, 0, none⟩)), (3, .pointer (some ⟨b3, 0, none⟩)), (5, .int .i64 x.1), (6, .int .i64 x.2)]) (fun _ => [bx b3 T3 [.int .i64 b.kind, .int .i64 b.m, .int .i64 b.e, strV b.text, .slice la' b.list.length lc', .slice ka' b.keys.length kc'], bx b2 T2 [.int .i64 a.kind, .int .i64 a.m, .int .i64 a.e, strV a.text, .slice la a.list.length lc, .slice ka a.keys.length kc]]) (fun x => x.2 ≤ a.keys.length ∧ x.2 ≤ b.keys.length ∧ cmpV a b = thn x.1 (thn (lexF cmpB (a.keys.drop x.2) (b.keys.drop x.2)) (lexF cmpV a.list b.list))) (fun x => a.keys.length - x.2) (c, 0) ⟨rfl, rfl, rfl, rfl, trivial⟩ rfl ⟨Nat.zero_le _, Nat.zero_le _, hc⟩ ?_
    clear hc
    rintro ⟨c, i⟩ ρ ⟨hi, hj, hc⟩
    simp only at hi hj hc
    by_cases hz : c = 0
    · by_cases c1 : i < a.keys.length
      · by_cases c2 : i < b.keys.length
        · subst hz
          rw [thn0, lexF_step c1 c2] at hc
          (apply w_sq; apply w_sq; apply w_reg; apply w_mvi; rfl; apply w_eql; rfl; rfl; apply w_mvb; rfl; refine w_gdT rfl (by omega) ?_; apply w_gT; rfl; apply w_mvi; rfl; apply w_gT; rfl; apply w_fld; rfl; apply w_gT; rfl; apply w_ld; rfl; exact hc_i 1 rfl rfl; apply w_gT; rfl; apply w_len; rfl; apply w_gT; rfl; apply w_lss; rfl; rfl; apply w_pickTb; rfl; rfl; apply w_mvb; rfl; refine w_gdT rfl (by omega) ?_; apply w_gT; rfl; apply w_mvi; rfl; apply w_gT; rfl; apply w_fld; rfl; apply w_gT; rfl; apply w_ld; rfl; exact hc_i 0 rfl rfl; apply w_gT; rfl; apply w_len; rfl; apply w_gT; rfl; apply w_lss; rfl; rfl; apply w_pickTb; rfl; rfl; apply w_done0; refine w_ifdT rfl (by omega) ?_; apply w_skip; apply w_sq; apply w_block; apply w_drawn; apply w_fld; rfl; apply w_ld; rfl; exact hc_i 1 rfl rfl; apply w_mvi; rfl; refine w_idxR (sz := 1) (R := RStr) (by rfl) (by assumption) (by rfl) rfl (by omega) ?_; rintro _ _ _ _ _ ⟨rfl, _⟩; apply w_ld; rfl; exact hc_ds0 (by assumption) rfl; apply w_fld; rfl; apply w_ld; rfl; exact hc_i 0 rfl rfl; apply w_mvi; rfl; refine w_idxR (sz := 1) (R := RStr) (by rfl) (by assumption) (by rfl) rfl (by omega) ?_; rintro _ _ _ _ _ ⟨rfl, _⟩; apply w_ld; rfl; exact hc_ds0 (by assumption) rfl)
          refine w_pure rfl h3 ?_
          (apply w_bar; apply w_mvi; rfl; apply w_done0; apply w_reg; apply w_mvi; rfl; apply w_add; rfl; rfl; omega; omega; apply w_mvi; rfl; apply w_done0)
          refine ⟨(_, i + 1), by simp only; omega, ⟨rfl, rfl, rfl, int_eq (by simp only; omega), trivial⟩, rfl, rfl, by simp only; omega, by simp only; omega, ?_⟩
          rw [hc]; exact thn_assoc _ _ _
        · have he := lexF_end (f := cmpB) i a.keys b.keys hi hj (.inr (by omega))
          have hn : ¬ (i : Int) < b.keys.length := by omega
          (apply w_sq; apply w_sq; apply w_reg; apply w_mvi; rfl; apply w_eql; rfl; rfl; apply w_mvb; rfl; refine w_gdT rfl (by omega) ?_; apply w_gT; rfl; apply w_mvi; rfl; apply w_gT; rfl; apply w_fld; rfl; apply w_gT; rfl; apply w_ld; rfl; exact hc_i 1 rfl rfl; apply w_gT; rfl; apply w_len; rfl; apply w_gT; rfl; apply w_lss; rfl; rfl; apply w_pickTb; rfl; rfl; apply w_mvb; rfl; refine w_gdT rfl (by omega) ?_; apply w_gT; rfl; apply w_mvi; rfl; apply w_gT; rfl; apply w_fld; rfl; apply w_gT; rfl; apply w_ld; rfl; exact hc_i 0 rfl rfl; apply w_gT; rfl; apply w_len; rfl; apply w_gT; rfl; apply w_lss; rfl; rfl; apply w_pickTb; rfl; rfl; apply w_done0; refine w_ifdF rfl (by omega) ?_; apply w_exit)
          exact ⟨rfl, rfl, c, ⟨rfl, rfl, rfl, trivial⟩, .inl ⟨hz, by rw [hc, hz, he, thn0]⟩⟩
      · have he := lexF_end (f := cmpB) i a.keys b.keys hi hj (.inl (by omega))
        (apply w_sq; apply w_sq; apply w_reg; apply w_mvi; rfl; apply w_eql; rfl; rfl; apply w_mvb; rfl; refine w_gdT rfl (by omega) ?_; apply w_gT; rfl; apply w_mvi; rfl; apply w_gT; rfl; apply w_fld; rfl; apply w_gT; rfl; apply w_ld; rfl; exact hc_i 1 rfl rfl; apply w_gT; rfl; apply w_len; rfl; apply w_gT; rfl; apply w_lss; rfl; rfl; apply w_pickTb; rfl; rfl; apply w_mvb; rfl; refine w_gdF rfl (by omega) ?_; apply w_gF; rfl; apply w_gF; rfl; apply w_gF; rfl; apply w_gF; rfl; apply w_gF; rfl; apply w_pickFb; rfl; rfl; apply w_done0; apply w_ifF; rfl; apply w_exit)
        exact ⟨rfl, rfl, c, ⟨rfl, rfl, rfl, trivial⟩, .inl ⟨hz, by rw [hc, hz, he, thn0]⟩⟩
    · (apply w_sq; apply w_sq; apply w_reg; apply w_mvi; rfl; apply w_eql; rfl; rfl; apply w_mvb; rfl; refine w_gdF rfl (by omega) ?_; apply w_gF; rfl; apply w_gF; rfl; apply w_gF; rfl; apply w_gF; rfl; apply w_gF; rfl; apply w_pickFb; rfl; rfl; apply w_mvb; rfl; apply w_gF; rfl; apply w_gF; rfl; apply w_gF; rfl; apply w_gF; rfl; apply w_gF; rfl; apply w_pickFb; rfl; rfl; apply w_done0; apply w_ifF; rfl; apply w_exit)
      exact ⟨rfl, rfl, c, ⟨rfl, rfl, rfl, trivial⟩, .inr ⟨hz, by rw [hc, thnN hz]⟩⟩
  clear hc
  rintro ρ d3 L' ⟨hdd, hL, c, hs, hc⟩
  subst hdd; subst hL
  refine gwp_slots _ hs ?_
  clear hs
  refine w_mid (fun ρ d4 L' => d4 = d3 ∧ L' = [bx b3 T3 [.int .i64 b.kind, .int .i64 b.m, .int .i64 b.e, strV b.text, .slice la' b.list.length lc', .slice ka' b.keys.length kc'], bx b2 T2 [.int .i64 a.kind, .int .i64 a.m, .int .i64 a.e, strV a.text, .slice la a.list.length lc, .slice ka a.keys.length kc]] ∧ ∃ c : Int, SlotsAre ρ [(2, .pointer (some ⟨b2, 0, none⟩)), (3, .pointer (some ⟨b3, 0, none⟩)), (5, .int .i64 c)] ∧ cmpV a b = thn c (lexF cmpV a.list b.list)) ?_ ?_
  · rcases hc with ⟨hz, hc⟩ | ⟨hz, hc⟩
    · (apply w_sq; apply w_reg; apply w_mvi; rfl; apply w_eql; rfl; rfl; apply w_done0; refine w_ifdT rfl (by omega) ?_; apply w_reg; apply w_fld; rfl; apply w_ld; rfl; exact hc_i 1 rfl rfl; apply w_len; rfl; apply w_fld; rfl; apply w_ld; rfl; exact hc_i 0 rfl rfl; apply w_len; rfl)
      refine w_pure rfl h1 ?_
      (apply w_mvi; rfl; apply w_done0)
      exact ⟨rfl, rfl, _, ⟨rfl, rfl, rfl, trivial⟩, hc⟩
    · (apply w_sq; apply w_reg; apply w_mvi; rfl; apply w_eql; rfl; rfl; apply w_done0; refine w_ifdF rfl (by omega) ?_; apply w_skip)
      exact ⟨rfl, rfl, c, ⟨rfl, rfl, rfl, trivial⟩, by rw [thnN hz]; exact hc⟩
  clear hc
  rintro ρ d4 L' ⟨hdd, hL, c, hs, hc⟩
  subst hdd; subst hL
  refine gwp_slots _ hs ?_
  clear hs
  refine w_mid (fun ρ d5 L' => d5 = d4 ∧ L' = [bx b3 T3 [.int .i64 b.kind, .int .i64 b.m, .int .i64 b.e, strV b.text, .slice la' b.list.length lc', .slice ka' b.keys.length kc'], bx b2 T2 [.int .i64 a.kind, .int .i64 a.m, .int .i64 a.e, strV a.text, .slice la a.list.length lc, .slice ka a.keys.length kc]] ∧ ∃ c : Int, SlotsAre ρ [(2, .pointer (some ⟨b2, 0, none⟩)), (3, .pointer (some ⟨b3, 0, none⟩)), (5, .int .i64 c)] ∧ ((c = 0 ∧ cmpV a b = cmpI a.list.length b.list.length) ∨ (c ≠ 0 ∧ cmpV a b = c))) ?_ ?_
  · apply w_sq; apply w_reg
    (apply w_mvi; rfl; apply w_done0)
    apply w_block
    refine w_loopN (α := Int × Nat) (fun x => [(2, .pointer (some ⟨b2, 0, none⟩)), (3, .pointer (some ⟨b3, 0, none⟩)), (5, .int .i64 x.1), (7, .int .i64 x.2)]) (fun _ => [bx b3 T3 [.int .i64 b.kind, .int .i64 b.m, .int .i64 b.e, strV b.text, .slice la' b.list.length lc', .slice ka' b.keys.length kc'], bx b2 T2 [.int .i64 a.kind, .int .i64 a.m, .int .i64 a.e, strV a.text, .slice la a.list.length lc, .slice ka a.keys.length kc]]) (fun x => x.2 ≤ a.list.length ∧ x.2 ≤ b.list.length ∧ cmpV a b = thn x.1 (lexF cmpV (a.list.drop x.2) (b.list.drop x.2))) (fun x => a.list.length - x.2) (c, 0) ⟨rfl, rfl, rfl, rfl, trivial⟩ rfl ⟨Nat.zero_le _, Nat.zero_le _, hc⟩ ?_
    clear hc
    rintro ⟨c, i⟩ ρ ⟨hi, hj, hc⟩
    simp only at hi hj hc
    by_cases hz : c = 0
    · by_cases c1 : i < a.list.length
      · by_cases c2 : i < b.list.length
        · subst hz
          rw [thn0, lexF_step c1 c2] at hc
          (apply w_sq; apply w_sq; apply w_reg; apply w_mvi; rfl; apply w_eql; rfl; rfl; apply w_mvb; rfl; refine w_gdT rfl (by omega) ?_; apply w_gT; rfl; apply w_mvi; rfl; apply w_gT; rfl; apply w_fld; rfl; apply w_gT; rfl; apply w_ld; rfl; exact hc_i 1 rfl rfl; apply w_gT; rfl; apply w_len; rfl; apply w_gT; rfl; apply w_lss; rfl; rfl; apply w_pickTb; rfl; rfl; apply w_mvb; rfl; refine w_gdT rfl (by omega) ?_; apply w_gT; rfl; apply w_mvi; rfl; apply w_gT; rfl; apply w_fld; rfl; apply w_gT; rfl; apply w_ld; rfl; exact hc_i 0 rfl rfl; apply w_gT; rfl; apply w_len; rfl; apply w_gT; rfl; apply w_lss; rfl; rfl; apply w_pickTb; rfl; rfl; apply w_done0; refine w_ifdT rfl (by omega) ?_; apply w_skip; apply w_sq; apply w_block; apply w_drawn; apply w_fld; rfl; apply w_ld; rfl; exact hc_i 1 rfl rfl; apply w_mvi; rfl; refine w_idxR (sz := 6) (R := RVal) (by rfl) (by assumption) (by rfl) rfl (by omega) ?_; rintro _ _ _ _ _ _; apply w_ldd; rfl; assumption; assumption; apply w_fld; rfl; apply w_ld; rfl; exact hc_i 0 rfl rfl; apply w_mvi; rfl; refine w_idxR (sz := 6) (R := RVal) (by rfl) (by assumption) (by rfl) rfl (by omega) ?_; rintro _ _ _ _ _ _; apply w_ldd; rfl; assumption; assumption)
          rename_i cs1 hcs1 hD1 hR1 _ _ cs2 hcs2 hD2 hR2
          refine w_pure rfl (hih _ (List.getElem_mem c1) _ (List.getElem_mem c2) _ _ hR1 hR2) ?_
          (apply w_bar; apply w_mvi; rfl; apply w_done0; apply w_reg; apply w_mvi; rfl; apply w_add; rfl; rfl; omega; omega; apply w_mvi; rfl; apply w_done0)
          refine ⟨(_, i + 1), by simp only; omega, ⟨rfl, rfl, rfl, int_eq (by simp only; omega), trivial⟩, rfl, rfl, by simp only; omega, by simp only; omega, ?_⟩
          exact hc
        · have he := lexF_end (f := cmpV) i a.list b.list hi hj (.inr (by omega))
          have hn : ¬ (i : Int) < b.list.length := by omega
          (apply w_sq; apply w_sq; apply w_reg; apply w_mvi; rfl; apply w_eql; rfl; rfl; apply w_mvb; rfl; refine w_gdT rfl (by omega) ?_; apply w_gT; rfl; apply w_mvi; rfl; apply w_gT; rfl; apply w_fld; rfl; apply w_gT; rfl; apply w_ld; rfl; exact hc_i 1 rfl rfl; apply w_gT; rfl; apply w_len; rfl; apply w_gT; rfl; apply w_lss; rfl; rfl; apply w_pickTb; rfl; rfl; apply w_mvb; rfl; refine w_gdT rfl (by omega) ?_; apply w_gT; rfl; apply w_mvi; rfl; apply w_gT; rfl; apply w_fld; rfl; apply w_gT; rfl; apply w_ld; rfl; exact hc_i 0 rfl rfl; apply w_gT; rfl; apply w_len; rfl; apply w_gT; rfl; apply w_lss; rfl; rfl; apply w_pickTb; rfl; rfl; apply w_done0; refine w_ifdF rfl (by omega) ?_; apply w_exit)
          exact ⟨rfl, rfl, c, ⟨rfl, rfl, rfl, trivial⟩, .inl ⟨hz, by rw [hc, hz, he, thn0]⟩⟩
      · have he := lexF_end (f := cmpV) i a.list b.list hi hj (.inl (by omega))
        (apply w_sq; apply w_sq; apply w_reg; apply w_mvi; rfl; apply w_eql; rfl; rfl; apply w_mvb; rfl; refine w_gdT rfl (by omega) ?_; apply w_gT; rfl; apply w_mvi; rfl; apply w_gT; rfl; apply w_fld; rfl; apply w_gT; rfl; apply w_ld; rfl; exact hc_i 1 rfl rfl; apply w_gT; rfl; apply w_len; rfl; apply w_gT; rfl; apply w_lss; rfl; rfl; apply w_pickTb; rfl; rfl; apply w_mvb; rfl; refine w_gdF rfl (by omega) ?_; apply w_gF; rfl; apply w_gF; rfl; apply w_gF; rfl; apply w_gF; rfl; apply w_gF; rfl; apply w_pickFb; rfl; rfl; apply w_done0; apply w_ifF; rfl; apply w_exit)
        exact ⟨rfl, rfl, c, ⟨rfl, rfl, rfl, trivial⟩, .inl ⟨hz, by rw [hc, hz, he, thn0]⟩⟩
    · (apply w_sq; apply w_sq; apply w_reg; apply w_mvi; rfl; apply w_eql; rfl; rfl; apply w_mvb; rfl; refine w_gdF rfl (by omega) ?_; apply w_gF; rfl; apply w_gF; rfl; apply w_gF; rfl; apply w_gF; rfl; apply w_gF; rfl; apply w_pickFb; rfl; rfl; apply w_mvb; rfl; apply w_gF; rfl; apply w_gF; rfl; apply w_gF; rfl; apply w_gF; rfl; apply w_gF; rfl; apply w_pickFb; rfl; rfl; apply w_done0; apply w_ifF; rfl; apply w_exit)
      exact ⟨rfl, rfl, c, ⟨rfl, rfl, rfl, trivial⟩, .inr ⟨hz, by rw [hc, thnN hz]⟩⟩
  clear hc
  rintro ρ d5 L' ⟨hdd, hL, c, hs, hc⟩
  subst hdd; subst hL
  refine gwp_slots _ hs ?_
  clear hs
  rcases hc with ⟨hz, hc⟩ | ⟨hz, hc⟩
  · (apply w_sq; apply w_sq; apply w_reg; apply w_mvi; rfl; apply w_eql; rfl; rfl; apply w_done0; refine w_ifdT rfl (by omega) ?_; apply w_reg; apply w_fld; rfl; apply w_ld; rfl; exact hc_i 1 rfl rfl; apply w_len; rfl; apply w_fld; rfl; apply w_ld; rfl; exact hc_i 0 rfl rfl; apply w_len; rfl)
    refine w_pure rfl h1 ?_
    (apply w_mvi; rfl; apply w_done0; apply w_sq; apply w_reg; apply w_mvi; rfl; apply w_mvi; rfl; apply w_done0; apply w_ret)
    exact finQ (int_eq hc.symm)
  · (apply w_sq; apply w_sq; apply w_reg; apply w_mvi; rfl; apply w_eql; rfl; rfl; apply w_done0; refine w_ifdF rfl (by omega) ?_; apply w_skip; apply w_sq; apply w_reg; apply w_mvi; rfl; apply w_mvi; rfl; apply w_done0; apply w_ret)
    exact finQ (int_eq hc.symm)
/-- What is wrong with the first one that may not be. -/
def wrongL : List V → Int
  | [] => 0
  | v :: l => if rightV v ≠ 0 then rightV v else wrongL l
def WrongLOk (T : PHeap → Prop) (P : Program) (f : FuncId) : Prop := ∀ {d : PHeap} {v : Value} {l : List V}, T d → RVals d v l → (∀ x ∈ l, depthV x ≤ 1000000000) → GPure P f [v] d (.int .i64 (wrongL l))
theorem wrongL_i : ∀ l : List V, wrongL l = 0 ∨ wrongL l = 30 ∨ wrongL l = 31
  | [] => .inl rfl
  | v :: l => by
    rw [wrongL]
    split
    · exact right_small v
    · exact wrongL_i l
theorem wrongL_drop {l : List V} {i : Nat} (h : i < l.length) : wrongL (l.drop i) = if rightV l[i] ≠ 0 then rightV l[i] else wrongL (l.drop (i + 1)) := by rw [List.drop_eq_getElem_cons h]; rfl
def g_thimbleref04_wrong (f_thimbleref03_Right : Nat) : GFun :=
 ⟨19, [(.tmp 2)],
 (.seq
 (.reg false (.op false ⟨(some 2), none, (.mv (.const (.int .i64 0)))⟩ .done))
 (.seq (.seq
 (.reg false (.op false ⟨(some 3), none, (.mv (.const (.int .i64 0)))⟩ .done)) (.block 0 (.loop
 (.seq (.seq
 (.reg false (.op false ⟨(some 5), none, (.mv (.tmp 3))⟩
  (.op false ⟨(some 6), none, (.mv (.tmp 0))⟩
  (.op false ⟨(some 7), none, (.len (.tmp 6))⟩
  (.op false ⟨(some 8), none, (.bin .lss (.tmp 5) (.tmp 7))⟩ .done))))) (.cond (.tmp 8) .skip (.exit 0)))
 (.seq (.block 1
 (.seq
 (.reg false (.op false ⟨(some 11), none, (.mv (.tmp 0))⟩
  (.op false ⟨(some 12), none, (.mv (.tmp 3))⟩
  (.op false ⟨(some 13), none, (.idx 6 (.tmp 11) (.tmp 12))⟩
  (.op false ⟨(some 14), none, (.ld (some 6) (.tmp 13))⟩
  (.op false ⟨(some 15), none, (.call f_thimbleref03_Right [(.tmp 14)])⟩
  (.op false ⟨(some 4), none, (.mv (.tmp 15))⟩ .done)))))))
 (.seq
 (.reg false (.op false ⟨(some 16), none, (.mv (.tmp 4))⟩
  (.op false ⟨(some 17), none, (.bin .neq (.tmp 16) (.const (.int .i64 0)))⟩ .done))) (.cond (.tmp 17)
 (.seq
 (.reg false (.op false ⟨(some 18), none, (.mv (.tmp 4))⟩
  (.op false ⟨(some 2), none, (.mv (.tmp 18))⟩ .done))) .ret) .skip))))
 (.reg false (.op false ⟨(some 9), none, (.mv (.tmp 3))⟩
  (.op false ⟨(some 10), none, (.bin .add (.tmp 9) (.const (.int .i64 1)))⟩
  (.op false ⟨(some 3), none, (.mv (.tmp 10))⟩ .done)))))))))
 (.seq
 (.reg false (.op false ⟨(some 2), none, (.mv (.const (.int .i64 0)))⟩ .done)) .ret)))⟩

theorem wrongl_ok {T : PHeap → Prop} {P : Program} {f f1 : FuncId} (hd : dec P f = some (g_thimbleref04_wrong f1)) (h1 : RRightOk T P f1) : WrongLOk T P f := by
  intro d v l ht hv hdp
  have n1 := RSl.len_le hv
  obtain ⟨pa, ca, rfl⟩ := RSl.val hv
  have hv' : RSl 6 RVal d (.slice pa l.length ca) l := hv
  refine GPure.of' hd (Nat.le_of_ble_eq_true rfl) ?_
  show gwp P _ _ _ _ _
  (apply w_sq; apply w_reg; apply w_mvi; rfl; apply w_done0; apply w_sq; apply w_sq; apply w_reg; apply w_mvi; rfl; apply w_done0; apply w_block)
  refine w_loopN (α := Nat) (fun i => [(0, .slice pa l.length ca), (3, .int .i64 i)]) (fun _ => []) (fun i => i ≤ l.length ∧ wrongL l = wrongL (l.drop i)) (fun i => l.length - i) 0 ⟨rfl, rfl, trivial⟩ rfl ⟨Nat.zero_le _, rfl⟩ ?_
  rintro i ρ ⟨hi, hw⟩
  by_cases hc : i < l.length
  · rw [wrongL_drop hc] at hw
    have hs := right_small l[i]
    by_cases hr : rightV l[i] = 0
    · rw [if_neg (by omega)] at hw
      (apply w_sq; apply w_sq; apply w_reg; apply w_mvi; rfl; apply w_mvs; rfl; apply w_len; rfl; apply w_lss; rfl; rfl; apply w_done0; refine w_ifdT rfl (by omega) ?_; apply w_skip; apply w_sq; apply w_block; apply w_sq; apply w_reg; apply w_mvs; rfl; apply w_mvi; rfl; refine w_idxR (sz := 6) (R := RVal) (by rfl) (by assumption) (by rfl) rfl (by omega) ?_; rintro _ _ _ _ _ _; apply w_ldd; rfl; assumption; assumption)
      rename_i cs hcs hD hR
      refine w_pure rfl (h1 ht hR (hdp _ (List.getElem_mem hc))) ?_
      (apply w_mvi; rfl; apply w_done0; apply w_sq; apply w_reg; apply w_mvi; rfl; apply w_neq; rfl; rfl; apply w_done0; refine w_ifdF rfl (by omega) ?_; apply w_skip; apply w_reg; apply w_mvi; rfl; apply w_add; rfl; rfl; omega; omega; apply w_mvi; rfl; apply w_done0)
      exact ⟨i + 1, by omega, ⟨rfl, int_eq (by omega), trivial⟩, rfl, rfl, hc, hw⟩
    · rw [if_pos hr] at hw
      (apply w_sq; apply w_sq; apply w_reg; apply w_mvi; rfl; apply w_mvs; rfl; apply w_len; rfl; apply w_lss; rfl; rfl; apply w_done0; refine w_ifdT rfl (by omega) ?_; apply w_skip; apply w_sq; apply w_block; apply w_sq; apply w_reg; apply w_mvs; rfl; apply w_mvi; rfl; refine w_idxR (sz := 6) (R := RVal) (by rfl) (by assumption) (by rfl) rfl (by omega) ?_; rintro _ _ _ _ _ _; apply w_ldd; rfl; assumption; assumption)
      rename_i cs hcs hD hR
      refine w_pure rfl (h1 ht hR (hdp _ (List.getElem_mem hc))) ?_
      (apply w_mvi; rfl; apply w_done0; apply w_sq; apply w_reg; apply w_mvi; rfl; apply w_neq; rfl; rfl; apply w_done0; refine w_ifdT rfl (by omega) ?_; apply w_sq; apply w_reg; apply w_mvi; rfl; apply w_mvi; rfl; apply w_done0; apply w_ret)
      exact finQ (int_eq hw.symm)
  · obtain rfl : i = l.length := by omega
    rw [List.drop_length] at hw
    (apply w_sq; apply w_sq; apply w_reg; apply w_mvi; rfl; apply w_mvs; rfl; apply w_len; rfl; apply w_lss; rfl; rfl; apply w_done0; refine w_ifdF rfl (by omega) ?_; apply w_exit; apply w_sq; apply w_reg; apply w_mvi; rfl; apply w_done0; apply w_ret)
    exact finQ (int_eq hw.symm)
theorem wrong_two {a b : V} : wrongL [a, b] = if rightV a ≠ 0 then rightV a else rightV b := by
  simp only [wrongL]; split <;> (try split) <;> omega
def g_thimbleref04_Cmp (f_thimbleref04_wrong f_thimbleref04_Compare : Nat) : GFun :=
 ⟨17, [(.tmp 4), (.tmp 5)],
 (.seq
 (.reg false (.op false ⟨(some 2), none, (.box (.tmp 0))⟩
  (.op false ⟨(some 3), none, (.box (.tmp 1))⟩
  (.op false ⟨(some 4), none, (.mv (.const (.int .i64 0)))⟩
  (.op false ⟨(some 5), none, (.mv (.const (.int .i64 0)))⟩ .done)))))
 (.seq
 (.reg false (.op false ⟨(some 7), none, (.ld (some 6) (.tmp 2))⟩
  (.op false ⟨(some 8), none, (.ld (some 6) (.tmp 3))⟩
  (.op false ⟨(some 9), none, (.bsl 2 6 [(.int .i64 0), (.int .i64 0), (.int .i64 0), (strV []), (.slice none 0 0), (.slice none 0 0)] [(0, (.tmp 7)), (1, (.tmp 8))])⟩
  (.op false ⟨(some 10), none, (.call f_thimbleref04_wrong [(.tmp 9)])⟩
  (.op false ⟨(some 6), none, (.mv (.tmp 10))⟩ .done))))))
 (.seq (.seq
 (.reg false (.op false ⟨(some 11), none, (.mv (.tmp 6))⟩
  (.op false ⟨(some 12), none, (.bin .neq (.tmp 11) (.const (.int .i64 0)))⟩ .done))) (.cond (.tmp 12)
 (.seq
 (.reg false (.op false ⟨(some 13), none, (.mv (.tmp 6))⟩
  (.op false ⟨(some 4), none, (.mv (.const (.int .i64 0)))⟩
  (.op false ⟨(some 5), none, (.mv (.tmp 13))⟩ .done)))) .ret) .skip))
 (.seq
 (.reg false (.op false ⟨(some 14), none, (.ld (some 6) (.tmp 2))⟩
  (.op false ⟨(some 15), none, (.ld (some 6) (.tmp 3))⟩
  (.op false ⟨(some 16), none, (.call f_thimbleref04_Compare [(.tmp 14), (.tmp 15)])⟩
  (.op false ⟨(some 4), none, (.mv (.tmp 16))⟩
  (.op false ⟨(some 5), none, (.mv (.const (.int .i64 0)))⟩ .done)))))) .ret))))⟩

set_option maxHeartbeats 1000000 in
theorem rocmp_ok {T : PHeap → Prop} {P : Program} {f f1 f2 : FuncId} (hTm : ∀ {d d' : PHeap}, Le d d' → T d → T d') (hd : dec P f = some (g_thimbleref04_Cmp f1 f2)) (h1 : WrongLOk T P f1) (h2 : CmpVOk T P f2) : CmpTopOk T P f := by
  intro a b d cs ds ht ha hb da db
  refine GPure.of' hd (Nat.le_of_ble_eq_true rfl) ?_
  obtain ⟨c0, c1, c2, c3, c4, c5, rfl⟩ := six ha.len
  obtain ⟨e0, e1, e2, e3, e4, e5, rfl⟩ := six hb.len
  have qa := right_small a
  have qb := right_small b
  have hw := @wrong_two a b
  show gwp P _ _ _ _ _
  apply w_sq; apply w_reg
  refine w_boxa (l := [c0, c1, c2, c3, c4, c5]) rfl (fun b2 T2 => ?_)
  refine w_boxa (l := [e0, e1, e2, e3, e4, e5]) rfl (fun b3 T3 => ?_)
  (apply w_mvi; rfl; apply w_mvi; rfl; apply w_done0; apply w_sq; apply w_reg; apply w_ldb 1; rfl; rfl; rfl; apply w_ldb 0; rfl; rfl; rfl)
  refine w_bsV2 rfl rfl rfl rfl (fun b9 T9 => ?_)
  refine w_frz (fun d1 hl1 hg1 => ?_)
  have h2v : RVals d1 (.slice (some ⟨b9, 0, none⟩) 2 2) [a, b] := rvals2 ha hb hl1 hg1
  refine w_pure rfl (h1 (hTm hl1 ht) h2v (fun x hx => ?_)) ?_
  · simp only [List.mem_cons, List.not_mem_nil, or_false] at hx
    rcases hx with rfl | rfl <;> assumption
  by_cases p1 : rightV a = 0
  · by_cases p2 : rightV b = 0
    · rw [cmpTop, if_neg (by omega), if_neg (by omega)]
      rw [if_neg (by omega), p2] at hw
      rw [hw]
      (apply w_mvi; rfl; apply w_done0; apply w_sq; apply w_sq; apply w_reg; apply w_mvi; rfl; apply w_neq; rfl; rfl; apply w_done0; refine w_ifdF rfl (by omega) ?_; apply w_skip; apply w_sq; apply w_reg; apply w_ldb 1; rfl; rfl; rfl; apply w_ldb 0; rfl; rfl; rfl)
      refine w_pure rfl (h2 a b (hTm hl1 ht) (ha.mono hl1) (hb.mono hl1) (right_iff.1 p1).1 (right_iff.1 p2).1) ?_
      (apply w_mvi; rfl; apply w_mvi; rfl; apply w_done0; apply w_ret)
      exact finQ2 rfl rfl
    · rw [cmpTop, if_neg (by omega), if_pos p2]
      rw [if_neg (by omega)] at hw
      rw [hw]
      (apply w_mvi; rfl; apply w_done0; apply w_sq; apply w_sq; apply w_reg; apply w_mvi; rfl; apply w_neq; rfl; rfl; apply w_done0; refine w_ifdT rfl (by omega) ?_; apply w_sq; apply w_reg; apply w_mvi; rfl; apply w_mvi; rfl; apply w_mvi; rfl; apply w_done0; apply w_ret)
      exact finQ2 rfl rfl
  · rw [cmpTop, if_pos p1]
    rw [if_pos (by omega)] at hw
    rw [hw]
    (apply w_mvi; rfl; apply w_done0; apply w_sq; apply w_sq; apply w_reg; apply w_mvi; rfl; apply w_neq; rfl; rfl; apply w_done0; refine w_ifdT rfl (by omega) ?_; apply w_sq; apply w_reg; apply w_mvi; rfl; apply w_mvi; rfl; apply w_mvi; rfl; apply w_done0; apply w_ret)
    exact finQ2 rfl rfl
end Go.Gk.Val
end

section
/-
  A stable sort, plain: what its steps make of a list. No program.
-/
namespace Go.Gk.Srt
open Go Go.Gk

/-- An order: of any two one is not above the other. -/
structure Ord {α : Type} (c : α → α → Int) : Prop where
  sw : ∀ a b, c a b = -c b a
  tr : ∀ a b e, c a b ≤ 0 → c b e ≤ 0 → c a e ≤ 0
def Srt {α : Type} (c : α → α → Int) (l : List α) : Prop := l.Pairwise fun x y => c x y ≤ 0
section
variable {α : Type} {c : α → α → Int}
theorem Ord.le_of_not_lt (o : Ord c) {a b : α} (h : ¬ c a b < 0) : c b a ≤ 0 := by have := o.sw a b; omega
theorem Ord.le_of_lt (o : Ord c) {a b : α} (h : c a b < 0) : c a b ≤ 0 := by omega
theorem Srt.nil : Srt c [] := List.Pairwise.nil
theorem Srt.one (x : α) : Srt c [x] := by simp [Srt]
theorem srt_app {l m : List α} : Srt c (l ++ m) ↔ Srt c l ∧ Srt c m ∧ ∀ x ∈ l, ∀ y ∈ m, c x y ≤ 0 := List.pairwise_append
theorem Srt.get {l : List α} (h : Srt c l) {i j : Nat} (hi : i < j) (hj : j < l.length) : c (l[i]'(by omega)) l[j] ≤ 0 := List.pairwise_iff_getElem.1 h i j (by omega) hj hi
theorem Srt.take {l : List α} (h : Srt c l) (k : Nat) : Srt c (l.take k) := h.sublist (List.take_sublist k l)
theorem Srt.drop {l : List α} (h : Srt c l) (k : Nat) : Srt c (l.drop k) := h.sublist (List.drop_sublist k l)
theorem Srt.cut {l : List α} (h : Srt c l) (k : Nat) : ∀ x ∈ l.take k, ∀ y ∈ l.drop k, c x y ≤ 0 := by
  have := h
  rw [← List.take_append_drop k l] at this
  exact (srt_app.1 this).2.2
/-- A new one between what is not above it and what it is below. -/
theorem Srt.put (o : Ord c) {l m : List α} {x : α} (h : Srt c (l ++ m)) (h1 : l = [] ∨ ∃ y, l.getLast? = some y ∧ c y x ≤ 0) (h2 : m = [] ∨ ∃ y, m.head? = some y ∧ c x y ≤ 0) : Srt c (l ++ x :: m) := by
  obtain ⟨a, b, e⟩ := srt_app.1 h
  refine srt_app.2 ⟨a, ?_, ?_⟩
  · refine List.pairwise_cons.2 ⟨fun y hy => ?_, b⟩
    rcases h2 with rfl | ⟨z, hz, hx⟩
    · cases hy
    · cases m with
      | nil => cases hy
      | cons w m =>
        cases hz
        rcases List.mem_cons.1 hy with rfl | hy
        · exact hx
        · exact o.tr _ _ _ hx ((List.pairwise_cons.1 b).1 y hy)
  · intro y hy z hz
    rcases List.mem_cons.1 hz with rfl | hz
    · rcases h1 with rfl | ⟨w, hw, hx⟩
      · cases hy
      · obtain ⟨l', rfl⟩ : ∃ l', l = l' ++ [w] := by
          rw [List.getLast?_eq_some_iff] at hw; exact hw
        rcases List.mem_append.1 hy with hy | hy
        · exact o.tr _ _ _ ((srt_app.1 a).2.2 y hy w (List.mem_singleton.2 rfl)) hx
        · rw [List.mem_singleton.1 hy]; exact hx
    · exact e y hy z hz
/-- Four parts: what was below stays below. -/
theorem merge_srt {l1 l2 r1 r2 m1 m2 : List α} (p1 : m1.Perm (l1 ++ r1)) (p2 : m2.Perm (l2 ++ r2)) (s1 : Srt c m1) (s2 : Srt c m2)
    (h1 : ∀ x ∈ l1, ∀ y ∈ l2, c x y ≤ 0) (h2 : ∀ x ∈ l1, ∀ y ∈ r2, c x y ≤ 0) (h3 : ∀ x ∈ r1, ∀ y ∈ l2, c x y ≤ 0) (h4 : ∀ x ∈ r1, ∀ y ∈ r2, c x y ≤ 0) : Srt c (m1 ++ m2) := by
  refine srt_app.2 ⟨s1, s2, fun x hx y hy => ?_⟩
  have hx' := List.mem_append.1 (p1.mem_iff.1 hx)
  have hy' := List.mem_append.1 (p2.mem_iff.1 hy)
  rcases hx' with hx' | hx' <;> rcases hy' with hy' | hy'
  · exact h1 x hx' y hy'
  · exact h2 x hx' y hy'
  · exact h3 x hx' y hy'
  · exact h4 x hx' y hy'
/-- Below all of a sorted rest, if below its first one. -/
theorem below_drop (o : Ord c) {l : List α} (h : Srt c l) {x : α} {k : Nat} (hk : k < l.length) (hx : c x l[k] ≤ 0) : ∀ y ∈ l.drop k, c x y ≤ 0 := by
  intro y hy
  obtain ⟨i, hi, rfl⟩ := List.mem_iff_getElem.1 hy
  rw [List.getElem_drop]
  simp only [List.length_drop] at hi
  by_cases q : i = 0
  · subst q; exact hx
  · exact o.tr _ _ _ hx (h.get (i := k) (j := k + i) (by omega) (by omega))
/-- Above all of a sorted beginning, if above its last one. -/
theorem above_take (o : Ord c) {l : List α} (h : Srt c l) {x : α} {k : Nat} (hk : k < l.length) (hx : c l[k] x ≤ 0) : ∀ y ∈ l.take (k + 1), c y x ≤ 0 := by
  intro y hy
  obtain ⟨i, hi, rfl⟩ := List.mem_iff_getElem.1 hy
  rw [List.getElem_take]
  simp only [List.length_take] at hi
  by_cases q : i = k
  · subst q; exact hx
  · exact o.tr _ _ _ (h.get (i := i) (j := k) (by omega) hk) hx
/-- The first ones of the left part and of the right part that change places lie rightly. -/
theorem cross (o : Ord c) {l r : List α} (hl : Srt c l) (hr : Srt c r) {s e : Nat} (hs : s ≤ l.length) (he : e ≤ r.length)
    (h1 : s = 0 ∨ e = r.length ∨ ∃ (q : s - 1 < l.length) (q' : e < r.length), 0 < s ∧ c l[s - 1] r[e] ≤ 0)
    (h2 : e = 0 ∨ s = l.length ∨ ∃ (q : e - 1 < r.length) (q' : s < l.length), 0 < e ∧ c r[e - 1] l[s] ≤ 0) :
    (∀ x ∈ l.take s, ∀ y ∈ r.drop e, c x y ≤ 0) ∧ (∀ x ∈ r.take e, ∀ y ∈ l.drop s, c x y ≤ 0) := by
  constructor
  · rcases h1 with rfl | rfl | ⟨q, q', h0, h⟩
    · simp
    · simp
    · intro x hx y hy
      have a := above_take o hl q h x (by rwa [show s - 1 + 1 = s by omega])
      exact o.tr _ _ _ a (below_drop o hr q' (by have := o.sw r[e] r[e]; omega) y hy)
  · rcases h2 with rfl | rfl | ⟨q, q', h0, h⟩
    · simp
    · simp
    · intro x hx y hy
      have a := above_take o hr q h x (by rwa [show e - 1 + 1 = e by omega])
      exact o.tr _ _ _ a (below_drop o hl q' (by have := o.sw l[s] l[s]; omega) y hy)
/-! Two that change places. -/
def swp (l : List α) (i j : Nat) (hi : i < l.length) (hj : j < l.length) : List α := (l.set i l[j]).set j l[i]
theorem swp_len {l : List α} {i j : Nat} {hi : i < l.length} {hj : j < l.length} : (swp l i j hi hj).length = l.length := by simp [swp]
theorem swp_app {A M B : List α} {x y : α} {i j : Nat} (h1 : i = A.length) (h2 : j = A.length + 1 + M.length) :
    ((A ++ x :: M ++ y :: B).set i y).set j x = A ++ y :: M ++ x :: B := by
  subst h1; subst h2
  apply List.ext_getElem
  · simp
  · intro k k1 k2
    simp only [List.getElem_set, List.getElem_append, List.getElem_cons, List.length_append, List.length_cons]
    by_cases q1 : k = A.length
    · subst q1; simp; intro h; omega
    · by_cases q2 : k = A.length + 1 + M.length
      · subst q2
        rw [if_pos rfl, dif_neg (by omega), dif_pos (by omega)]
      · rw [if_neg (by omega), if_neg (by omega)]
        by_cases q3 : k < A.length + (M.length + 1)
        · rw [dif_pos q3, dif_pos q3]
          by_cases q4 : k < A.length
          · rw [dif_pos q4, dif_pos q4]
          · rw [dif_neg q4, dif_neg q4, dif_neg (by omega), dif_neg (by omega)]
        · rw [dif_neg q3, dif_neg q3, dif_neg (by omega), dif_neg (by omega)]
theorem set_app {A B : List α} {x y : α} {i : Nat} (h : i = A.length) : (A ++ x :: B).set i y = A ++ y :: B := by
  subst h; simp
theorem cut_at {l : List α} {i : Nat} (h : i < l.length) : l = l.take i ++ l[i] :: l.drop (i + 1) := by rw [← List.drop_eq_getElem_cons h, List.take_append_drop]
theorem at_app {l : List α} (A B : List α) {x : α} {i : Nat} (e : l = A ++ x :: B) (h : i = A.length) (hi : i < l.length) : l[i] = x := by subst e; subst h; simp
end
end Go.Gk.Srt
end

section
/-
  Some blocks are read as data by a call that owns others.
-/
namespace Go.Gk
open Go
theorem GCall.borrowA {P : Program} {f : FuncId} {vs : List Value} {d : PHeap} {A B : List PHeap} {Q : Value → List PHeap → Prop} (h : ∀ d1, Le d d1 → (∀ k ∈ B, Le k d1) → GCall P f vs d1 A (Ret fun r d' L' => d' = d1 ∧ Q r L')) :
    GCall P f vs d (A ++ B) (Ret fun r d' L' => d' = d ∧ ∃ L1, L' = L1 ++ B ∧ Q r L1) := by
  have h := h (joinL (d :: B)) (joinL_le (List.mem_cons_self ..)) (fun k hk => joinL_le (List.mem_cons_of_mem _ hk))
  refine ⟨h.1, fun F W x => ?_⟩
  have x1 : Ok (d :: (B ++ (A ++ F))) W := x.perm (List.Perm.cons d (by rw [← List.append_assoc]; exact List.perm_append_comm.append_right F))
  have hp := x1.pw
  have y : Ok (joinL (d :: B) :: (A ++ F)) W := by
    have := (Vs.packL (d := emp) (L0 := A ++ F) (L := d :: B)).2 [] W (by simpa using x1.emp)
    simpa using this.tail
  refine (h.2 F W y).mono fun e W' ⟨d', L', a, b, c, r⟩ => ?_
  cases e with
  | panicked c => exact r.elim
  | outgrown => exact r.elim
  | returned u =>
    obtain ⟨rfl, r⟩ := r
    refine ⟨d, L' ++ B, ?_, Le.refl d, c, rfl, L', rfl, r⟩
    have := (Vs.openL (d := emp) (L0 := L' ++ F) hp).2 [] W' (by simpa using a.emp)
    have z : Ok ((d :: B) ++ (L' ++ F)) W' := by simpa using this.tail
    refine z.perm ?_
    simp only [List.cons_append]
    refine List.Perm.cons d ?_
    rw [← List.append_assoc]
    exact List.perm_append_comm.append_right F
/-- Blocks that are owned lie apart. -/
theorem GCall.apart {P : Program} {f : FuncId} {vs : List Value} {d : PHeap} {L : List PHeap} {R : Ending → PHeap → List PHeap → Prop} (hc : Callable P f) (h : L.Pairwise Disj → GCall P f vs d L R) : GCall P f vs d L R :=
  ⟨hc, fun F W x => (h (x.pw.sublist (List.sublist_cons_self ..))).2 F W x⟩
end Go.Gk
end

section
/-
  Values sorted, and the least one: plain.
-/
namespace Go.Gk.Val
open Go Go.Gk Go.Gk.Srt

theorem cmpV_ord : Ord cmpV := ⟨cmpV_swap, fun a b e h1 h2 => (cmpV_trans a b e).1 h1 h2⟩
theorem srt_unique {l m : List V} (hm : ∀ x ∈ l, mayV x = true) (p : l.Perm m) (h1 : Srt cmpV l) (h2 : Srt cmpV m) : l = m :=
  p.eq_of_pairwise (fun a b ha hb h1 h2 => by
    have h3 := cmpV_swap a b
    exact (cmpV_zero (hm a ha) (hm b (p.mem_iff.2 hb))).1 (by omega)) h1 h2
theorem wrongL_zero : ∀ {l : List V}, wrongL l = 0 ↔ ∀ x ∈ l, rightV x = 0
  | [] => by simp [wrongL]
  | v :: l => by
    rw [wrongL]
    have ih := @wrongL_zero l
    by_cases h : rightV v = 0
    · rw [if_neg (by omega), ih]; simp [h]
    · rw [if_pos h]
      simp [h]
theorem wrongL_may {l : List V} (h : wrongL l = 0) : ∀ x ∈ l, mayV x = true := fun x hx => (right_iff.1 (wrongL_zero.1 h x hx)).1
theorem wrongL_take {l : List V} {i : Nat} (h : i < l.length) (hz : wrongL (l.take i) = 0) : wrongL l = if rightV l[i] ≠ 0 then rightV l[i] else wrongL (l.drop (i + 1)) := by
  have : ∀ (a b : List V), wrongL a = 0 → wrongL (a ++ b) = wrongL b := by
    intro a b
    induction a with
    | nil => intro _; rfl
    | cons v a ih =>
      intro h
      have h0 := wrongL_zero.1 h v (List.mem_cons_self ..)
      rw [List.cons_append, wrongL, if_neg (by omega)]
      exact ih (wrongL_zero.2 fun x hx => wrongL_zero.1 h x (List.mem_cons_of_mem _ hx))
  have h2 := this (l.take i) (l.drop i) hz
  rw [List.take_append_drop] at h2
  rw [h2, wrongL_drop h]
theorem wrongL_snoc {l : List V} {i : Nat} (h : i < l.length) (hz : wrongL (l.take i) = 0) (hr : rightV l[i] = 0) : wrongL (l.take (i + 1)) = 0 := by
  rw [wrongL_zero] at hz ⊢
  intro x hx
  rw [List.take_succ_eq_append_getElem h] at hx
  rcases List.mem_append.1 hx with hx | hx
  · exact hz x hx
  · rw [List.mem_singleton.1 hx]; exact hr
/-! The least one. -/
def leastN (l : List V) : Nat → Nat
  | 0 => 0
  | n + 1 => if h : n < l.length ∧ leastN l n < l.length then (if cmpV l[n] l[leastN l n] < 0 then n else leastN l n) else 0
theorem leastN_lt {l : List V} : ∀ {n : Nat}, n < l.length → leastN l n ≤ n
  | 0, _ => Nat.le_refl _
  | n + 1, h => by
    have ih := @leastN_lt l n (by omega)
    rw [leastN, dif_pos ⟨by omega, by omega⟩]
    split <;> omega
theorem leastN_step {l : List V} {n : Nat} (h : n < l.length) (hb : leastN l n < l.length) : leastN l (n + 1) = if cmpV l[n] l[leastN l n] < 0 then n else leastN l n := by rw [leastN, dif_pos ⟨h, hb⟩]
/-- Of the first 'n': none is below it, and it is below all ahead of it. -/
theorem leastN_zero (l : List V) : leastN l 0 = 0 := rfl
theorem leastN_spec {l : List V} : ∀ {n : Nat} (hn : n ≤ l.length), 0 < n → ∃ hb : leastN l n < l.length, leastN l n < n ∧ (∀ k (hk : k < n), 0 ≤ cmpV (l[k]'(by omega)) l[leastN l n]) ∧ (∀ k (hk : k < leastN l n), cmpV l[leastN l n] (l[k]'(Nat.lt_trans hk hb)) < 0)
  | 0, _, h => absurd h (by omega)
  | n + 1, hn, _ => by
    by_cases h0 : n = 0
    · subst h0
      have e : leastN l (0 + 1) = 0 := by
        rw [leastN_step (by omega) (by rw [leastN_zero]; omega)]
        split <;> rfl
      refine ⟨by omega, by omega, fun k hk => ?_, fun k hk => absurd hk (by omega)⟩
      have : k = 0 := by omega
      subst this
      have h2 := cmpV_swap l[0] l[0]
      simp only [e]; omega
    · obtain ⟨hb, h1, h2, h3⟩ := @leastN_spec l n (by omega) (by omega)
      rw [leastN_step (by omega) hb]
      by_cases hc : cmpV l[n] l[leastN l n] < 0
      · simp only [if_pos hc]
        refine ⟨by omega, by omega, fun k hk => ?_, fun k hk => ?_⟩
        · by_cases hkn : k = n
          · subst hkn
            have := cmpV_swap l[k] l[k]; omega
          · have a := h2 k (by omega)
            have t := (cmpV_trans l[n] l[leastN l n] l[k]).2.1 hc (by have := cmpV_swap l[leastN l n] l[k]; omega)
            have := cmpV_swap l[n] l[k]; omega
        · have a := h2 k (by omega)
          exact (cmpV_trans l[n] l[leastN l n] l[k]).2.1 hc (by have := cmpV_swap l[leastN l n] l[k]; omega)
      · simp only [if_neg hc]
        refine ⟨hb, by omega, fun k hk => ?_, h3⟩
        by_cases hkn : k = n
        · subst hkn; omega
        · exact h2 k (by omega)
def leastTop (l : List V) : Int × Int := if wrongL l ≠ 0 then (0, wrongL l) else if l = [] then (0, 240) else ((leastN l l.length : Nat), 0)
theorem ord_comap {α : Type} (f : α → V) : Ord (fun a b => cmpV (f a) (f b)) := ⟨fun a b => cmpV_swap _ _, fun a b e => cmpV_ord.tr _ _ _⟩
end Go.Gk.Val
end

section
/-
  A stable sort: the rows that it works on.
-/
namespace Go.Gk
open Go
/-- A row that holds something: its elements are read, and two of them may change places. -/
theorem GRow.openW {α : Type} {sz : Nat} {R : PHeap → List Value → α → Prop} {d : PHeap} {pa : Option Addr} {n c : Nat} {xs : List α} {h : PHeap} (hsz : 0 < sz) (o : GRow sz R d (.slice pa n c) xs h) (hne : 0 < xs.length) :
    ∃ b T l, pa = some ⟨b, 0, none⟩ ∧ n = xs.length ∧ h = bx b T l ∧ xs.length * sz ≤ l.length ∧ (∀ m (hm : m < xs.length), R d (chunk l m sz) xs[m]) ∧
      ∀ i j (hi : i < xs.length) (hj : j < xs.length), GRow sz R d (.slice pa n c) ((xs.set i xs[j]).set j xs[i]) (bx b T (patch (patch l (i * sz) (chunk l j sz)) (j * sz) (chunk l i sz))) := by
  have o' := o
  obtain ⟨cs, ⟨h1, h2, ⟨e, h0, rfl⟩ | ⟨b, T, l, c', e, rfl, h3, h4, h5, h6⟩⟩, hr⟩ := o
  · omega
  · injection e with e1 e2 e3
    subst e1; subst e2; subst e3
    have hcz : xs.length * sz ≤ c * sz := Nat.mul_le_mul_right sz h3
    have hck : ∀ m, m < xs.length → chunk l m sz = chunk cs m sz := by
      intro m hm
      have hmz : m * sz + sz ≤ xs.length * sz := by have := Nat.mul_le_mul_right sz (show m + 1 ≤ xs.length from hm); rwa [Nat.add_mul, Nat.one_mul] at this
      have hp : l = cs ++ l.drop cs.length := by conv => lhs; rw [← List.take_append_drop cs.length l, h6]
      rw [hp]; exact chunk_app_left h1 hm
    have hR : ∀ m (hm : m < xs.length), R d (chunk l m sz) xs[m] := fun m hm => by rw [hck m hm]; exact hr m hm
    have hlen : ∀ m, m < xs.length → (chunk l m sz).length = sz := fun m hm => by rw [hck m hm]; exact chunk_len h1 hm
    refine ⟨b, T, l, rfl, rfl, rfl, by omega, hR, fun i j hi hj => ?_⟩
    obtain ⟨b1, T1, l1, c1, e1, e2, _, k1⟩ := o'.openV hsz hi
    have e2 : b = b1 ∧ bx b T l = bx b T l1 ∧ T1 = T := by
      have hb : b = b1 := by injection e1 with e1; injection e1 with e1; injection e1
      subst hb
      have := congrFun (congrFun e2 b) (.cells l.toArray T (0, 0))
      have q : bx b T1 l1 b (.cells l.toArray T (0, 0)) := this ▸ sg_self _ _
      obtain ⟨_, q⟩ := sg_some q
      injection q with q1 q2
      exact ⟨rfl, by rw [e2, q2], q2.symm⟩
    obtain ⟨rfl, e3, rfl⟩ := e2
    have e4 : l = l1 := by
      have q : bx b T1 l1 b (.cells l.toArray T1 (0, 0)) := e3 ▸ sg_self _ _
      obtain ⟨_, q⟩ := sg_some q
      injection q with q1 q2
      exact (Array.toList_inj.2 q1)
    subst e4
    have o2 := k1 (chunk l j sz) xs[j] (hlen j hj) (hR j hj)
    have hj2 : j < (xs.set i xs[j]).length := by rw [List.length_set]; exact hj
    obtain ⟨b2, T2, l2, c2, f1, f2, _, k2⟩ := o2.openV hsz hj2
    have e5 : b = b2 := by injection f1 with f1; injection f1 with f1; injection f1
    subst e5
    have q : bx b T2 l2 b (.cells (patch l (i * sz) (chunk l j sz)).toArray T1 (0, 0)) := f2 ▸ sg_self _ _
    obtain ⟨_, q⟩ := sg_some q
    injection q with q1 q2
    subst q2
    have e6 : patch l (i * sz) (chunk l j sz) = l2 := (Array.toList_inj.2 q1)
    subst e6
    exact k2 (chunk l i sz) xs[i] (hlen i hi) (hR i hi)
section
variable {P : Program} {pan : List PanicEntry → Post} {Qn : Env → Post} {Ls L : List PHeap} {ρ : Env} {d : PHeap} {s : GS} {t : Nat} {tk : Bool}
theorem w_idxC {x i : Operand} {sz b n c : Nat} {k : IntKind} {j : Int} (m : Nat) (ex : ev ρ x = .slice (some ⟨b, 0, none⟩) n c) (ei : ev ρ i = .int k j) (hm : j = (m : Int)) (hl : m < n)
    (h : gws P pan Qn s Ls (upd ρ t (.pointer (some ⟨b, m * sz, none⟩))) d L) : gws P pan Qn (.op tk ⟨some t, none, .idx sz x i⟩ s) Ls ρ d L :=
  w_idx (b := b) (o := 0) m ex ei hm hl (SAd.some n b 0) (by rwa [Nat.zero_add])
theorem w_ldC {x : Operand} {b m sz : Nat} {T : TypeId} {l : List Value} (i : Nat) (e : ev ρ x = .pointer (some ⟨b, m * sz, none⟩)) (hi : (lk tk Ls L)[i]? = some (bx b T l)) (hn : m * sz + sz ≤ l.length)
    (h : gws P pan Qn s Ls (upd ρ t (.agg (chunk l m sz).toArray)) d L) : gws P pan Qn (.op tk ⟨some t, none, .ld (some sz) x⟩ s) Ls ρ d L :=
  w_ldp i e hi (Nat.ble_eq_true_of_le hn) h
end
theorem fin0 {R : Ending → PHeap → List PHeap → Prop} {ρ : Env} {d : PHeap} {L : List PHeap} (L' : List PHeap) (hs : L'.Sublist L) (h : R (.returned (.tuple #[])) d L') : retPost [] R ρ d L := ⟨[], trivial, d, L', Vs.drop hs, h⟩
theorem chunkL {l : List Value} {m sz : Nat} (h : m * sz + sz ≤ l.length) : (chunk l m sz).length = sz := by simp only [chunk, List.length_take, List.length_drop]; omega
section
variable {P : Program} {pan : List PanicEntry → Post} {Qn : Env → Post} {Ls L : List PHeap} {ρ : Env} {d : PHeap} {s : GS} {t : Nat}
theorem w_stC {x y : Operand} {b m sz : Nat} {T : TypeId} {l cs : List Value} (i : Nat) (hi : L[i]? = some (bx b T l)) (ex : ev ρ x = .pointer (some ⟨b, m * sz, none⟩)) (ey : ev ρ y = .agg cs.toArray) (hn : cs.length = sz) (hl : m * sz + sz ≤ l.length)
    (h1 : (cs.all (·.oneCell')) = true) (h : gws P pan Qn s Ls ρ d (L.set i (bx b T (patch l (m * sz) cs)))) : gws P pan Qn (.op false ⟨none, none, .st sz x y⟩ s) Ls ρ d L :=
  w_st i hi ex ey (by simp [Value.cells, hn]) hl (by simpa [Value.cells] using h1) (by simpa [Value.cells] using h)
end
theorem upd_comm {ρ : Env} {a b : Nat} (h : Nat.beq a b = false) (x y : Value) : upd (upd ρ b y) a x = upd (upd ρ a x) b y := by
  funext i
  simp only [upd]
  cases e1 : Nat.beq i a <;> cases e2 : Nat.beq i b <;> simp
  have := Nat.eq_of_beq_eq_true e1
  have q := Nat.eq_of_beq_eq_true e2
  subst this; subst q
  rw [show Nat.beq i i = true from Nat.beq_refl i] at h; cases h
/-- Two elements that change places: both are read, in either order, then both are written. -/
theorem w_swp {P : Program} {pan : List PanicEntry → Post} {Qn : Env → Post} {ρ : Env} {d : PHeap} {sz b i j n c : Nat} {T : TypeId} {l : List Value} {k1 k2 : IntKind} {j1 j2 : Int} {t1 t2 t3 t4 p1 p2 v1 v2 i1 i2 : Nat}
    (ne : Nat.beq t1 t2 = false) (hl1 : i * sz + sz ≤ l.length) (hl2 : j * sz + sz ≤ l.length) (hi : i < n) (hj : j < n) (c1 : ((chunk l j sz).all (·.oneCell')) = true) (c2 : ((chunk l i sz).all (·.oneCell')) = true)
    (e1 : ρ p1 = .pointer (some ⟨b, j * sz, none⟩)) (e2 : ρ p2 = .pointer (some ⟨b, i * sz, none⟩)) (e1' : upd ρ t2 (.agg (chunk l i sz).toArray) p1 = .pointer (some ⟨b, j * sz, none⟩)) (e2' : upd ρ t1 (.agg (chunk l j sz).toArray) p2 = .pointer (some ⟨b, i * sz, none⟩))
    (f1 : upd (upd ρ t1 (.agg (chunk l j sz).toArray)) t2 (.agg (chunk l i sz).toArray) v1 = .slice (some ⟨b, 0, none⟩) n c) (g1 : upd (upd ρ t1 (.agg (chunk l j sz).toArray)) t2 (.agg (chunk l i sz).toArray) i1 = .int k1 j1) (hj1 : j1 = (i : Int))
    (s1 : upd (upd (upd ρ t1 (.agg (chunk l j sz).toArray)) t2 (.agg (chunk l i sz).toArray)) t3 (.pointer (some ⟨b, i * sz, none⟩)) t3 = .pointer (some ⟨b, i * sz, none⟩)) (s1' : upd (upd (upd ρ t1 (.agg (chunk l j sz).toArray)) t2 (.agg (chunk l i sz).toArray)) t3 (.pointer (some ⟨b, i * sz, none⟩)) t1 = .agg (chunk l j sz).toArray)
    (f2 : upd (upd (upd ρ t1 (.agg (chunk l j sz).toArray)) t2 (.agg (chunk l i sz).toArray)) t3 (.pointer (some ⟨b, i * sz, none⟩)) v2 = .slice (some ⟨b, 0, none⟩) n c) (g2 : upd (upd (upd ρ t1 (.agg (chunk l j sz).toArray)) t2 (.agg (chunk l i sz).toArray)) t3 (.pointer (some ⟨b, i * sz, none⟩)) i2 = .int k2 j2) (hj2 : j2 = (j : Int))
    (s2 : upd (upd (upd (upd ρ t1 (.agg (chunk l j sz).toArray)) t2 (.agg (chunk l i sz).toArray)) t3 (.pointer (some ⟨b, i * sz, none⟩))) t4 (.pointer (some ⟨b, j * sz, none⟩)) t4 = .pointer (some ⟨b, j * sz, none⟩)) (s2' : upd (upd (upd (upd ρ t1 (.agg (chunk l j sz).toArray)) t2 (.agg (chunk l i sz).toArray)) t3 (.pointer (some ⟨b, i * sz, none⟩))) t4 (.pointer (some ⟨b, j * sz, none⟩)) t2 = .agg (chunk l i sz).toArray)
    (k : Qn (upd (upd (upd (upd ρ t1 (.agg (chunk l j sz).toArray)) t2 (.agg (chunk l i sz).toArray)) t3 (.pointer (some ⟨b, i * sz, none⟩))) t4 (.pointer (some ⟨b, j * sz, none⟩))) d [bx b T (patch (patch l (i * sz) (chunk l j sz)) (j * sz) (chunk l i sz))]) :
    gws P pan Qn (.alt ⟨some t1, none, .ld (some sz) (.tmp p1)⟩
      (.op false ⟨some t2, none, .ld (some sz) (.tmp p2)⟩ (.op true ⟨some t3, none, .idx sz (.tmp v1) (.tmp i1)⟩ (.op false ⟨none, none, .st sz (.tmp t3) (.tmp t1)⟩ (.op true ⟨some t4, none, .idx sz (.tmp v2) (.tmp i2)⟩ (.op false ⟨none, none, .st sz (.tmp t4) (.tmp t2)⟩ .done)))))
      (.op false ⟨some t2, none, .ld (some sz) (.tmp p2)⟩ (.op false ⟨some t1, none, .ld (some sz) (.tmp p1)⟩ (.op true ⟨some t3, none, .idx sz (.tmp v1) (.tmp i1)⟩ (.op false ⟨none, none, .st sz (.tmp t3) (.tmp t1)⟩ (.op true ⟨some t4, none, .idx sz (.tmp v2) (.tmp i2)⟩ (.op false ⟨none, none, .st sz (.tmp t4) (.tmp t2)⟩ .done))))))) [] ρ d [bx b T l] := by
  have tail : gws P pan Qn (.op true ⟨some t3, none, .idx sz (.tmp v1) (.tmp i1)⟩ (.op false ⟨none, none, .st sz (.tmp t3) (.tmp t1)⟩ (.op true ⟨some t4, none, .idx sz (.tmp v2) (.tmp i2)⟩ (.op false ⟨none, none, .st sz (.tmp t4) (.tmp t2)⟩ .done)))) []
      (upd (upd ρ t1 (.agg (chunk l j sz).toArray)) t2 (.agg (chunk l i sz).toArray)) d [bx b T l] := by
    refine w_idxC i f1 g1 hj1 hi ?_
    refine w_stC 0 rfl s1 s1' (chunkL hl2) hl1 c1 ?_
    refine w_idxC j f2 g2 hj2 hj ?_
    refine w_stC 0 rfl s2 s2' (chunkL hl1) (by rw [patch_len (by rw [chunkL hl2]; omega)]; omega) c2 ?_
    exact w_done0 k
  refine w_alt ?_ ?_
  · refine w_ldC 0 e1 rfl hl2 ?_
    exact w_ldC 0 e2' rfl hl1 tail
  · refine w_ldC 0 e2 rfl hl1 ?_
    refine w_ldC 0 e1' rfl hl2 ?_
    rw [upd_comm ne]
    exact tail
/-- How two are compared. -/
def CmpAt {α : Type} (P : Program) (R : PHeap → List Value → α → Prop) (c : α → α → Int) (g : FuncId) (d : PHeap) (xs : List α) : Prop :=
  ∀ x ∈ xs, ∀ y ∈ xs, ∀ cs ds, R d cs x → R d ds y → GPure P g [.agg cs.toArray, .agg ds.toArray] d (.int .i64 (c x y))
theorem CmpAt.perm {α : Type} {P : Program} {R : PHeap → List Value → α → Prop} {c : α → α → Int} {g : FuncId} {d : PHeap} {xs ys : List α} (h : CmpAt P R c g d xs) (p : ys.Perm xs) : CmpAt P R c g d ys :=
  fun x hx y hy => h x (p.mem_iff.1 hx) y (p.mem_iff.1 hy)
open Srt
def InsOk (sz : Nat) (P : Program) (f : FuncId) : Prop := ∀ {α : Type} {R : PHeap → List Value → α → Prop} {c : α → α → Int} {d : PHeap} {pa : Option Addr} {n cp : Nat} {h : PHeap} {g : FuncId} {A M B : List α} {ia ib : Int},
  Ord c → Cell1 R → GRow sz R d (.slice pa n cp) (A ++ M ++ B) h → CmpAt P R c g d (A ++ M ++ B) → ia = (A.length : Int) → ib = ((A.length + M.length : Nat) : Int) →
  GCall P f [.slice pa n cp, .int .i64 ia, .int .i64 ib, .func (.func g) #[] #[]] d [h] (Ret fun _ d' L' => d' = d ∧ ∃ M' h', L' = [h'] ∧ GRow sz R d (.slice pa n cp) (A ++ M' ++ B) h' ∧ M'.Perm M ∧ Srt c M')
def SwapOk (sz : Nat) (P : Program) (f : FuncId) : Prop := ∀ {α : Type} {R : PHeap → List Value → α → Prop} {d : PHeap} {pa : Option Addr} {n cp : Nat} {h : PHeap} {g : FuncId} {A X M Y B : List α} {ia ib im : Int},
  Cell1 R → GRow sz R d (.slice pa n cp) (A ++ X ++ M ++ Y ++ B) h → X.length = Y.length → ia = (A.length : Int) → ib = ((A.length + X.length + M.length : Nat) : Int) → im = (X.length : Int) →
  GCall P f [.slice pa n cp, .int .i64 ia, .int .i64 ib, .int .i64 im, .func (.func g) #[] #[]] d [h] (Ret fun _ d' L' => d' = d ∧ ∃ h', L' = [h'] ∧ GRow sz R d (.slice pa n cp) (A ++ Y ++ M ++ X ++ B) h')
def RotOk (sz : Nat) (P : Program) (f : FuncId) : Prop := ∀ {α : Type} {R : PHeap → List Value → α → Prop} {d : PHeap} {pa : Option Addr} {n cp : Nat} {h : PHeap} {g : FuncId} {A X Y B : List α} {ia im ib : Int},
  Cell1 R → GRow sz R d (.slice pa n cp) (A ++ X ++ Y ++ B) h → X ≠ [] → Y ≠ [] → ia = (A.length : Int) → im = ((A.length + X.length : Nat) : Int) → ib = ((A.length + X.length + Y.length : Nat) : Int) →
  GCall P f [.slice pa n cp, .int .i64 ia, .int .i64 im, .int .i64 ib, .func (.func g) #[] #[]] d [h] (Ret fun _ d' L' => d' = d ∧ ∃ h', L' = [h'] ∧ GRow sz R d (.slice pa n cp) (A ++ Y ++ X ++ B) h')
def SymOk (sz : Nat) (P : Program) (f : FuncId) : Prop := ∀ {α : Type} {R : PHeap → List Value → α → Prop} {c : α → α → Int} {d : PHeap} {pa : Option Addr} {n cp : Nat} {g : FuncId}, Ord c → Cell1 R → ∀ (N : Nat) {h : PHeap} {A X Y B : List α} {ia im ib : Int},
  X.length + Y.length ≤ N → GRow sz R d (.slice pa n cp) (A ++ X ++ Y ++ B) h → CmpAt P R c g d (A ++ X ++ Y ++ B) → Srt c X → Srt c Y → X ≠ [] → Y ≠ [] → ia = (A.length : Int) → im = ((A.length + X.length : Nat) : Int) → ib = ((A.length + X.length + Y.length : Nat) : Int) →
  GCall P f [.slice pa n cp, .int .i64 ia, .int .i64 im, .int .i64 ib, .func (.func g) #[] #[]] d [h] (Ret fun _ d' L' => d' = d ∧ ∃ M' h', L' = [h'] ∧ GRow sz R d (.slice pa n cp) (A ++ M' ++ B) h' ∧ M'.Perm (X ++ Y) ∧ Srt c M')
end Go.Gk
end

section
/-
  A stable sort: the insertion sort.
-/
namespace Go.Gk
open Go Srt
attribute [local irreducible] gwp gws

def g_slices_insertionSortCmpFunc_api_Value : GFun :=
 ⟨53, [],
 (.seq
 (.reg false (.op false ⟨(some 10), none, (.mv (.tmp 1))⟩
  (.op false ⟨(some 11), none, (.bin .add (.tmp 10) (.const (.int .i64 1)))⟩
  (.op false ⟨(some 8), none, (.mv (.tmp 11))⟩ .done)))) (.block 0 (.loop
 (.seq (.seq
 (.reg false (.op false ⟨(some 12), none, (.mv (.tmp 8))⟩
  (.op false ⟨(some 13), none, (.mv (.tmp 2))⟩
  (.op false ⟨(some 14), none, (.bin .lss (.tmp 12) (.tmp 13))⟩ .done)))) (.cond (.tmp 14) .skip (.exit 0)))
 (.seq (.block 1
 (.seq
 (.reg false (.op false ⟨(some 17), none, (.mv (.tmp 8))⟩
  (.op false ⟨(some 9), none, (.mv (.tmp 17))⟩ .done))) (.block 2 (.loop
 (.seq (.seq
 (.reg true (.op true ⟨(some 18), none, (.mv (.tmp 9))⟩
  (.op true ⟨(some 19), none, (.mv (.tmp 1))⟩
  (.op true ⟨(some 20), none, (.bin .gtr (.tmp 18) (.tmp 19))⟩
  (.op true ⟨(some 21), none, (.mv (.tmp 20))⟩
  (.op true ⟨(some 22), (some (21, true)), (.mv (.tmp 3))⟩
  (.op true ⟨(some 23), (some (21, true)), (.mv (.tmp 0))⟩
  (.op true ⟨(some 24), (some (21, true)), (.mv (.tmp 9))⟩
  (.op true ⟨(some 25), (some (21, true)), (.idx 6 (.tmp 23) (.tmp 24))⟩
  (.op true ⟨(some 26), (some (21, true)), (.ld (some 6) (.tmp 25))⟩
  (.op true ⟨(some 27), (some (21, true)), (.mv (.tmp 0))⟩
  (.op true ⟨(some 28), (some (21, true)), (.mv (.tmp 9))⟩
  (.op true ⟨(some 29), (some (21, true)), (.bin .sub (.tmp 28) (.const (.int .i64 1)))⟩
  (.op true ⟨(some 30), (some (21, true)), (.idx 6 (.tmp 27) (.tmp 29))⟩
  (.op true ⟨(some 31), (some (21, true)), (.ld (some 6) (.tmp 30))⟩
  (.op false ⟨(some 32), (some (21, true)), (.callv (.tmp 22) [(.tmp 26), (.tmp 31)])⟩
  (.op true ⟨(some 33), (some (21, true)), (.bin .lss (.tmp 32) (.const (.int .i64 0)))⟩
  (.op true ⟨(some 34), none, (.pick (.tmp 21) (.tmp 33) (.const (.bool false)))⟩ .done)))))))))))))))))) (.cond (.tmp 34) .skip (.exit 2)))
 (.seq (.block 3
 (.reg true (.op true ⟨(some 37), none, (.mv (.tmp 0))⟩
  (.op true ⟨(some 38), none, (.mv (.tmp 9))⟩
  (.op true ⟨(some 39), none, (.mv (.tmp 0))⟩
  (.op true ⟨(some 40), none, (.mv (.tmp 9))⟩
  (.op true ⟨(some 41), none, (.bin .sub (.tmp 40) (.const (.int .i64 1)))⟩
  (.op true ⟨(some 42), none, (.mv (.tmp 0))⟩
  (.op true ⟨(some 43), none, (.mv (.tmp 9))⟩
  (.op true ⟨(some 44), none, (.bin .sub (.tmp 43) (.const (.int .i64 1)))⟩
  (.op true ⟨(some 45), none, (.idx 6 (.tmp 42) (.tmp 44))⟩
  (.op true ⟨(some 47), none, (.mv (.tmp 0))⟩
  (.op true ⟨(some 48), none, (.mv (.tmp 9))⟩
  (.op true ⟨(some 49), none, (.idx 6 (.tmp 47) (.tmp 48))⟩
  (.alt ⟨(some 46), none, (.ld (some 6) (.tmp 45))⟩
  (.op false ⟨(some 50), none, (.ld (some 6) (.tmp 49))⟩
  (.op true ⟨(some 51), none, (.idx 6 (.tmp 37) (.tmp 38))⟩
  (.op false ⟨none, none, (.st 6 (.tmp 51) (.tmp 46))⟩
  (.op true ⟨(some 52), none, (.idx 6 (.tmp 39) (.tmp 41))⟩
  (.op false ⟨none, none, (.st 6 (.tmp 52) (.tmp 50))⟩ .done))))) (.op false ⟨(some 50), none, (.ld (some 6) (.tmp 49))⟩
  (.op false ⟨(some 46), none, (.ld (some 6) (.tmp 45))⟩
  (.op true ⟨(some 51), none, (.idx 6 (.tmp 37) (.tmp 38))⟩
  (.op false ⟨none, none, (.st 6 (.tmp 51) (.tmp 46))⟩
  (.op true ⟨(some 52), none, (.idx 6 (.tmp 39) (.tmp 41))⟩
  (.op false ⟨none, none, (.st 6 (.tmp 52) (.tmp 50))⟩ .done)))))))))))))))))))))
 (.reg false (.op false ⟨(some 35), none, (.mv (.tmp 9))⟩
  (.op false ⟨(some 36), none, (.bin .sub (.tmp 35) (.const (.int .i64 1)))⟩
  (.op false ⟨(some 9), none, (.mv (.tmp 36))⟩ .done))))))))))
 (.reg false (.op false ⟨(some 15), none, (.mv (.tmp 8))⟩
  (.op false ⟨(some 16), none, (.bin .add (.tmp 15) (.const (.int .i64 1)))⟩
  (.op false ⟨(some 8), none, (.mv (.tmp 16))⟩ .done)))))))))⟩

set_option maxHeartbeats 1000000 in
theorem ins_api_Value {P : Program} {f : FuncId} (hd : dec P f = some g_slices_insertionSortCmpFunc_api_Value) : InsOk 6 P f := by
  intro α R c d pa n cp h g A M B ia ib oc hc1 ho hg ea eb
  subst ea; subst eb
  have hll := ho.len_le
  simp only [List.length_append] at hll
  refine GCall_of hd (Nat.le_of_ble_eq_true rfl) ?_
  show gwp P _ _ _ _ _
  (apply w_sq; apply w_reg; apply w_mvi; rfl; apply w_add; rfl; rfl; omega; omega; apply w_mvi; rfl; apply w_done0; apply w_block)
  refine w_loopS (α := Nat) (fun k => [(0, .slice pa n cp), (1, .int .i64 A.length), (2, .int .i64 (A.length + M.length : Nat)), (3, .func (.func g) #[] #[]), (8, .int .i64 (A.length + 1 + k : Nat))])
    (fun k d' L' => d' = d ∧ ∃ S N h', S.length - 1 = k ∧ (S ++ N).Perm M ∧ Srt c S ∧ (S = [] → N = []) ∧ L' = [h'] ∧ GRow 6 R d (.slice pa n cp) (A ++ (S ++ N) ++ B) h')
    (fun k => M.length - k) 0 ⟨rfl, rfl, rfl, rfl, int_eq (by omega), trivial⟩ ⟨rfl, M.take 1, M.drop 1, h, ?_, by simp only [List.take_append_drop]; exact List.Perm.refl _, ?_, ?_, rfl, by simp only [List.take_append_drop]; exact ho⟩ ?_
  · simp; omega
  · cases M with
    | nil => exact Srt.nil
    | cons m M => exact Srt.one m
  · cases M <;> simp
  rintro k ρ d' L' ⟨hdd, S, N, h', hk, hpm, hsrt, h0, hL, ho'⟩
  subst hdd; subst hL
  have hlen := hpm.length_eq
  simp only [List.length_append] at hlen
  cases N with
  | nil =>
    simp only [List.length_nil] at hlen
    (apply w_sq; apply w_sq; apply w_reg; apply w_mvi; rfl; apply w_mvi; rfl; apply w_lss; rfl; rfl; apply w_done0; refine w_ifdF rfl (by omega) ?_; apply w_exit)
    refine fin0 _ (List.Sublist.refl _) ?_
    exact ⟨rfl, S, h', rfl, by simpa using ho', by simpa using hpm, hsrt⟩
  | cons x N =>
    have hS : S ≠ [] := fun q => by have := h0 q; cases this
    have hSl : S.length ≠ 0 := fun q => hS (List.eq_nil_of_length_eq_zero q)
    simp only [List.length_cons] at hlen
    (apply w_sq; apply w_sq; apply w_reg; apply w_mvi; rfl; apply w_mvi; rfl; apply w_lss; rfl; rfl; apply w_done0; refine w_ifdT rfl (by omega) ?_; apply w_skip; apply w_sq; apply w_block; apply w_sq; apply w_reg; apply w_mvi; rfl; apply w_mvi; rfl; apply w_done0; apply w_block)
    refine w_loopS (α := Nat) (fun j => [(0, .slice pa n cp), (1, .int .i64 A.length), (2, .int .i64 (A.length + M.length : Nat)), (3, .func (.func g) #[] #[]), (8, .int .i64 (A.length + 1 + k : Nat)), (9, .int .i64 (A.length + j : Nat))])
      (fun j d2 L' => d2 = d' ∧ ∃ S1 S2 h', S1.length = j ∧ S1 ++ S2 = S ∧ (S2 = [] ∨ ∃ z, S2.head? = some z ∧ c x z ≤ 0) ∧ L' = [h'] ∧ GRow 6 R d' (.slice pa n cp) (A ++ (S1 ++ x :: S2 ++ N) ++ B) h')
      (fun j => j) S.length ⟨rfl, rfl, rfl, rfl, rfl, int_eq (by omega), trivial⟩ ⟨rfl, S, [], h', rfl, by simp, .inl rfl, rfl, by simpa using ho'⟩ ?_
    rintro j ρ d2 L' ⟨hdd, S1, S2, h2, hj, hS12, hx2, hL, ho2⟩
    subst hdd; subst hL
    rcases List.eq_nil_or_concat S1 with rfl | ⟨S1, y, rfl⟩
    · simp only [List.length_nil] at hj
      simp only [List.nil_append] at hS12
      subst hS12
      (apply w_sq; apply w_sq; apply w_drawn; apply w_mvi; rfl; apply w_mvi; rfl; apply w_gtr; rfl; rfl; apply w_mvb; rfl; refine w_gdF rfl (by omega) ?_; apply w_gF; rfl; apply w_gF; rfl; apply w_gF; rfl; apply w_gF; rfl; apply w_gF; rfl; apply w_gF; rfl; apply w_gF; rfl; apply w_gF; rfl; apply w_gF; rfl; apply w_gF; rfl; apply w_gF; rfl; apply w_gF; rfl; apply w_pickFb; rfl; rfl; apply w_done; apply w_ifF; rfl; apply w_exit; apply w_reg; apply w_mvi; rfl; apply w_add; rfl; rfl; omega; omega; apply w_mvi; rfl; apply w_done0)
      refine ⟨k + 1, by omega, ⟨rfl, rfl, rfl, rfl, int_eq (by omega), trivial⟩, rfl, x :: S2, N, h2, by simp; omega, ?_, ?_, by simp, rfl, by simpa using ho2⟩
      · exact (List.perm_middle (l₁ := S2) (l₂ := N) (a := x)).symm.trans hpm
      · exact Srt.put oc (l := []) (by simpa using hsrt) (.inl rfl) hx2
    · rw [List.concat_eq_append] at hS12 ho2 hj
      simp only [List.length_append, List.length_cons, List.length_nil] at hj
      have e1 : A ++ (S1 ++ [y] ++ x :: S2 ++ N) ++ B = (A ++ S1) ++ y :: ([] : List α) ++ x :: (S2 ++ N ++ B) := by simp
      have hpx : (A ++ (S1 ++ [y] ++ x :: S2 ++ N) ++ B).Perm (A ++ M ++ B) := by
        refine (List.Perm.append_left A ?_).append_right B
        refine List.Perm.trans ?_ hpm
        rw [← hS12]
        simp only [List.append_assoc, List.cons_append, List.nil_append]
        refine List.Perm.append_left S1 ?_
        refine (List.Perm.cons y ?_)
        exact List.perm_middle.symm
      have hg2 := hg.perm hpx
      obtain ⟨b, T, l, hpa, hn, hh, hll2, hRl, hsw⟩ := ho2.openW (by omega) (by simp; omega)
      have hlx : (A ++ (S1 ++ [y] ++ x :: S2 ++ N) ++ B).length = A.length + M.length + B.length := by rw [hpx.length_eq]; simp; omega
      subst hpa; subst hh
      have hb : S1.length + 1 < M.length := by have := congrArg List.length hS12; simp at this; omega
      have hRy := hRl (A.length + S1.length) (by omega)
      have hRx := hRl (A.length + S1.length + 1) (by omega)
      have g1 : (A ++ (S1 ++ [y] ++ x :: S2 ++ N) ++ B)[A.length + S1.length]'(by omega) = y := at_app (A ++ S1) (x :: S2 ++ N ++ B) (by simp) (by simp) _
      have g2 : (A ++ (S1 ++ [y] ++ x :: S2 ++ N) ++ B)[A.length + S1.length + 1]'(by omega) = x := at_app (A ++ S1 ++ [y]) (S2 ++ N ++ B) (by simp) (by simp; omega) _
      rw [g1] at hRy; rw [g2] at hRx
      have my : y ∈ A ++ (S1 ++ [y] ++ x :: S2 ++ N) ++ B := by simp
      have mx : x ∈ A ++ (S1 ++ [y] ++ x :: S2 ++ N) ++ B := by simp
      (apply w_sq; apply w_sq; apply w_drawn; apply w_mvi; rfl; apply w_mvi; rfl; apply w_gtr; rfl; rfl; apply w_mvb; rfl; refine w_gdT rfl (by omega) ?_; apply w_gT; rfl; apply w_mvf; rfl; apply w_gT; rfl; apply w_mvs; rfl; apply w_gT; rfl; apply w_mvi; rfl; apply w_gT; rfl)
      refine w_idxC (A.length + S1.length + 1) rfl rfl (by omega) (by omega) ?_
      apply w_gT; rfl
      refine w_ldC 0 rfl rfl (by omega) ?_
      (apply w_gT; rfl; apply w_mvs; rfl; apply w_gT; rfl; apply w_mvi; rfl; apply w_gT; rfl; apply w_sub; rfl; rfl; omega; omega; apply w_gT; rfl)
      refine w_idxC (A.length + S1.length) rfl rfl (by omega) (by omega) ?_
      apply w_gT; rfl
      refine w_ldC 0 rfl rfl (by omega) ?_
      apply w_gT; rfl
      refine w_purev rfl rfl (hg2 x mx y my _ _ hRx hRy) ?_
      by_cases hlt : c x y < 0
      · (apply w_gT; rfl; apply w_lss; rfl; rfl; apply w_pickTb; rfl; rfl; apply w_done; refine w_ifdT rfl (by omega) ?_; apply w_skip; apply w_sq; apply w_block)
        refine w_drawnS [] [0] rfl ?_
        have hs1 := hsw (A.length + S1.length + 1) (A.length + S1.length) (by omega) (by omega)
        rw [g1, g2, List.set_comm _ _ (by omega), e1, swp_app (by simp) (by simp), show A ++ S1 ++ x :: [] ++ y :: (S2 ++ N ++ B) = A ++ (S1 ++ x :: (y :: S2) ++ N) ++ B by simp] at hs1
        (apply w_mvs; rfl; apply w_mvi; rfl; apply w_mvs; rfl; apply w_mvi; rfl; apply w_sub; rfl; rfl; omega; omega; apply w_mvs; rfl; apply w_mvi; rfl; apply w_sub; rfl; rfl; omega; omega)
        refine w_idxC (A.length + S1.length) rfl rfl (by omega) (by omega) ?_
        (apply w_mvs; rfl; apply w_mvi; rfl)
        refine w_idxC (A.length + S1.length + 1) rfl rfl (by omega) (by omega) ?_
        refine w_alt ?_ ?_
        · refine w_ldC 0 rfl rfl (by omega) ?_
          refine w_ldC 0 rfl rfl (by omega) ?_
          refine w_idxC (A.length + S1.length + 1) rfl rfl (by omega) (by omega) ?_
          refine w_stC 0 rfl rfl rfl (chunkL (by omega)) (by omega) (hc1 _ _ _ hRy) ?_
          refine w_idxC (A.length + S1.length) rfl rfl (by omega) (by omega) ?_
          refine w_stC 0 rfl rfl rfl (chunkL (by omega)) (by rw [patch_len (by rw [chunkL (by omega)]; omega)]; omega) (hc1 _ _ _ hRx) ?_
          (apply w_done0; apply w_reg; apply w_mvi; rfl; apply w_sub; rfl; rfl; omega; omega; apply w_mvi; rfl; apply w_done0)
          exact ⟨j - 1, by omega, ⟨rfl, rfl, rfl, rfl, rfl, int_eq (by omega), trivial⟩, rfl, S1, y :: S2, _, by omega, by rw [← hS12]; simp, .inr ⟨y, rfl, oc.le_of_lt hlt⟩, rfl, hs1⟩
        · refine w_ldC 0 rfl rfl (by omega) ?_
          refine w_ldC 0 rfl rfl (by omega) ?_
          refine w_idxC (A.length + S1.length + 1) rfl rfl (by omega) (by omega) ?_
          refine w_stC 0 rfl rfl rfl (chunkL (by omega)) (by omega) (hc1 _ _ _ hRy) ?_
          refine w_idxC (A.length + S1.length) rfl rfl (by omega) (by omega) ?_
          refine w_stC 0 rfl rfl rfl (chunkL (by omega)) (by rw [patch_len (by rw [chunkL (by omega)]; omega)]; omega) (hc1 _ _ _ hRx) ?_
          (apply w_done0; apply w_reg; apply w_mvi; rfl; apply w_sub; rfl; rfl; omega; omega; apply w_mvi; rfl; apply w_done0)
          exact ⟨j - 1, by omega, ⟨rfl, rfl, rfl, rfl, rfl, int_eq (by omega), trivial⟩, rfl, S1, y :: S2, _, by omega, by rw [← hS12]; simp, .inr ⟨y, rfl, oc.le_of_lt hlt⟩, rfl, hs1⟩
      · (apply w_gT; rfl; apply w_lss; rfl; rfl; apply w_pickTb; rfl; rfl; apply w_done; refine w_ifdF rfl (by omega) ?_; apply w_exit; apply w_reg; apply w_mvi; rfl; apply w_add; rfl; rfl; omega; omega; apply w_mvi; rfl; apply w_done0)
        refine ⟨k + 1, by omega, ⟨rfl, rfl, rfl, rfl, int_eq (by omega), trivial⟩, rfl, S1 ++ [y] ++ x :: S2, N, bx b T l, ?_, ?_, ?_, by simp, rfl, ho2⟩
        · have := congrArg List.length hS12; simp at this; simp; omega
        · refine List.Perm.trans ?_ hpm
          rw [← hS12]
          simp only [List.append_assoc, List.cons_append, List.nil_append]
          exact (List.Perm.append_left S1 ((List.perm_middle.symm).cons y))
        · exact Srt.put oc (l := S1 ++ [y]) (by rw [hS12]; exact hsrt) (.inr ⟨y, by simp, oc.le_of_not_lt hlt⟩) hx2
end Go.Gk
end

section
/-
  A stable sort: stretches that change places.
-/
namespace Go.Gk
open Go Srt
attribute [local irreducible] gwp gws

def g_slices_swapRangeCmpFunc_api_Value : GFun :=
 ⟨38, [],
 (.seq
 (.reg false (.op false ⟨(some 10), none, (.mv (.const (.int .i64 0)))⟩ .done)) (.block 0 (.loop
 (.seq (.seq
 (.reg false (.op false ⟨(some 11), none, (.mv (.tmp 10))⟩
  (.op false ⟨(some 12), none, (.mv (.tmp 3))⟩
  (.op false ⟨(some 13), none, (.bin .lss (.tmp 11) (.tmp 12))⟩ .done)))) (.cond (.tmp 13) .skip (.exit 0)))
 (.seq (.block 1
 (.reg true (.op true ⟨(some 16), none, (.mv (.tmp 0))⟩
  (.op true ⟨(some 17), none, (.mv (.tmp 1))⟩
  (.op true ⟨(some 18), none, (.mv (.tmp 10))⟩
  (.op true ⟨(some 19), none, (.bin .add (.tmp 17) (.tmp 18))⟩
  (.op true ⟨(some 20), none, (.mv (.tmp 0))⟩
  (.op true ⟨(some 21), none, (.mv (.tmp 2))⟩
  (.op true ⟨(some 22), none, (.mv (.tmp 10))⟩
  (.op true ⟨(some 23), none, (.bin .add (.tmp 21) (.tmp 22))⟩
  (.op true ⟨(some 24), none, (.mv (.tmp 0))⟩
  (.op true ⟨(some 25), none, (.mv (.tmp 2))⟩
  (.op true ⟨(some 26), none, (.mv (.tmp 10))⟩
  (.op true ⟨(some 27), none, (.bin .add (.tmp 25) (.tmp 26))⟩
  (.op true ⟨(some 28), none, (.idx 6 (.tmp 24) (.tmp 27))⟩
  (.op true ⟨(some 30), none, (.mv (.tmp 0))⟩
  (.op true ⟨(some 31), none, (.mv (.tmp 1))⟩
  (.op true ⟨(some 32), none, (.mv (.tmp 10))⟩
  (.op true ⟨(some 33), none, (.bin .add (.tmp 31) (.tmp 32))⟩
  (.op true ⟨(some 34), none, (.idx 6 (.tmp 30) (.tmp 33))⟩
  (.alt ⟨(some 29), none, (.ld (some 6) (.tmp 28))⟩
  (.op false ⟨(some 35), none, (.ld (some 6) (.tmp 34))⟩
  (.op true ⟨(some 36), none, (.idx 6 (.tmp 16) (.tmp 19))⟩
  (.op false ⟨none, none, (.st 6 (.tmp 36) (.tmp 29))⟩
  (.op true ⟨(some 37), none, (.idx 6 (.tmp 20) (.tmp 23))⟩
  (.op false ⟨none, none, (.st 6 (.tmp 37) (.tmp 35))⟩ .done))))) (.op false ⟨(some 35), none, (.ld (some 6) (.tmp 34))⟩
  (.op false ⟨(some 29), none, (.ld (some 6) (.tmp 28))⟩
  (.op true ⟨(some 36), none, (.idx 6 (.tmp 16) (.tmp 19))⟩
  (.op false ⟨none, none, (.st 6 (.tmp 36) (.tmp 29))⟩
  (.op true ⟨(some 37), none, (.idx 6 (.tmp 20) (.tmp 23))⟩
  (.op false ⟨none, none, (.st 6 (.tmp 37) (.tmp 35))⟩ .done)))))))))))))))))))))))))))
 (.reg false (.op false ⟨(some 14), none, (.mv (.tmp 10))⟩
  (.op false ⟨(some 15), none, (.bin .add (.tmp 14) (.const (.int .i64 1)))⟩
  (.op false ⟨(some 10), none, (.mv (.tmp 15))⟩ .done)))))))))⟩

set_option maxHeartbeats 1000000 in
theorem swap_api_Value {P : Program} {f : FuncId} (hd : dec P f = some g_slices_swapRangeCmpFunc_api_Value) : SwapOk 6 P f := by
  intro α R d pa n cp h g A X M Y B ia ib im hc1 ho hxy ea eb em
  subst ea; subst eb; subst em
  have hll := ho.len_le
  simp only [List.length_append] at hll
  refine GCall_of hd (Nat.le_of_ble_eq_true rfl) ?_
  show gwp P _ _ _ _ _
  (apply w_sq; apply w_reg; apply w_mvi; rfl; apply w_done0; apply w_block)
  refine w_loopS (α := Nat) (fun i => [(0, .slice pa n cp), (1, .int .i64 A.length), (2, .int .i64 (A.length + X.length + M.length : Nat)), (3, .int .i64 X.length), (10, .int .i64 i)])
    (fun i d' L' => d' = d ∧ i ≤ X.length ∧ ∃ h', L' = [h'] ∧ GRow 6 R d (.slice pa n cp) (A ++ (Y.take i ++ X.drop i) ++ M ++ (X.take i ++ Y.drop i) ++ B) h')
    (fun i => X.length - i) 0 ⟨rfl, rfl, rfl, rfl, rfl, trivial⟩ ⟨rfl, Nat.zero_le _, h, rfl, by simpa using ho⟩ ?_
  rintro i ρ d' L' ⟨hdd, hi, h', hL, ho'⟩
  subst hdd; subst hL
  by_cases hc : i < X.length
  · have hc2 : i < Y.length := by omega
    have e1 : A ++ (Y.take i ++ X.drop i) ++ M ++ (X.take i ++ Y.drop i) ++ B = (A ++ Y.take i) ++ X[i] :: (X.drop (i + 1) ++ M ++ X.take i) ++ Y[i] :: (Y.drop (i + 1) ++ B) := by
      rw [List.drop_eq_getElem_cons hc, List.drop_eq_getElem_cons hc2]; simp only [List.append_assoc, List.cons_append, List.nil_append]
    have e2 : (A ++ Y.take i) ++ Y[i] :: (X.drop (i + 1) ++ M ++ X.take i) ++ X[i] :: (Y.drop (i + 1) ++ B) = A ++ (Y.take (i + 1) ++ X.drop (i + 1)) ++ M ++ (X.take (i + 1) ++ Y.drop (i + 1)) ++ B := by
      rw [List.take_succ_eq_append_getElem hc, List.take_succ_eq_append_getElem hc2]; simp only [List.append_assoc, List.cons_append, List.nil_append]
    rw [e1] at ho'
    have hlx : ((A ++ Y.take i) ++ X[i] :: (X.drop (i + 1) ++ M ++ X.take i) ++ Y[i] :: (Y.drop (i + 1) ++ B)).length = A.length + X.length + M.length + Y.length + B.length := by
      rw [← e1]; simp; omega
    obtain ⟨b, T, l, hpa, hn, hh, hll2, hRl, hsw⟩ := ho'.openW (by omega) (by omega)
    subst hpa; subst hh
    have q1 : (A ++ Y.take i).length = A.length + i := by simp; omega
    have q2 : (X.drop (i + 1) ++ M ++ X.take i).length = X.length + M.length - 1 := by simp; omega
    have hRy := hRl (A.length + X.length + M.length + i) (by omega)
    have hRx := hRl (A.length + i) (by omega)
    have hs1 := hsw (A.length + i) (A.length + X.length + M.length + i) (by omega) (by omega)
    have g1 : ((A ++ Y.take i) ++ X[i] :: (X.drop (i + 1) ++ M ++ X.take i) ++ Y[i] :: (Y.drop (i + 1) ++ B))[A.length + i]'(by omega) = X[i] := at_app (A ++ Y.take i) ((X.drop (i + 1) ++ M ++ X.take i) ++ Y[i] :: (Y.drop (i + 1) ++ B)) (by simp) (by omega) _
    have g2 : ((A ++ Y.take i) ++ X[i] :: (X.drop (i + 1) ++ M ++ X.take i) ++ Y[i] :: (Y.drop (i + 1) ++ B))[A.length + X.length + M.length + i]'(by omega) = Y[i] := at_app ((A ++ Y.take i) ++ X[i] :: (X.drop (i + 1) ++ M ++ X.take i)) (Y.drop (i + 1) ++ B) (by simp) (by rw [List.length_append, List.length_cons, q1, q2]; omega) _
    rw [g2] at hRy; rw [g1] at hRx
    rw [g1, g2, swp_app (by omega) (by omega), e2] at hs1
    (apply w_sq; apply w_sq; apply w_reg; apply w_mvi; rfl; apply w_mvi; rfl; apply w_lss; rfl; rfl; apply w_done0; refine w_ifdT rfl (by omega) ?_; apply w_skip; apply w_sq; apply w_block)
    refine w_drawnS [] [0] rfl ?_
    (apply w_mvs; rfl; apply w_mvi; rfl; apply w_mvi; rfl; apply w_add; rfl; rfl; omega; omega; apply w_mvs; rfl; apply w_mvi; rfl; apply w_mvi; rfl; apply w_add; rfl; rfl; omega; omega; apply w_mvs; rfl; apply w_mvi; rfl; apply w_mvi; rfl; apply w_add; rfl; rfl; omega; omega)
    refine w_idxC (A.length + X.length + M.length + i) rfl rfl (by omega) (by omega) ?_
    (apply w_mvs; rfl; apply w_mvi; rfl; apply w_mvi; rfl; apply w_add; rfl; rfl; omega; omega)
    refine w_idxC (A.length + i) rfl rfl (by omega) (by omega) ?_
    refine w_alt ?_ ?_
    · refine w_ldC 0 rfl rfl (by omega) ?_
      refine w_ldC 0 rfl rfl (by omega) ?_
      refine w_idxC (A.length + i) rfl rfl (by omega) (by omega) ?_
      refine w_stC 0 rfl rfl rfl (chunkL (by omega)) (by omega) (hc1 _ _ _ hRy) ?_
      refine w_idxC (A.length + X.length + M.length + i) rfl rfl (by omega) (by omega) ?_
      refine w_stC 0 rfl rfl rfl (chunkL (by omega)) (by rw [patch_len (by rw [chunkL (by omega)]; omega)]; omega) (hc1 _ _ _ hRx) ?_
      (apply w_done0; apply w_reg; apply w_mvi; rfl; apply w_add; rfl; rfl; omega; omega; apply w_mvi; rfl; apply w_done0)
      exact ⟨i + 1, by omega, ⟨rfl, rfl, rfl, rfl, int_eq (by omega), trivial⟩, rfl, hc, _, rfl, hs1⟩
    · refine w_ldC 0 rfl rfl (by omega) ?_
      refine w_ldC 0 rfl rfl (by omega) ?_
      refine w_idxC (A.length + i) rfl rfl (by omega) (by omega) ?_
      refine w_stC 0 rfl rfl rfl (chunkL (by omega)) (by omega) (hc1 _ _ _ hRy) ?_
      refine w_idxC (A.length + X.length + M.length + i) rfl rfl (by omega) (by omega) ?_
      refine w_stC 0 rfl rfl rfl (chunkL (by omega)) (by rw [patch_len (by rw [chunkL (by omega)]; omega)]; omega) (hc1 _ _ _ hRx) ?_
      (apply w_done0; apply w_reg; apply w_mvi; rfl; apply w_add; rfl; rfl; omega; omega; apply w_mvi; rfl; apply w_done0)
      exact ⟨i + 1, by omega, ⟨rfl, rfl, rfl, rfl, int_eq (by omega), trivial⟩, rfl, hc, _, rfl, hs1⟩
  · obtain rfl : i = X.length := by omega
    rw [List.take_of_length_le (Nat.le_of_eq hxy.symm), List.drop_length, List.take_length, List.drop_of_length_le (Nat.le_of_eq hxy.symm)] at ho'
    (apply w_sq; apply w_sq; apply w_reg; apply w_mvi; rfl; apply w_mvi; rfl; apply w_lss; rfl; rfl; apply w_done0; refine w_ifdF rfl (by omega) ?_; apply w_exit)
    refine fin0 _ (List.Sublist.refl _) ?_
    exact ⟨rfl, h', rfl, by simpa using ho'⟩
def g_slices_rotateCmpFunc_api_Value (f_slices_swapRangeCmpFunc_api_Value : Nat) : GFun :=
 ⟨58, [],
 (.seq
 (.reg false (.op false ⟨(some 12), none, (.mv (.tmp 2))⟩
  (.op false ⟨(some 13), none, (.mv (.tmp 1))⟩
  (.op false ⟨(some 14), none, (.bin .sub (.tmp 12) (.tmp 13))⟩
  (.op false ⟨(some 10), none, (.mv (.tmp 14))⟩ .done)))))
 (.seq
 (.reg false (.op false ⟨(some 15), none, (.mv (.tmp 3))⟩
  (.op false ⟨(some 16), none, (.mv (.tmp 2))⟩
  (.op false ⟨(some 17), none, (.bin .sub (.tmp 15) (.tmp 16))⟩
  (.op false ⟨(some 11), none, (.mv (.tmp 17))⟩ .done)))))
 (.seq (.block 0 (.loop
 (.seq (.seq
 (.reg false (.op false ⟨(some 18), none, (.mv (.tmp 10))⟩
  (.op false ⟨(some 19), none, (.mv (.tmp 11))⟩
  (.op false ⟨(some 20), none, (.bin .neq (.tmp 18) (.tmp 19))⟩ .done)))) (.cond (.tmp 20) .skip (.exit 0))) (.block 1
 (.seq
 (.reg false (.op false ⟨(some 21), none, (.mv (.tmp 10))⟩
  (.op false ⟨(some 22), none, (.mv (.tmp 11))⟩
  (.op false ⟨(some 23), none, (.bin .gtr (.tmp 21) (.tmp 22))⟩ .done)))) (.cond (.tmp 23)
 (.seq
 (.reg false (.op false ⟨(some 24), none, (.mv (.tmp 0))⟩
  (.op false ⟨(some 25), none, (.mv (.tmp 2))⟩
  (.op false ⟨(some 26), none, (.mv (.tmp 10))⟩
  (.op false ⟨(some 27), none, (.bin .sub (.tmp 25) (.tmp 26))⟩
  (.op false ⟨(some 28), none, (.mv (.tmp 2))⟩
  (.op false ⟨(some 29), none, (.mv (.tmp 11))⟩
  (.op false ⟨(some 30), none, (.mv (.tmp 4))⟩
  (.op false ⟨(some 31), none, (.call f_slices_swapRangeCmpFunc_api_Value [(.tmp 24), (.tmp 27), (.tmp 28), (.tmp 29), (.tmp 30)])⟩ .done)))))))))
 (.reg false (.op false ⟨(some 32), none, (.mv (.tmp 10))⟩
  (.op false ⟨(some 33), none, (.mv (.tmp 11))⟩
  (.op false ⟨(some 34), none, (.bin .sub (.tmp 32) (.tmp 33))⟩
  (.op false ⟨(some 10), none, (.mv (.tmp 34))⟩ .done))))))
 (.seq
 (.reg false (.op false ⟨(some 35), none, (.mv (.tmp 0))⟩
  (.op false ⟨(some 36), none, (.mv (.tmp 2))⟩
  (.op false ⟨(some 37), none, (.mv (.tmp 10))⟩
  (.op false ⟨(some 38), none, (.bin .sub (.tmp 36) (.tmp 37))⟩
  (.op false ⟨(some 39), none, (.mv (.tmp 2))⟩
  (.op false ⟨(some 40), none, (.mv (.tmp 11))⟩
  (.op false ⟨(some 41), none, (.bin .add (.tmp 39) (.tmp 40))⟩
  (.op false ⟨(some 42), none, (.mv (.tmp 10))⟩
  (.op false ⟨(some 43), none, (.bin .sub (.tmp 41) (.tmp 42))⟩
  (.op false ⟨(some 44), none, (.mv (.tmp 10))⟩
  (.op false ⟨(some 45), none, (.mv (.tmp 4))⟩
  (.op false ⟨(some 46), none, (.call f_slices_swapRangeCmpFunc_api_Value [(.tmp 35), (.tmp 38), (.tmp 43), (.tmp 44), (.tmp 45)])⟩ .done)))))))))))))
 (.reg false (.op false ⟨(some 47), none, (.mv (.tmp 11))⟩
  (.op false ⟨(some 48), none, (.mv (.tmp 10))⟩
  (.op false ⟨(some 49), none, (.bin .sub (.tmp 47) (.tmp 48))⟩
  (.op false ⟨(some 11), none, (.mv (.tmp 49))⟩ .done))))))))))))
 (.reg false (.op false ⟨(some 50), none, (.mv (.tmp 0))⟩
  (.op false ⟨(some 51), none, (.mv (.tmp 2))⟩
  (.op false ⟨(some 52), none, (.mv (.tmp 10))⟩
  (.op false ⟨(some 53), none, (.bin .sub (.tmp 51) (.tmp 52))⟩
  (.op false ⟨(some 54), none, (.mv (.tmp 2))⟩
  (.op false ⟨(some 55), none, (.mv (.tmp 10))⟩
  (.op false ⟨(some 56), none, (.mv (.tmp 4))⟩
  (.op false ⟨(some 57), none, (.call f_slices_swapRangeCmpFunc_api_Value [(.tmp 50), (.tmp 53), (.tmp 54), (.tmp 55), (.tmp 56)])⟩ .done))))))))))))⟩

set_option maxHeartbeats 1000000 in
theorem rot_api_Value {P : Program} {f f1 : FuncId} (hd : dec P f = some (g_slices_rotateCmpFunc_api_Value f1)) (h1 : SwapOk 6 P f1) : RotOk 6 P f := by
  intro α R d pa n cp h g A X Y B ia im ib hc1 ho hx hy ea em eb
  subst ea; subst eb; subst em
  have hll := ho.len_le
  simp only [List.length_append] at hll
  have hxl : X.length ≠ 0 := fun q => hx (List.eq_nil_of_length_eq_zero q)
  have hyl : Y.length ≠ 0 := fun q => hy (List.eq_nil_of_length_eq_zero q)
  refine GCall_of hd (Nat.le_of_ble_eq_true rfl) ?_
  show gwp P _ _ _ _ _
  (apply w_sq; apply w_reg; apply w_mvi; rfl; apply w_mvi; rfl; apply w_sub; rfl; rfl; omega; omega; apply w_mvi; rfl; apply w_done0; apply w_sq; apply w_reg; apply w_mvi; rfl; apply w_mvi; rfl; apply w_sub; rfl; rfl; omega; omega; apply w_mvi; rfl; apply w_done0; apply w_sq; apply w_block)
  refine w_loopS (α := Nat × Nat) (fun x => [(0, .slice pa n cp), (1, .int .i64 A.length), (2, .int .i64 (A.length + X.length : Nat)), (3, .int .i64 (A.length + X.length + Y.length : Nat)), (4, .func (.func g) #[] #[]), (10, .int .i64 x.1), (11, .int .i64 x.2)])
    (fun x d' L' => d' = d ∧ ∃ A' X' Y' B' h', L' = [h'] ∧ GRow 6 R d (.slice pa n cp) (A' ++ X' ++ Y' ++ B') h' ∧ X'.length = x.1 ∧ Y'.length = x.2 ∧ A'.length + x.1 = A.length + X.length ∧ 0 < x.1 ∧ 0 < x.2 ∧ A' ++ Y' ++ X' ++ B' = A ++ Y ++ X ++ B)
    (fun x => x.1 + x.2) (X.length, Y.length) ⟨rfl, rfl, rfl, rfl, rfl, int_eq (by show (_ : Int) = (X.length : Int); omega), int_eq (by show (_ : Int) = (Y.length : Int); omega), trivial⟩ ⟨rfl, A, X, Y, B, h, rfl, ho, rfl, rfl, rfl, by simp only; omega, by simp only; omega, rfl⟩ ?_
  rintro ⟨i, j⟩ ρ d' L' ⟨hdd, A', X', Y', B', h', hL, ho', hi, hj, ha, hi0, hj0, he⟩
  subst hdd; subst hL
  simp only at hi hj ha hi0 hj0
  have hll' := ho'.len_le
  simp only [List.length_append] at hll'
  by_cases hij : i = j
  · (apply w_sq; apply w_sq; apply w_reg; apply w_mvi; rfl; apply w_mvi; rfl; apply w_neq; rfl; rfl; apply w_done0; refine w_ifdF rfl (by omega) ?_; apply w_exit; apply w_reg; apply w_mvs; rfl; apply w_mvi; rfl; apply w_mvi; rfl; apply w_sub; rfl; rfl; omega; omega; apply w_mvi; rfl; apply w_mvi; rfl; apply w_mvf; rfl)
    refine w_calln 1 rfl (h1 (A := A') (X := X') (M := []) (Y := Y') (B := B') hc1 (by simpa using ho') (by omega) (by omega) (by simp; omega) (by omega)) (fun r d2 L2 _ ⟨hdd, h2, hL, ho2⟩ => ?_)
    subst hdd; subst hL
    (apply w_done0)
    refine fin0 [h2] (by simp) ?_
    exact ⟨rfl, h2, rfl, by rw [← he]; simpa using ho2⟩
  · by_cases hgt : j < i
    · (apply w_sq; apply w_sq; apply w_reg; apply w_mvi; rfl; apply w_mvi; rfl; apply w_neq; rfl; rfl; apply w_done0; refine w_ifdT rfl (by omega) ?_; apply w_skip; apply w_block; apply w_sq; apply w_reg; apply w_mvi; rfl; apply w_mvi; rfl; apply w_gtr; rfl; rfl; apply w_done0; refine w_ifdT rfl (by omega) ?_; apply w_sq; apply w_reg; apply w_mvs; rfl; apply w_mvi; rfl; apply w_mvi; rfl; apply w_sub; rfl; rfl; omega; omega; apply w_mvi; rfl; apply w_mvi; rfl; apply w_mvf; rfl)
      refine w_calln 1 rfl (h1 (A := A') (X := X'.take j) (M := X'.drop j) (Y := Y') (B := B') hc1 (by rw [List.append_assoc A', List.take_append_drop]; exact ho') (by simp; omega) (by omega) (by simp; omega) (by simp; omega)) (fun r d2 L2 _ ⟨hdd, h2, hL, ho2⟩ => ?_)
      subst hdd; subst hL
      (apply w_done0; apply w_reg; apply w_mvi; rfl; apply w_mvi; rfl; apply w_sub; rfl; rfl; omega; omega; apply w_mvi; rfl; apply w_done0)
      refine ⟨(i - j, j), by simp only; omega, ⟨rfl, rfl, rfl, rfl, rfl, int_eq (by show (_ : Int) = ((i - j : Nat) : Int); omega), rfl, trivial⟩, rfl, A' ++ Y', X'.drop j, X'.take j, B', h2, rfl, ho2, ?_, ?_, ?_, ?_, ?_, ?_⟩
      · simp; omega
      · simp; omega
      · simp; omega
      · simp only; omega
      · simp only; omega
      · rw [← he, List.append_assoc (A' ++ Y'), List.take_append_drop]
    · (apply w_sq; apply w_sq; apply w_reg; apply w_mvi; rfl; apply w_mvi; rfl; apply w_neq; rfl; rfl; apply w_done0; refine w_ifdT rfl (by omega) ?_; apply w_skip; apply w_block; apply w_sq; apply w_reg; apply w_mvi; rfl; apply w_mvi; rfl; apply w_gtr; rfl; rfl; apply w_done0; refine w_ifdF rfl (by omega) ?_; apply w_sq; apply w_reg; apply w_mvs; rfl; apply w_mvi; rfl; apply w_mvi; rfl; apply w_sub; rfl; rfl; omega; omega; apply w_mvi; rfl; apply w_mvi; rfl; apply w_add; rfl; rfl; omega; omega; apply w_mvi; rfl; apply w_sub; rfl; rfl; omega; omega; apply w_mvi; rfl; apply w_mvf; rfl)
      refine w_calln 1 rfl (h1 (A := A') (X := X') (M := Y'.take (j - i)) (Y := Y'.drop (j - i)) (B := B') hc1 (by rw [List.append_assoc (A' ++ X'), List.take_append_drop]; exact ho') (by simp; omega) (by omega) (by simp; omega) (by omega)) (fun r d2 L2 _ ⟨hdd, h2, hL, ho2⟩ => ?_)
      subst hdd; subst hL
      (apply w_done0; apply w_reg; apply w_mvi; rfl; apply w_mvi; rfl; apply w_sub; rfl; rfl; omega; omega; apply w_mvi; rfl; apply w_done0)
      refine ⟨(i, j - i), by simp only; omega, ⟨rfl, rfl, rfl, rfl, rfl, rfl, int_eq (by show (_ : Int) = ((j - i : Nat) : Int); omega), trivial⟩, rfl, A', Y'.drop (j - i), Y'.take (j - i), X' ++ B', h2, rfl, by simpa using ho2, ?_, ?_, ?_, ?_, ?_, ?_⟩
      · simp; omega
      · simp; omega
      · simp only; omega
      · simp only; omega
      · simp only; omega
      · rw [← he]
        conv => rhs; rw [← List.take_append_drop (j - i) Y']
        simp only [List.append_assoc]
end Go.Gk
end
