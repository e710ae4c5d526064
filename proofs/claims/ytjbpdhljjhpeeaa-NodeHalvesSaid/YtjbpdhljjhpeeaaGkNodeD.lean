/-
  Nodes: one is cut in two.
-/
import Derived.Test.YtjbpdhljjhpeeaaGkNodeC
namespace Go.Gk.Node
open Go Go.Gk
attribute [local irreducible] gwp gws

def wD (n : NodeD) (i : Nat) : Nat := cellD n i + (if n.leaf then 0 else 2)
def psum (n : NodeD) : Nat → Nat
  | 0 => 0
  | k + 1 => psum n k + wD n k
theorem psum_le (n : NodeD) : ∀ k, psum n k ≤ csum n k + 2 * k := by
  intro k
  induction k with
  | zero => simp [psum]
  | succ k ih => simp only [psum, csum, wD]; split <;> omega
theorem psum_mono (n : NodeD) : ∀ {k m : Nat}, k ≤ m → psum n k ≤ psum n m := by
  intro k m h
  induction h with
  | refl => exact Nat.le_refl _
  | step _ ih => simp only [psum]; omega
/-- Where it is cut. -/
def atGo (n : NodeD) : Nat → Nat → Nat
  | 0, a => a
  | f + 1, a => if a < n.keys.length - 1 ∧ 2 * psum n a < psum n n.keys.length then atGo n f (a + 1) else a
def atD (n : NodeD) : Nat := atGo n n.keys.length 0
theorem atGo_step (n : NodeD) {a : Nat} (h : a < n.keys.length - 1) (h2 : 2 * psum n a < psum n n.keys.length) (he : atGo n (n.keys.length - a) a = atD n) : atGo n (n.keys.length - (a + 1)) (a + 1) = atD n := by
  rw [← he, show n.keys.length - a = n.keys.length - (a + 1) + 1 by omega]
  rw [atGo, if_pos ⟨h, h2⟩]
theorem atGo_stop (n : NodeD) {a : Nat} (h : ¬ (a < n.keys.length - 1 ∧ 2 * psum n a < psum n n.keys.length)) (he : atGo n (n.keys.length - a) a = atD n) : atD n = a := by
  rw [← he]
  cases e : n.keys.length - a with
  | zero => rfl
  | succ f => rw [atGo, if_neg h]
def canB (n : NodeD) : Bool := soundB n && decide ((if n.leaf then 2 else 3) ≤ n.keys.length)
def at2 (n : NodeD) : Nat := max 2 (atD n)
def splitL (n : NodeD) : NodeD := if canB n then (if n.leaf then ⟨true, n.keys.take (atD n), n.vals.take (atD n), []⟩ else ⟨false, n.keys.take (at2 n - 1), [], n.kids.take (at2 n)⟩) else ⟨false, [], [], []⟩
def splitR (n : NodeD) : NodeD := if canB n then (if n.leaf then ⟨true, n.keys.drop (atD n), n.vals.drop (atD n), []⟩ else ⟨false, n.keys.drop (at2 n), [], n.kids.drop (at2 n)⟩) else ⟨false, [], [], []⟩
def splitK (n : NodeD) : List UInt8 := if canB n then n.keys.getD (if n.leaf then atD n else at2 n - 1) [] else []

def Small (n : NodeD) : Prop := sizeD n ≤ 1000000000000 ∧ n.keys.length ≤ 1000000000 ∧ n.vals.length ≤ 1000000000 ∧ n.kids.length ≤ 1000000000
theorem Small.of_bulk {n : NodeD} (h : bulkD n ≤ 3000) : Small n :=
  ⟨sizeD_bulk n h, by have := len_bsum n.keys n.keys.length; unfold bulkD at h; omega, by have := len_bsum n.vals n.vals.length; unfold bulkD at h; omega, by unfold bulkD at h; omega⟩

def RSplitOk (P : Program) (f : FuncId) : Prop := ∀ {d : PHeap} {cs : List Value} {n : NodeD}, RNode d cs n → Small n →
  GCall P f [.agg cs.toArray] d [] (Ret fun r d' L' => d' = d ∧ L' = [] ∧ ∃ ca cb kv, r = .tuple #[.agg ca.toArray, .agg cb.toArray, kv, .int .i64 (if canB n then 0 else 200)] ∧ RNode d ca (splitL n) ∧ RNode d cb (splitR n) ∧ RBytes d kv (splitK n))
theorem zeroNode {d : PHeap} : RNode d [.bool false, .slice none 0 0, .slice none 0 0, .slice none 0 0] ⟨false, [], [], []⟩ := ⟨_, _, _, rfl, RSl.nil, RSl.nil, RSl.nil⟩
def g_thimbleref20_Split (f_thimbleref20_Sound f_thimbleref20_cell : Nat) : GFun :=
 ⟨119, [(.cell 2 (some 4)), (.cell 3 (some 4)), (.tmp 4), (.tmp 5)],
 (.seq
 (.reg false (.op false ⟨(some 1), none, (.box (.tmp 0))⟩
  (.op false ⟨(some 2), none, (.alo (.agg #[(.bool false), (.slice none 0 0), (.slice none 0 0), (.slice none 0 0)]))⟩
  (.op false ⟨(some 3), none, (.alo (.agg #[(.bool false), (.slice none 0 0), (.slice none 0 0), (.slice none 0 0)]))⟩
  (.op false ⟨(some 4), none, (.mv (.const (.slice none 0 0)))⟩
  (.op false ⟨(some 5), none, (.mv (.const (.int .i64 0)))⟩ .done))))))
 (.seq
 (.reg false (.op false ⟨(some 12), none, (.fld 1 (.tmp 1))⟩
  (.op false ⟨(some 13), none, (.ld none (.tmp 12))⟩
  (.op false ⟨(some 14), none, (.len (.tmp 13))⟩
  (.op false ⟨(some 6), none, (.mv (.tmp 14))⟩ .done)))))
 (.seq (.seq
 (.reg false (.op false ⟨(some 15), none, (.ld (some 4) (.tmp 1))⟩
  (.op false ⟨(some 16), none, (.call f_thimbleref20_Sound [(.tmp 15)])⟩
  (.op false ⟨(some 17), none, (.un .not (.tmp 16))⟩
  (.op false ⟨(some 18), none, (.mv (.tmp 17))⟩
  (.op false ⟨(some 19), (some (18, false)), (.mv (.tmp 6))⟩
  (.op false ⟨(some 20), (some (18, false)), (.bin .lss (.tmp 19) (.const (.int .i64 2)))⟩
  (.op false ⟨(some 21), none, (.pick (.tmp 18) (.const (.bool true)) (.tmp 20))⟩
  (.op false ⟨(some 22), none, (.mv (.tmp 21))⟩
  (.op false ⟨(some 23), (some (22, false)), (.fld 0 (.tmp 1))⟩
  (.op false ⟨(some 24), (some (22, false)), (.ld none (.tmp 23))⟩
  (.op false ⟨(some 25), (some (22, false)), (.un .not (.tmp 24))⟩
  (.op false ⟨(some 26), (some (22, false)), (.mv (.tmp 25))⟩
  (.op false ⟨(some 27), (some (26, true)), (.mv (.tmp 6))⟩
  (.op false ⟨(some 28), (some (26, true)), (.bin .lss (.tmp 27) (.const (.int .i64 3)))⟩
  (.op false ⟨(some 29), (some (22, false)), (.pick (.tmp 26) (.tmp 28) (.const (.bool false)))⟩
  (.op false ⟨(some 30), none, (.pick (.tmp 22) (.const (.bool true)) (.tmp 29))⟩ .done))))))))))))))))) (.cond (.tmp 30)
 (.seq
 (.reg false (.op false ⟨(some 31), none, (.bld [(0, 1), (1, 1), (2, 1), (3, 1)] [(.bool false), (.slice none 0 0), (.slice none 0 0), (.slice none 0 0)] [])⟩
  (.op false ⟨(some 32), none, (.bld [(0, 1), (1, 1), (2, 1), (3, 1)] [(.bool false), (.slice none 0 0), (.slice none 0 0), (.slice none 0 0)] [])⟩
  (.op false ⟨none, none, (.st 4 (.tmp 2) (.tmp 31))⟩
  (.op false ⟨none, none, (.st 4 (.tmp 3) (.tmp 32))⟩
  (.op false ⟨(some 4), none, (.mv (.const (.slice none 0 0)))⟩
  (.op false ⟨(some 5), none, (.mv (.const (.int .i64 200)))⟩ .done))))))) .ret) .skip))
 (.seq
 (.reg false (.op false ⟨(some 7), none, (.mv (.const (.int .i64 2)))⟩ .done))
 (.seq (.seq
 (.reg false (.op false ⟨(some 33), none, (.fld 0 (.tmp 1))⟩
  (.op false ⟨(some 34), none, (.ld none (.tmp 33))⟩ .done))) (.cond (.tmp 34)
 (.reg false (.op false ⟨(some 7), none, (.mv (.const (.int .i64 0)))⟩ .done)) .skip))
 (.seq
 (.reg false (.op false ⟨(some 8), none, (.mv (.const (.int .i64 0)))⟩ .done))
 (.seq (.seq
 (.reg false (.op false ⟨(some 9), none, (.mv (.const (.int .i64 0)))⟩ .done)) (.block 0 (.loop
 (.seq (.seq
 (.reg false (.op false ⟨(some 35), none, (.mv (.tmp 9))⟩
  (.op false ⟨(some 36), none, (.mv (.tmp 6))⟩
  (.op false ⟨(some 37), none, (.bin .lss (.tmp 35) (.tmp 36))⟩ .done)))) (.cond (.tmp 37) .skip (.exit 0)))
 (.seq (.block 1
 (.reg false (.op false ⟨(some 40), none, (.mv (.tmp 8))⟩
  (.op false ⟨(some 41), none, (.ld (some 4) (.tmp 1))⟩
  (.op false ⟨(some 42), none, (.mv (.tmp 9))⟩
  (.op false ⟨(some 43), none, (.call f_thimbleref20_cell [(.tmp 41), (.tmp 42)])⟩
  (.op false ⟨(some 44), none, (.bin .add (.tmp 40) (.tmp 43))⟩
  (.op false ⟨(some 45), none, (.mv (.tmp 7))⟩
  (.op false ⟨(some 46), none, (.bin .add (.tmp 44) (.tmp 45))⟩
  (.op false ⟨(some 8), none, (.mv (.tmp 46))⟩ .done))))))))))
 (.reg false (.op false ⟨(some 38), none, (.mv (.tmp 9))⟩
  (.op false ⟨(some 39), none, (.bin .add (.tmp 38) (.const (.int .i64 1)))⟩
  (.op false ⟨(some 9), none, (.mv (.tmp 39))⟩ .done)))))))))
 (.seq
 (.reg false (.op false ⟨(some 10), none, (.mv (.const (.int .i64 0)))⟩ .done))
 (.seq (.seq
 (.reg false (.op false ⟨(some 11), none, (.mv (.const (.int .i64 0)))⟩ .done)) (.block 2 (.loop
 (.seq (.seq
 (.reg false (.op false ⟨(some 47), none, (.mv (.tmp 11))⟩
  (.op false ⟨(some 48), none, (.mv (.tmp 11))⟩
  (.op false ⟨(some 49), none, (.bin .add (.tmp 47) (.tmp 48))⟩
  (.op false ⟨(some 50), none, (.mv (.tmp 8))⟩
  (.op false ⟨(some 51), none, (.bin .lss (.tmp 49) (.tmp 50))⟩
  (.op false ⟨(some 52), none, (.mv (.tmp 51))⟩
  (.op false ⟨(some 53), (some (52, true)), (.mv (.tmp 10))⟩
  (.op false ⟨(some 54), (some (52, true)), (.mv (.tmp 6))⟩
  (.op false ⟨(some 55), (some (52, true)), (.bin .sub (.tmp 54) (.const (.int .i64 1)))⟩
  (.op false ⟨(some 56), (some (52, true)), (.bin .lss (.tmp 53) (.tmp 55))⟩
  (.op false ⟨(some 57), none, (.pick (.tmp 52) (.tmp 56) (.const (.bool false)))⟩ .done)))))))))))) (.cond (.tmp 57) .skip (.exit 2)))
 (.seq (.block 3
 (.reg false (.op false ⟨(some 60), none, (.mv (.tmp 11))⟩
  (.op false ⟨(some 61), none, (.ld (some 4) (.tmp 1))⟩
  (.op false ⟨(some 62), none, (.mv (.tmp 10))⟩
  (.op false ⟨(some 63), none, (.call f_thimbleref20_cell [(.tmp 61), (.tmp 62)])⟩
  (.op false ⟨(some 64), none, (.bin .add (.tmp 60) (.tmp 63))⟩
  (.op false ⟨(some 65), none, (.mv (.tmp 7))⟩
  (.op false ⟨(some 66), none, (.bin .add (.tmp 64) (.tmp 65))⟩
  (.op false ⟨(some 11), none, (.mv (.tmp 66))⟩ .done))))))))))
 (.reg false (.op false ⟨(some 58), none, (.mv (.tmp 10))⟩
  (.op false ⟨(some 59), none, (.bin .add (.tmp 58) (.const (.int .i64 1)))⟩
  (.op false ⟨(some 10), none, (.mv (.tmp 59))⟩ .done)))))))))
 (.seq (.seq
 (.reg false (.op false ⟨(some 67), none, (.fld 0 (.tmp 1))⟩
  (.op false ⟨(some 68), none, (.ld none (.tmp 67))⟩ .done))) (.cond (.tmp 68)
 (.seq
 (.reg true (.op true ⟨(some 69), none, (.fld 1 (.tmp 1))⟩
  (.op true ⟨(some 70), none, (.ld none (.tmp 69))⟩
  (.op true ⟨(some 71), none, (.mv (.tmp 10))⟩
  (.op true ⟨(some 72), none, (.sl 1 (.tmp 70) none (some (.tmp 71)) none)⟩
  (.op true ⟨(some 73), none, (.fld 2 (.tmp 1))⟩
  (.op true ⟨(some 74), none, (.ld none (.tmp 73))⟩
  (.op true ⟨(some 75), none, (.mv (.tmp 10))⟩
  (.op true ⟨(some 76), none, (.sl 1 (.tmp 74) none (some (.tmp 75)) none)⟩
  (.op true ⟨(some 77), none, (.bld [(0, 1), (1, 1), (2, 1), (3, 1)] [(.bool false), (.slice none 0 0), (.slice none 0 0), (.slice none 0 0)] [(0, (.const (.bool true))), (1, (.tmp 72)), (2, (.tmp 76))])⟩
  (.op true ⟨(some 78), none, (.fld 1 (.tmp 1))⟩
  (.op true ⟨(some 79), none, (.ld none (.tmp 78))⟩
  (.op true ⟨(some 80), none, (.mv (.tmp 10))⟩
  (.op true ⟨(some 81), none, (.sl 1 (.tmp 79) (some (.tmp 80)) none none)⟩
  (.op true ⟨(some 82), none, (.fld 2 (.tmp 1))⟩
  (.op true ⟨(some 83), none, (.ld none (.tmp 82))⟩
  (.op true ⟨(some 84), none, (.mv (.tmp 10))⟩
  (.op true ⟨(some 85), none, (.sl 1 (.tmp 83) (some (.tmp 84)) none none)⟩
  (.op true ⟨(some 86), none, (.bld [(0, 1), (1, 1), (2, 1), (3, 1)] [(.bool false), (.slice none 0 0), (.slice none 0 0), (.slice none 0 0)] [(0, (.const (.bool true))), (1, (.tmp 81)), (2, (.tmp 85))])⟩
  (.op true ⟨(some 87), none, (.fld 1 (.tmp 1))⟩
  (.op true ⟨(some 88), none, (.ld none (.tmp 87))⟩
  (.op true ⟨(some 89), none, (.mv (.tmp 10))⟩
  (.op true ⟨(some 90), none, (.idx 1 (.tmp 88) (.tmp 89))⟩
  (.op true ⟨(some 91), none, (.ld none (.tmp 90))⟩
  (.op false ⟨none, none, (.st 4 (.tmp 2) (.tmp 77))⟩
  (.op false ⟨none, none, (.st 4 (.tmp 3) (.tmp 86))⟩
  (.op true ⟨(some 4), none, (.mv (.tmp 91))⟩
  (.op true ⟨(some 5), none, (.mv (.const (.int .i64 0)))⟩ .done)))))))))))))))))))))))))))) .ret) .skip))
 (.seq (.seq
 (.reg false (.op false ⟨(some 92), none, (.mv (.tmp 10))⟩
  (.op false ⟨(some 93), none, (.bin .lss (.tmp 92) (.const (.int .i64 2)))⟩ .done))) (.cond (.tmp 93)
 (.reg false (.op false ⟨(some 10), none, (.mv (.const (.int .i64 2)))⟩ .done)) .skip))
 (.seq
 (.reg true (.op true ⟨(some 94), none, (.fld 1 (.tmp 1))⟩
  (.op true ⟨(some 95), none, (.ld none (.tmp 94))⟩
  (.op true ⟨(some 96), none, (.mv (.tmp 10))⟩
  (.op true ⟨(some 97), none, (.bin .sub (.tmp 96) (.const (.int .i64 1)))⟩
  (.op true ⟨(some 98), none, (.sl 1 (.tmp 95) none (some (.tmp 97)) none)⟩
  (.op true ⟨(some 99), none, (.fld 3 (.tmp 1))⟩
  (.op true ⟨(some 100), none, (.ld none (.tmp 99))⟩
  (.op true ⟨(some 101), none, (.mv (.tmp 10))⟩
  (.op true ⟨(some 102), none, (.sl 1 (.tmp 100) none (some (.tmp 101)) none)⟩
  (.op true ⟨(some 103), none, (.bld [(0, 1), (1, 1), (2, 1), (3, 1)] [(.bool false), (.slice none 0 0), (.slice none 0 0), (.slice none 0 0)] [(1, (.tmp 98)), (3, (.tmp 102))])⟩
  (.op true ⟨(some 104), none, (.fld 1 (.tmp 1))⟩
  (.op true ⟨(some 105), none, (.ld none (.tmp 104))⟩
  (.op true ⟨(some 106), none, (.mv (.tmp 10))⟩
  (.op true ⟨(some 107), none, (.sl 1 (.tmp 105) (some (.tmp 106)) none none)⟩
  (.op true ⟨(some 108), none, (.fld 3 (.tmp 1))⟩
  (.op true ⟨(some 109), none, (.ld none (.tmp 108))⟩
  (.op true ⟨(some 110), none, (.mv (.tmp 10))⟩
  (.op true ⟨(some 111), none, (.sl 1 (.tmp 109) (some (.tmp 110)) none none)⟩
  (.op true ⟨(some 112), none, (.bld [(0, 1), (1, 1), (2, 1), (3, 1)] [(.bool false), (.slice none 0 0), (.slice none 0 0), (.slice none 0 0)] [(1, (.tmp 107)), (3, (.tmp 111))])⟩
  (.op true ⟨(some 113), none, (.fld 1 (.tmp 1))⟩
  (.op true ⟨(some 114), none, (.ld none (.tmp 113))⟩
  (.op true ⟨(some 115), none, (.mv (.tmp 10))⟩
  (.op true ⟨(some 116), none, (.bin .sub (.tmp 115) (.const (.int .i64 1)))⟩
  (.op true ⟨(some 117), none, (.idx 1 (.tmp 114) (.tmp 116))⟩
  (.op true ⟨(some 118), none, (.ld none (.tmp 117))⟩
  (.op false ⟨none, none, (.st 4 (.tmp 2) (.tmp 103))⟩
  (.op false ⟨none, none, (.st 4 (.tmp 3) (.tmp 112))⟩
  (.op true ⟨(some 4), none, (.mv (.tmp 118))⟩
  (.op true ⟨(some 5), none, (.mv (.const (.int .i64 0)))⟩ .done)))))))))))))))))))))))))))))) .ret))))))))))))⟩

theorem rsplit_ok {P : Program} {f f1 f2 : FuncId} (hd : dec P f = some (g_thimbleref20_Split f1 f2)) (h1 : SoundOk P f1) (h2 : CellOk P f2) : RSplitOk P f := by
  intro d cs n hn hsm
  have hn' := hn
  obtain ⟨lf, ks, vs, is⟩ := n
  obtain ⟨kv, vv, iv, rfl, hk, hv, hiv⟩ : ∃ kv vv iv, cs = [.bool lf, kv, vv, iv] ∧ RBss d kv ks ∧ RBss d vv vs ∧ RInts d iv is := hn
  obtain ⟨hz, hb1, hb2, hb3⟩ := hsm
  simp only at hb1 hb2 hb3
  refine GCall_of hd (Nat.le_of_ble_eq_true rfl) ?_
  show gwp P _ _ _ _ _
  apply w_sq; apply w_reg
  (apply w_boxa; rfl; intro _ _; apply w_alo; intro _ _; apply w_alo; intro _ _; apply w_mvs; rfl; apply w_mvi; rfl; apply w_done0)
  rename_i b T b2 T2 b3 T3
  apply w_sq; apply w_reg
  (apply w_fld; rfl; apply w_ld; rfl; exact hc_i 2 rfl rfl; apply w_lenR; rfl; assumption; apply w_mvi; rfl; apply w_done0)
  have bad : canB ⟨lf, ks, vs, is⟩ = false → ∀ (ρ : Env) (Q : GPost), Q.ret = retPost [.cell 2 (some 4), .cell 3 (some 4), .tmp 4, .tmp 5] (Ret fun r d' L' => d' = d ∧ L' = [] ∧ ∃ ca cb kv, r = .tuple #[.agg ca.toArray, .agg cb.toArray, kv, .int .i64 (if canB ⟨lf, ks, vs, is⟩ then 0 else 200)] ∧ RNode d ca (splitL ⟨lf, ks, vs, is⟩) ∧ RNode d cb (splitR ⟨lf, ks, vs, is⟩) ∧ RBytes d kv (splitK ⟨lf, ks, vs, is⟩)) →
      ρ 2 = .pointer (some ⟨b2, 0, none⟩) → ρ 3 = .pointer (some ⟨b3, 0, none⟩) → ρ 4 = .slice none 0 0 → ρ 5 = .int .i64 200 →
      Q.ret ρ d [bx b3 T3 [.bool false, .slice none 0 0, .slice none 0 0, .slice none 0 0], bx b2 T2 [.bool false, .slice none 0 0, .slice none 0 0, .slice none 0 0], bx b T [.bool lf, kv, vv, iv]] := by
    intro hc ρ Q hQ e2 e3 e4 e5
    rw [hQ]
    refine finS [.agg [.bool false, .slice none 0 0, .slice none 0 0, .slice none 0 0].toArray, .agg [.bool false, .slice none 0 0, .slice none 0 0, .slice none 0 0].toArray, .slice none 0 0, .int .i64 200] ⟨res_cell 1 e2 rfl rfl, res_cell 0 e3 rfl rfl, res_tmp e4, res_tmp e5, trivial⟩ (List.nil_sublist _) ⟨rfl, rfl, _, _, _, by rw [hc]; rfl, ?_⟩
    simp only [splitL, splitR, splitK, hc]
    exact ⟨zeroNode, zeroNode, RSl.nil⟩
  refine w_mid (fun ρ d' L' => d = d' ∧ ρ 1 = .pointer (some ⟨b, 0, none⟩) ∧ ρ 2 = .pointer (some ⟨b2, 0, none⟩) ∧ ρ 3 = .pointer (some ⟨b3, 0, none⟩) ∧ ρ 6 = .int .i64 ks.length ∧ canB ⟨lf, ks, vs, is⟩ = true ∧ L' = [bx b3 T3 [.bool false, .slice none 0 0, .slice none 0 0, .slice none 0 0], bx b2 T2 [.bool false, .slice none 0 0, .slice none 0 0, .slice none 0 0], bx b T [.bool lf, kv, vv, iv]]) ?_ ?_
  · (apply w_sq; apply w_reg; apply w_ldb 2; rfl; rfl; rfl)
    refine w_pure rfl (h1 hn') ?_
    cases hs : soundB ⟨lf, ks, vs, is⟩
    · (apply w_not; rfl; apply w_mvb; rfl; apply w_gF; rfl; apply w_gF; rfl; apply w_pickTb; rfl; rfl; apply w_mvb; rfl; apply w_gF; rfl; apply w_gF; rfl; apply w_gF; rfl; apply w_gF; rfl; apply w_gU; rfl; apply w_gU; rfl; apply w_gF; rfl; apply w_pickTb; rfl; rfl; apply w_done0; apply w_ifT; rfl; apply w_sq; apply w_reg; apply w_bld; rfl; apply w_bld; rfl)
      refine w_st 1 rfl rfl rfl rfl (by simp [Value.cells]) rfl ?_
      refine w_st 0 rfl rfl rfl rfl (by simp [Value.cells]) rfl ?_
      (apply w_mvs; rfl; apply w_mvi; rfl; apply w_done0; apply w_ret)
      exact bad (by simp [canB, hs]) _ _ rfl rfl rfl rfl rfl
    by_cases h2l : ks.length < 2
    · (apply w_not; rfl; apply w_mvb; rfl; apply w_gT; rfl; apply w_mvi; rfl; apply w_gT; rfl; apply w_lss; rfl; rfl; apply w_pickFb; rfl; rfl; apply w_mvb; rfl; refine w_gdT rfl (by omega) ?_; apply w_gF; rfl; apply w_gF; rfl; apply w_gF; rfl; apply w_gF; rfl; apply w_gU; rfl; apply w_gU; rfl; apply w_gF; rfl; apply w_pickTb; rfl; rfl; apply w_done0; apply w_ifT; rfl; apply w_sq; apply w_reg; apply w_bld; rfl; apply w_bld; rfl)
      refine w_st 1 rfl rfl rfl rfl (by simp [Value.cells]) rfl ?_
      refine w_st 0 rfl rfl rfl rfl (by simp [Value.cells]) rfl ?_
      (apply w_mvs; rfl; apply w_mvi; rfl; apply w_done0; apply w_ret)
      exact bad (by simp only [canB, hs]; cases lf <;> simp <;> omega) _ _ rfl rfl rfl rfl rfl
    by_cases h3l : lf = false ∧ ks.length < 3
    · obtain ⟨rfl, h3l⟩ := h3l
      (apply w_not; rfl; apply w_mvb; rfl; apply w_gT; rfl; apply w_mvi; rfl; apply w_gT; rfl; apply w_lss; rfl; rfl; apply w_pickFb; rfl; rfl; apply w_mvb; rfl; refine w_gdF rfl (by omega) ?_; apply w_gT; rfl; apply w_fld; rfl; apply w_gT; rfl; apply w_ld; rfl; exact hc_i 2 rfl rfl; apply w_gT; rfl; apply w_not; rfl; apply w_gT; rfl; apply w_mvb; rfl; apply w_gT; rfl; apply w_mvi; rfl; apply w_gT; rfl; apply w_lss; rfl; rfl; apply w_gT; rfl; apply w_pickTb; rfl; rfl; apply w_pickFb; rfl; rfl; apply w_done0; refine w_ifdT rfl (by omega) ?_; apply w_sq; apply w_reg; apply w_bld; rfl; apply w_bld; rfl)
      refine w_st 1 rfl rfl rfl rfl (by simp [Value.cells]) rfl ?_
      refine w_st 0 rfl rfl rfl rfl (by simp [Value.cells]) rfl ?_
      (apply w_mvs; rfl; apply w_mvi; rfl; apply w_done0; apply w_ret)
      exact bad (by simp only [canB, hs]; simp; omega) _ _ rfl rfl rfl rfl rfl
    have hcan : canB ⟨lf, ks, vs, is⟩ = true := by
      simp only [canB, hs]; cases lf <;> simp at h3l ⊢ <;> omega
    cases lf
    · have h3 : ¬ ks.length < 3 := fun h => h3l ⟨rfl, h⟩
      (apply w_not; rfl; apply w_mvb; rfl; apply w_gT; rfl; apply w_mvi; rfl; apply w_gT; rfl; apply w_lss; rfl; rfl; apply w_pickFb; rfl; rfl; apply w_mvb; rfl; refine w_gdF rfl (by omega) ?_; apply w_gT; rfl; apply w_fld; rfl; apply w_gT; rfl; apply w_ld; rfl; exact hc_i 2 rfl rfl; apply w_gT; rfl; apply w_not; rfl; apply w_gT; rfl; apply w_mvb; rfl; apply w_gT; rfl; apply w_mvi; rfl; apply w_gT; rfl; apply w_lss; rfl; rfl; apply w_gT; rfl; apply w_pickTb; rfl; rfl; apply w_pickFb; rfl; rfl; apply w_done0; refine w_ifdF rfl (by omega) ?_; apply w_skip)
      exact ⟨rfl, rfl, rfl, rfl, rfl, hcan, rfl⟩
    · (apply w_not; rfl; apply w_mvb; rfl; apply w_gT; rfl; apply w_mvi; rfl; apply w_gT; rfl; apply w_lss; rfl; rfl; apply w_pickFb; rfl; rfl; apply w_mvb; rfl; refine w_gdF rfl (by omega) ?_; apply w_gT; rfl; apply w_fld; rfl; apply w_gT; rfl; apply w_ld; rfl; exact hc_i 2 rfl rfl; apply w_gT; rfl; apply w_not; rfl; apply w_gT; rfl; apply w_mvb; rfl; apply w_gF; rfl; apply w_gF; rfl; apply w_gT; rfl; apply w_pickFb; rfl; rfl; apply w_pickFb; rfl; rfl; apply w_done0; apply w_ifF; rfl; apply w_skip)
      exact ⟨rfl, rfl, rfl, rfl, rfl, hcan, rfl⟩
  rintro ρ d' L' ⟨hdd, e1, e2, e3, e6, hcan, hL⟩
  subst hdd; subst hL
  refine gwp_slots [(1, .pointer (some ⟨b, 0, none⟩)), (2, .pointer (some ⟨b2, 0, none⟩)), (3, .pointer (some ⟨b3, 0, none⟩)), (6, .int .i64 ks.length)] ⟨e1, e2, e3, e6, trivial⟩ ?_
  apply w_sq; apply w_reg
  (apply w_mvi; rfl; apply w_done0)
  obtain ⟨mo, hmo⟩ : ∃ mo : Nat, mo = if lf then 0 else 2 := ⟨_, rfl⟩
  have hmo2 : mo ≤ 2 := by rw [hmo]; split <;> omega
  have hwd : ∀ i, wD ⟨lf, ks, vs, is⟩ i = cellD ⟨lf, ks, vs, is⟩ i + mo := fun i => by rw [hmo]; rfl
  refine w_mid (fun ρ d2 L' => d = d2 ∧ ρ 1 = .pointer (some ⟨b, 0, none⟩) ∧ ρ 2 = .pointer (some ⟨b2, 0, none⟩) ∧ ρ 3 = .pointer (some ⟨b3, 0, none⟩) ∧ ρ 6 = .int .i64 ks.length ∧ ρ 7 = .int .i64 mo ∧ L' = [bx b3 T3 [.bool false, .slice none 0 0, .slice none 0 0, .slice none 0 0], bx b2 T2 [.bool false, .slice none 0 0, .slice none 0 0, .slice none 0 0], bx b T [.bool lf, kv, vv, iv]]) ?_ ?_
  · cases lf
    · (apply w_sq; apply w_reg; apply w_fld; rfl; apply w_ld; rfl; exact hc_i 2 rfl rfl; apply w_done0; apply w_ifF; rfl; apply w_skip)
      exact ⟨rfl, rfl, rfl, rfl, rfl, by rw [hmo]; rfl, rfl⟩
    · (apply w_sq; apply w_reg; apply w_fld; rfl; apply w_ld; rfl; exact hc_i 2 rfl rfl; apply w_done0; apply w_ifT; rfl; apply w_reg; apply w_mvi; rfl; apply w_done0)
      exact ⟨rfl, rfl, rfl, rfl, rfl, by rw [hmo]; rfl, rfl⟩
  rintro ρ d2 L' ⟨hdd, e1, e2, e3, e6, e7, hL⟩
  subst hdd; subst hL
  refine gwp_slots [(1, .pointer (some ⟨b, 0, none⟩)), (2, .pointer (some ⟨b2, 0, none⟩)), (3, .pointer (some ⟨b3, 0, none⟩)), (6, .int .i64 ks.length), (7, .int .i64 mo)] ⟨e1, e2, e3, e6, e7, trivial⟩ ?_
  have hps : ∀ i, i ≤ ks.length → psum ⟨lf, ks, vs, is⟩ i ≤ 1002000000000 := fun i hi => by
    have h1 := psum_mono ⟨lf, ks, vs, is⟩ hi
    have h2 := psum_le ⟨lf, ks, vs, is⟩ ks.length
    simp only [sizeD] at hz
    omega
  have hkl : ks.length ≥ 2 := by
    simp only [canB, Bool.and_eq_true, decide_eq_true_eq] at hcan
    have := hcan.2
    split at this <;> omega
  (apply w_sq; apply w_reg; apply w_mvi; rfl; apply w_done0; apply w_sq; apply w_sq; apply w_reg; apply w_mvi; rfl; apply w_done0; apply w_block)
  refine w_loopN (α := Nat) (fun i => [(1, .pointer (some ⟨b, 0, none⟩)), (2, .pointer (some ⟨b2, 0, none⟩)), (3, .pointer (some ⟨b3, 0, none⟩)), (6, .int .i64 ks.length), (7, .int .i64 mo), (8, .int .i64 (psum ⟨lf, ks, vs, is⟩ i : Nat)), (9, .int .i64 i)]) (fun _ => [bx b3 T3 [.bool false, .slice none 0 0, .slice none 0 0, .slice none 0 0], bx b2 T2 [.bool false, .slice none 0 0, .slice none 0 0, .slice none 0 0], bx b T [.bool lf, kv, vv, iv]])
    (fun i => i ≤ ks.length) (fun i => ks.length - i) 0 ⟨rfl, rfl, rfl, rfl, rfl, rfl, rfl, trivial⟩ rfl (Nat.zero_le _) ?_
  rintro i ρ hi
  have hpi := hps i hi
  (apply w_sq; apply w_sq; apply w_reg; apply w_mvi; rfl; apply w_mvi; rfl; apply w_lss; rfl; rfl; apply w_done0)
  first | refine w_ifd rfl (fun hc => ?_) (fun hc => ?_) | refine w_if rfl (fun hc => ?_) (fun hc => ?_)
  · have hi1 : i < ks.length := by omega
    have hpi1 := hps (i + 1) hi1
    simp only [psum, hwd] at hpi1
    (apply w_skip; apply w_sq; apply w_block; apply w_reg; apply w_mvi; rfl; apply w_ldb 2; rfl; rfl; rfl; apply w_mvi; rfl)
    refine w_pure rfl (h2 hn' i hi1) ?_
    (apply w_add; rfl; rfl; omega; omega; apply w_mvi; rfl; apply w_add; rfl; rfl; omega; omega; apply w_mvi; rfl; apply w_done0; apply w_reg; apply w_mvi; rfl; apply w_add; rfl; rfl; omega; omega; apply w_mvi; rfl; apply w_done0)
    exact ⟨i + 1, by omega, ⟨rfl, rfl, rfl, rfl, rfl, int_eq (by simp only [psum, hwd]; omega), int_eq (by omega), trivial⟩, rfl, rfl, hi1⟩
  obtain rfl : i = ks.length := by omega
  apply w_exit
  apply w_sq; apply w_reg
  (apply w_mvi; rfl; apply w_done0)
  refine w_mid (fun ρ d' L' => d = d' ∧ ρ 1 = .pointer (some ⟨b, 0, none⟩) ∧ ρ 2 = .pointer (some ⟨b2, 0, none⟩) ∧ ρ 3 = .pointer (some ⟨b3, 0, none⟩) ∧ L' = [bx b3 T3 [.bool false, .slice none 0 0, .slice none 0 0, .slice none 0 0], bx b2 T2 [.bool false, .slice none 0 0, .slice none 0 0, .slice none 0 0], bx b T [.bool lf, kv, vv, iv]] ∧ ∃ a, ρ 10 = .int .i64 (a : Nat) ∧ a ≤ ks.length - 1 ∧ atD ⟨lf, ks, vs, is⟩ = a) ?_ ?_
  · (apply w_sq; apply w_reg; apply w_mvi; rfl; apply w_done0; apply w_block)
    refine w_loopN (α := Nat) (fun i => [(1, .pointer (some ⟨b, 0, none⟩)), (2, .pointer (some ⟨b2, 0, none⟩)), (3, .pointer (some ⟨b3, 0, none⟩)), (6, .int .i64 ks.length), (7, .int .i64 mo), (8, .int .i64 (psum ⟨lf, ks, vs, is⟩ ks.length : Nat)), (10, .int .i64 i), (11, .int .i64 (psum ⟨lf, ks, vs, is⟩ i : Nat))]) (fun _ => [bx b3 T3 [.bool false, .slice none 0 0, .slice none 0 0, .slice none 0 0], bx b2 T2 [.bool false, .slice none 0 0, .slice none 0 0, .slice none 0 0], bx b T [.bool lf, kv, vv, iv]])
      (fun i => i ≤ ks.length - 1 ∧ atGo ⟨lf, ks, vs, is⟩ (ks.length - i) i = atD ⟨lf, ks, vs, is⟩) (fun i => ks.length - i) 0 ⟨rfl, rfl, rfl, rfl, rfl, rfl, rfl, rfl, trivial⟩ rfl ⟨Nat.zero_le _, rfl⟩ ?_
    rintro a ρ ⟨ha, hat⟩
    have hpa := hps a (by omega)
    have hpl := hps ks.length (Nat.le_refl _)
    by_cases hc2 : 2 * psum ⟨lf, ks, vs, is⟩ a < psum ⟨lf, ks, vs, is⟩ ks.length
    · by_cases hc1 : a < ks.length - 1
      · have hpa1 := hps (a + 1) (by omega)
        simp only [psum, hwd] at hpa1
        (apply w_sq; apply w_sq; apply w_reg; apply w_mvi; rfl; apply w_mvi; rfl; apply w_add; rfl; rfl; omega; omega; apply w_mvi; rfl; apply w_lss; rfl; rfl; apply w_mvb; rfl; refine w_gdT rfl (by omega) ?_; apply w_gT; rfl; apply w_mvi; rfl; apply w_gT; rfl; apply w_mvi; rfl; apply w_gT; rfl; apply w_sub; rfl; rfl; omega; omega; apply w_gT; rfl; apply w_lss; rfl; rfl; apply w_pickTb; rfl; rfl; apply w_done0; refine w_ifdT rfl (by omega) ?_; apply w_skip; apply w_sq; apply w_block; apply w_reg; apply w_mvi; rfl; apply w_ldb 2; rfl; rfl; rfl; apply w_mvi; rfl)
        refine w_pure rfl (h2 hn' a (show a < ks.length by omega)) ?_
        (apply w_add; rfl; rfl; omega; omega; apply w_mvi; rfl; apply w_add; rfl; rfl; omega; omega; apply w_mvi; rfl; apply w_done0; apply w_reg; apply w_mvi; rfl; apply w_add; rfl; rfl; omega; omega; apply w_mvi; rfl; apply w_done0)
        exact ⟨a + 1, by omega, ⟨rfl, rfl, rfl, rfl, rfl, rfl, int_eq (by omega), int_eq (by simp only [psum, hwd]; omega), trivial⟩, rfl, rfl, by omega, atGo_step _ hc1 hc2 hat⟩
      · have hatd := atGo_stop _ (fun h => hc1 h.1) hat
        (apply w_sq; apply w_sq; apply w_reg; apply w_mvi; rfl; apply w_mvi; rfl; apply w_add; rfl; rfl; omega; omega; apply w_mvi; rfl; apply w_lss; rfl; rfl; apply w_mvb; rfl; refine w_gdT rfl (by omega) ?_; apply w_gT; rfl; apply w_mvi; rfl; apply w_gT; rfl; apply w_mvi; rfl; apply w_gT; rfl; apply w_sub; rfl; rfl; omega; omega; apply w_gT; rfl; apply w_lss; rfl; rfl; apply w_pickTb; rfl; rfl; apply w_done0; refine w_ifdF rfl (by omega) ?_; apply w_exit)
        exact ⟨rfl, rfl, rfl, rfl, rfl, a, rfl, ha, hatd⟩
    · have hatd := atGo_stop _ (fun h => hc2 h.2) hat
      (apply w_sq; apply w_sq; apply w_reg; apply w_mvi; rfl; apply w_mvi; rfl; apply w_add; rfl; rfl; omega; omega; apply w_mvi; rfl; apply w_lss; rfl; rfl; apply w_mvb; rfl; refine w_gdF rfl (by omega) ?_; apply w_gF; rfl; apply w_gF; rfl; apply w_gF; rfl; apply w_gF; rfl; apply w_pickFb; rfl; rfl; apply w_done0; apply w_ifF; rfl; apply w_exit)
      exact ⟨rfl, rfl, rfl, rfl, rfl, a, rfl, ha, hatd⟩
  rintro ρ d' L' ⟨hdd, e1, e2, e3, hL, a, e10, ha, hatd⟩
  subst hdd; subst hL
  refine gwp_slots [(1, .pointer (some ⟨b, 0, none⟩)), (2, .pointer (some ⟨b2, 0, none⟩)), (3, .pointer (some ⟨b3, 0, none⟩)), (10, .int .i64 a)] ⟨e1, e2, e3, e10, trivial⟩ ?_
  (apply w_sq; apply w_sq; apply w_reg; apply w_fld; rfl; apply w_ld; rfl; exact hc_i 2 rfl rfl; apply w_done0)
  first | refine w_ifd rfl (fun hl => ?_) (fun hl => ?_) | refine w_if rfl (fun hl => ?_) (fun hl => ?_)
  · subst hl
    have hvl : vs.length = ks.length := by
      simp only [canB, soundB, Bool.and_eq_true, if_true, decide_eq_true_eq] at hcan
      exact hcan.1.2.1.1
    (apply w_sq)
    refine w_drawnS [2] [0, 1] rfl ?_
    (apply w_fld; rfl; apply w_ld; rfl; exact hc_i 0 rfl rfl; apply w_mvi; rfl)
    refine w_slTo rfl hk rfl rfl (show a ≤ ks.length by omega) (fun v1 hv1 => ?_)
    (apply w_fld; rfl; apply w_ld; rfl; exact hc_i 0 rfl rfl; apply w_mvi; rfl)
    refine w_slTo rfl hv rfl rfl (show a ≤ vs.length by omega) (fun v2 hv2 => ?_)
    obtain ⟨a1, c1, rfl⟩ := RSl.val hv1
    obtain ⟨a2, c2, rfl⟩ := RSl.val hv2
    refine w_bld (cs := [.bool true, .slice a1 (ks.take a).length c1, .slice a2 (vs.take a).length c2, .slice none 0 0]) rfl ?_
    (apply w_fld; rfl; apply w_ld; rfl; exact hc_i 0 rfl rfl; apply w_mvi; rfl)
    refine w_slFrom rfl hk rfl rfl (show a ≤ ks.length by omega) (fun v3 hv3 => ?_)
    (apply w_fld; rfl; apply w_ld; rfl; exact hc_i 0 rfl rfl; apply w_mvi; rfl)
    refine w_slFrom rfl hv rfl rfl (show a ≤ vs.length by omega) (fun v4 hv4 => ?_)
    obtain ⟨a3, c3, rfl⟩ := RSl.val hv3
    obtain ⟨a4, c4, rfl⟩ := RSl.val hv4
    refine w_bld (cs := [.bool true, .slice a3 (ks.drop a).length c3, .slice a4 (vs.drop a).length c4, .slice none 0 0]) rfl ?_
    have hk1 : a < ks.length := by omega
    (apply w_fld; rfl; apply w_ld; rfl; exact hc_i 0 rfl rfl; apply w_mvi; rfl; refine w_idxR (sz := 1) (R := RBs) (by rfl) (by assumption) (by rfl) rfl (by omega) ?_; rintro _ _ _ _ _ ⟨_, rfl, _⟩; apply w_ld; rfl; exact hc_ds0 (by assumption) rfl)
    refine w_st 1 rfl rfl rfl rfl (by simp [Value.cells]) rfl ?_
    refine w_st 0 rfl rfl rfl rfl (by simp [Value.cells]) rfl ?_
    (apply w_mv; apply w_mvi; rfl; apply w_done; apply w_ret)
    rename_i w hw _ _
    refine finS [.agg [.bool true, .slice a1 (ks.take a).length c1, .slice a2 (vs.take a).length c2, .slice none 0 0].toArray, .agg [.bool true, .slice a3 (ks.drop a).length c3, .slice a4 (vs.drop a).length c4, .slice none 0 0].toArray, w, .int .i64 0]
      ⟨res_cell 2 rfl rfl rfl, res_cell 1 rfl rfl rfl, res_tmp rfl, res_tmp rfl, trivial⟩ (List.nil_sublist _) ⟨rfl, rfl, _, _, _, by rw [hcan]; rfl, ?_⟩
    simp only [splitL, splitR, splitK, hcan, if_true, hatd]
    exact ⟨⟨_, _, _, rfl, hv1, hv2, RSl.nil⟩, ⟨_, _, _, rfl, hv3, hv4, RSl.nil⟩, by simpa [hk1] using hw⟩
  · subst hl
    have hil : is.length = ks.length + 1 := by
      simp only [canB, soundB, Bool.and_eq_true, Bool.false_eq_true, if_false, decide_eq_true_eq] at hcan
      exact hcan.1.2.1.2
    have hk3 : 3 ≤ ks.length := by
      simp only [canB, Bool.and_eq_true, Bool.false_eq_true, if_false, decide_eq_true_eq] at hcan
      exact hcan.2
    apply w_skip
    refine w_mid (fun ρ d' L' => d = d' ∧ ρ 1 = .pointer (some ⟨b, 0, none⟩) ∧ ρ 2 = .pointer (some ⟨b2, 0, none⟩) ∧ ρ 3 = .pointer (some ⟨b3, 0, none⟩) ∧ L' = [bx b3 T3 [.bool false, .slice none 0 0, .slice none 0 0, .slice none 0 0], bx b2 T2 [.bool false, .slice none 0 0, .slice none 0 0, .slice none 0 0], bx b T [.bool false, kv, vv, iv]] ∧ ρ 10 = .int .i64 (at2 ⟨false, ks, vs, is⟩ : Nat)) ?_ ?_
    · (apply w_sq; apply w_reg; apply w_mvi; rfl; apply w_lss; rfl; rfl; apply w_done0)
      first | refine w_ifd rfl (fun h2a => ?_) (fun h2a => ?_) | refine w_if rfl (fun h2a => ?_) (fun h2a => ?_)
      · (apply w_reg; apply w_mvi; rfl; apply w_done0)
        exact ⟨rfl, rfl, rfl, rfl, rfl, int_eq (by simp only [at2, hatd]; omega)⟩
      · (apply w_skip)
        exact ⟨rfl, rfl, rfl, rfl, rfl, int_eq (by simp only [at2, hatd]; omega)⟩
    rintro ρ d' L' ⟨hdd, e1, e2, e3, hL, e10⟩
    subst hdd; subst hL
    refine gwp_slots [(1, .pointer (some ⟨b, 0, none⟩)), (2, .pointer (some ⟨b2, 0, none⟩)), (3, .pointer (some ⟨b3, 0, none⟩)), (10, .int .i64 (at2 ⟨false, ks, vs, is⟩ : Nat))] ⟨e1, e2, e3, e10, trivial⟩ ?_
    obtain ⟨m, hm⟩ : ∃ m, at2 ⟨false, ks, vs, is⟩ = m + 1 := ⟨at2 ⟨false, ks, vs, is⟩ - 1, by simp only [at2]; omega⟩
    have hm2 : m + 1 ≤ ks.length - 1 := by rw [← hm]; simp only [at2, hatd]; omega
    rw [hm]
    (apply w_sq)
    refine w_drawnS [2] [0, 1] rfl ?_
    (apply w_fld; rfl; apply w_ld; rfl; exact hc_i 0 rfl rfl; apply w_mvi; rfl; apply w_sub; rfl; rfl; omega; omega)
    refine w_slTo rfl hk rfl (show ((m + 1 : Nat) : Int) - 1 = (m : Int) by omega) (show m ≤ ks.length by omega) (fun v1 hv1 => ?_)
    (apply w_fld; rfl; apply w_ld; rfl; exact hc_i 0 rfl rfl; apply w_mvi; rfl)
    refine w_slTo rfl hiv rfl rfl (show m + 1 ≤ is.length by omega) (fun v2 hv2 => ?_)
    obtain ⟨a1, c1, rfl⟩ := RSl.val hv1
    obtain ⟨a2, c2, rfl⟩ := RSl.val hv2
    refine w_bld (cs := [.bool false, .slice a1 (ks.take m).length c1, .slice none 0 0, .slice a2 (is.take (m + 1)).length c2]) rfl ?_
    (apply w_fld; rfl; apply w_ld; rfl; exact hc_i 0 rfl rfl; apply w_mvi; rfl)
    refine w_slFrom rfl hk rfl rfl (show m + 1 ≤ ks.length by omega) (fun v3 hv3 => ?_)
    (apply w_fld; rfl; apply w_ld; rfl; exact hc_i 0 rfl rfl; apply w_mvi; rfl)
    refine w_slFrom rfl hiv rfl rfl (show m + 1 ≤ is.length by omega) (fun v4 hv4 => ?_)
    obtain ⟨a3, c3, rfl⟩ := RSl.val hv3
    obtain ⟨a4, c4, rfl⟩ := RSl.val hv4
    refine w_bld (cs := [.bool false, .slice a3 (ks.drop (m + 1)).length c3, .slice none 0 0, .slice a4 (is.drop (m + 1)).length c4]) rfl ?_
    have hk1 : m < ks.length := by omega
    (apply w_fld; rfl; apply w_ld; rfl; exact hc_i 0 rfl rfl; apply w_mvi; rfl; apply w_sub; rfl; rfl; omega; omega)
    refine w_idxR (sz := 1) (R := RBs) (m := m) rfl hk rfl (by omega) hk1 ?_
    rintro b5 o5 _ _ hD5 ⟨w, rfl, hw⟩
    (apply w_ld; rfl; exact hc_ds0 (by assumption) rfl)
    refine w_st 1 rfl rfl rfl rfl (by simp [Value.cells]) rfl ?_
    refine w_st 0 rfl rfl rfl rfl (by simp [Value.cells]) rfl ?_
    (apply w_mv; apply w_mvi; rfl; apply w_done; apply w_ret)
    refine finS [.agg [.bool false, .slice a1 (ks.take m).length c1, .slice none 0 0, .slice a2 (is.take (m + 1)).length c2].toArray, .agg [.bool false, .slice a3 (ks.drop (m + 1)).length c3, .slice none 0 0, .slice a4 (is.drop (m + 1)).length c4].toArray, w, .int .i64 0]
      ⟨res_cell 2 rfl rfl rfl, res_cell 1 rfl rfl rfl, res_tmp rfl, res_tmp rfl, trivial⟩ (List.nil_sublist _) ⟨rfl, rfl, _, _, _, by rw [hcan]; rfl, ?_⟩
    simp only [splitL, splitR, splitK, hcan, if_true, hm, Bool.false_eq_true, if_false, Nat.add_sub_cancel]
    exact ⟨⟨_, _, _, rfl, hv1, RSl.nil, hv2⟩, ⟨_, _, _, rfl, hv3, RSl.nil, hv4⟩, by simpa [hk1] using hw⟩
end Go.Gk.Node
