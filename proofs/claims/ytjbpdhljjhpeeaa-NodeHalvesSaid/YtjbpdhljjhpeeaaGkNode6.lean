/-
  Nodes: the page of one.
-/
import Derived.Test.YtjbpdhljjhpeeaaGkNode5
import Derived.Test.YtjbpdhljjhpeeaaGk12
namespace Go.Gk.Node
open Go Go.Gk
attribute [local irreducible] gwp gws

def numB (k : Int) : List UInt8 := [UInt8.ofNat ((k / 256) % 256).toNat, UInt8.ofNat (k % 256).toNat]
def u8n (n : Nat) : UInt8 := UInt8.ofNat ((n : Int) % 256).toNat
def tailD (n : NodeD) (k : Nat) : List UInt8 := if n.leaf then u8n (vlen n k) :: n.vals.getD k [] else numB (n.kids.getD (k + 1) 0)
def headD (n : NodeD) : List UInt8 := [if n.leaf then 1 else 2, u8n n.keys.length] ++ (if n.leaf then [] else numB (n.kids.getD 0 0))
def bodyD (n : NodeD) : Nat → List UInt8
  | 0 => headD n
  | k + 1 => bodyD n k ++ (u8n (klen n k) :: n.keys.getD k []) ++ tailD n k
theorem bodyD_len (n : NodeD) : ∀ k, (bodyD n k).length = (if n.leaf then 2 else 4 + 2 * k) + csum n k := by
  intro k
  induction k with
  | zero => simp only [bodyD, headD, csum]; split <;> simp [numB]
  | succ k ih =>
    simp only [bodyD, List.length_append, ih, csum, tailD, cellD, klen, vlen]
    split <;> simp [numB] <;> omega
def pageD (n : NodeD) : List UInt8 := bodyD n n.keys.length ++ List.replicate (256 - (bodyD n n.keys.length).length) 0
theorem zrow_rep (n : Nat) : zrow [Value.int .u8 0] n = List.replicate n (byteV 0) := by
  unfold zrow
  apply List.ext_getElem
  · simp
  · intro i h1 h2
    simp [Nat.mod_one, byteV]
def PageOk (P : Program) (f : FuncId) : Prop := ∀ {d : PHeap} {cs : List Value} {n : NodeD}, RNode d cs n → soundB n = true → sizeD n ≤ 256 →
  GCall P f [.agg cs.toArray] d [] (Ret fun r d' L' => d' = d ∧ ∃ h, L' = [h] ∧ FRow 256 r (pageD n) h)

theorem FRow.nil {N b : Nat} {T : TypeId} : FRow N (.slice (some ⟨b, 0, none⟩) 0 N) [] (bx b T (zrow [Value.int .u8 0] (N * 1))) :=
  ⟨Nat.zero_le _, b, T, rfl, by rw [zrow_rep]; simp⟩

def g_node_page : GFun :=
 ⟨87, [(.tmp 2)],
 (.seq
 (.reg false (.op false ⟨(some 1), none, (.box (.tmp 0))⟩
  (.op false ⟨(some 2), none, (.mv (.const (.slice none 0 0)))⟩ .done)))
 (.seq
 (.reg false (.op false ⟨(some 6), none, (.mks 1 1 [(.int .u8 0)] (.const (.int .i64 0)) (.const (.int .i64 256)))⟩
  (.op false ⟨(some 3), none, (.mv (.tmp 6))⟩ .done)))
 (.seq
 (.reg false (.op false ⟨(some 7), none, (.mv (.tmp 3))⟩
  (.op false ⟨(some 8), none, (.fld 1 (.tmp 1))⟩
  (.op false ⟨(some 9), none, (.ld none (.tmp 8))⟩
  (.op false ⟨(some 10), none, (.len (.tmp 9))⟩
  (.op false ⟨(some 11), none, (.cvi .u8 (.tmp 10))⟩
  (.op false ⟨(some 12), none, (.bsl 2 1 [(.int .u8 0)] [(0, (.const (.int .u8 2))), (1, (.tmp 11))])⟩
  (.op false ⟨(some 13), none, (.app 1 1 [(.int .u8 0)] (.tmp 7) (.tmp 12))⟩
  (.op false ⟨(some 3), none, (.mv (.tmp 13))⟩ .done)))))))))
 (.seq (.seq
 (.reg false (.op false ⟨(some 14), none, (.fld 0 (.tmp 1))⟩
  (.op false ⟨(some 15), none, (.ld none (.tmp 14))⟩ .done))) (.cond (.tmp 15)
 (.reg false (.op false ⟨(some 16), none, (.mv (.tmp 3))⟩
  (.op false ⟨(some 17), none, (.idx 1 (.tmp 16) (.const (.int .i64 0)))⟩
  (.op false ⟨none, none, (.st 1 (.tmp 17) (.const (.int .u8 1)))⟩ .done))))
 (.reg true (.op true ⟨(some 18), none, (.mv (.tmp 3))⟩
  (.op true ⟨(some 19), none, (.fld 3 (.tmp 1))⟩
  (.op true ⟨(some 20), none, (.ld none (.tmp 19))⟩
  (.op true ⟨(some 21), none, (.idx 1 (.tmp 20) (.const (.int .i64 0)))⟩
  (.op true ⟨(some 22), none, (.ld none (.tmp 21))⟩
  (.op true ⟨(some 23), none, (.bin .shr (.tmp 22) (.const (.int .u64 8)))⟩
  (.op true ⟨(some 24), none, (.cvi .u8 (.tmp 23))⟩
  (.op true ⟨(some 25), none, (.fld 3 (.tmp 1))⟩
  (.op true ⟨(some 26), none, (.ld none (.tmp 25))⟩
  (.op true ⟨(some 27), none, (.idx 1 (.tmp 26) (.const (.int .i64 0)))⟩
  (.op true ⟨(some 28), none, (.ld none (.tmp 27))⟩
  (.op true ⟨(some 29), none, (.cvi .u8 (.tmp 28))⟩
  (.op false ⟨(some 30), none, (.bsl 2 1 [(.int .u8 0)] [(0, (.tmp 24)), (1, (.tmp 29))])⟩
  (.op false ⟨(some 31), none, (.app 1 1 [(.int .u8 0)] (.tmp 18) (.tmp 30))⟩
  (.bar (.op true ⟨(some 3), none, (.mv (.tmp 31))⟩ .done)))))))))))))))))))
 (.seq (.seq
 (.reg false (.op false ⟨(some 32), none, (.fld 1 (.tmp 1))⟩
  (.op false ⟨(some 33), none, (.ld none (.tmp 32))⟩
  (.op false ⟨(some 34), none, (.len (.tmp 33))⟩
  (.op false ⟨(some 35), none, (.mv (.const (.int .i64 0)))⟩ .done))))) (.block 0 (.loop
 (.seq
 (.reg false (.op false ⟨(some 36), none, (.bin .lss (.tmp 35) (.tmp 34))⟩ .done))
 (.seq (.cond (.tmp 36) .skip (.exit 0))
 (.seq (.block 1
 (.seq
 (.reg false (.op false ⟨(some 37), none, (.mv (.tmp 35))⟩
  (.op false ⟨(some 38), none, (.idx 1 (.tmp 33) (.tmp 35))⟩
  (.op false ⟨(some 39), none, (.ld none (.tmp 38))⟩
  (.op false ⟨(some 4), none, (.mv (.tmp 37))⟩
  (.op false ⟨(some 5), none, (.mv (.tmp 39))⟩ .done))))))
 (.seq
 (.reg false (.op false ⟨(some 40), none, (.mv (.tmp 3))⟩
  (.op false ⟨(some 41), none, (.mv (.tmp 5))⟩
  (.op false ⟨(some 42), none, (.len (.tmp 41))⟩
  (.op false ⟨(some 43), none, (.cvi .u8 (.tmp 42))⟩
  (.op false ⟨(some 44), none, (.bsl 1 1 [(.int .u8 0)] [(0, (.tmp 43))])⟩
  (.op false ⟨(some 45), none, (.app 1 1 [(.int .u8 0)] (.tmp 40) (.tmp 44))⟩
  (.op false ⟨(some 46), none, (.mv (.tmp 5))⟩
  (.op false ⟨(some 47), none, (.app 1 1 [(.int .u8 0)] (.tmp 45) (.tmp 46))⟩
  (.op false ⟨(some 3), none, (.mv (.tmp 47))⟩ .done))))))))))
 (.seq
 (.reg false (.op false ⟨(some 48), none, (.fld 0 (.tmp 1))⟩
  (.op false ⟨(some 49), none, (.ld none (.tmp 48))⟩ .done))) (.cond (.tmp 49)
 (.reg true (.op true ⟨(some 50), none, (.mv (.tmp 3))⟩
  (.op true ⟨(some 51), none, (.fld 2 (.tmp 1))⟩
  (.op true ⟨(some 52), none, (.ld none (.tmp 51))⟩
  (.op true ⟨(some 53), none, (.mv (.tmp 4))⟩
  (.op true ⟨(some 54), none, (.idx 1 (.tmp 52) (.tmp 53))⟩
  (.op true ⟨(some 55), none, (.ld none (.tmp 54))⟩
  (.op true ⟨(some 56), none, (.len (.tmp 55))⟩
  (.op true ⟨(some 57), none, (.cvi .u8 (.tmp 56))⟩
  (.op true ⟨(some 60), none, (.fld 2 (.tmp 1))⟩
  (.op true ⟨(some 61), none, (.ld none (.tmp 60))⟩
  (.op true ⟨(some 62), none, (.mv (.tmp 4))⟩
  (.op true ⟨(some 63), none, (.idx 1 (.tmp 61) (.tmp 62))⟩
  (.op true ⟨(some 64), none, (.ld none (.tmp 63))⟩
  (.op false ⟨(some 58), none, (.bsl 1 1 [(.int .u8 0)] [(0, (.tmp 57))])⟩
  (.op false ⟨(some 59), none, (.app 1 1 [(.int .u8 0)] (.tmp 50) (.tmp 58))⟩
  (.op false ⟨(some 65), none, (.app 1 1 [(.int .u8 0)] (.tmp 59) (.tmp 64))⟩
  (.bar (.op true ⟨(some 3), none, (.mv (.tmp 65))⟩ .done)))))))))))))))))))
 (.reg true (.op true ⟨(some 66), none, (.mv (.tmp 3))⟩
  (.op true ⟨(some 67), none, (.fld 3 (.tmp 1))⟩
  (.op true ⟨(some 68), none, (.ld none (.tmp 67))⟩
  (.op true ⟨(some 69), none, (.mv (.tmp 4))⟩
  (.op true ⟨(some 70), none, (.bin .add (.tmp 69) (.const (.int .i64 1)))⟩
  (.op true ⟨(some 71), none, (.idx 1 (.tmp 68) (.tmp 70))⟩
  (.op true ⟨(some 72), none, (.ld none (.tmp 71))⟩
  (.op true ⟨(some 73), none, (.bin .shr (.tmp 72) (.const (.int .u64 8)))⟩
  (.op true ⟨(some 74), none, (.cvi .u8 (.tmp 73))⟩
  (.op true ⟨(some 75), none, (.fld 3 (.tmp 1))⟩
  (.op true ⟨(some 76), none, (.ld none (.tmp 75))⟩
  (.op true ⟨(some 77), none, (.mv (.tmp 4))⟩
  (.op true ⟨(some 78), none, (.bin .add (.tmp 77) (.const (.int .i64 1)))⟩
  (.op true ⟨(some 79), none, (.idx 1 (.tmp 76) (.tmp 78))⟩
  (.op true ⟨(some 80), none, (.ld none (.tmp 79))⟩
  (.op true ⟨(some 81), none, (.cvi .u8 (.tmp 80))⟩
  (.op false ⟨(some 82), none, (.bsl 2 1 [(.int .u8 0)] [(0, (.tmp 74)), (1, (.tmp 81))])⟩
  (.op false ⟨(some 83), none, (.app 1 1 [(.int .u8 0)] (.tmp 66) (.tmp 82))⟩
  (.bar (.op true ⟨(some 3), none, (.mv (.tmp 83))⟩ .done))))))))))))))))))))))))))
 (.reg false (.op false ⟨(some 84), none, (.bin .add (.tmp 35) (.const (.int .i64 1)))⟩
  (.op false ⟨(some 35), none, (.mv (.tmp 84))⟩ .done)))))))))
 (.seq
 (.reg false (.op false ⟨(some 85), none, (.mv (.tmp 3))⟩
  (.op false ⟨(some 86), none, (.sl 1 (.tmp 85) none (some (.const (.int .i64 256))) none)⟩
  (.op false ⟨(some 2), none, (.mv (.tmp 86))⟩ .done)))) .ret))))))⟩

theorem page_ok {P : Program} {f : FuncId} (hd : dec P f = some g_node_page) : PageOk P f := by
  intro d cs n hn hs hz
  have hlen := bodyD_len n
  obtain ⟨lf, ks, vs, is⟩ := n
  obtain ⟨kv, vv, iv, rfl, hk, hv, hiv⟩ : ∃ kv vv iv, cs = [.bool lf, kv, vv, iv] ∧ RBss d kv ks ∧ RBss d vv vs ∧ RInts d iv is := hn
  refine GCall_of hd (Nat.le_of_ble_eq_true rfl) ?_
  obtain ⟨ka, kc, kb, ko, rfl, kA, kS, kN, kl, km, kB, kx⟩ := hk
  obtain ⟨ia, ic, ib, io, rfl, iA, iS, iN, il, im, iB, ix⟩ := hiv
  obtain ⟨va, vc, vb, vo, rfl, vA, vS, vN, vl, vm, vB, vx⟩ := hv
  show gwp P _ _ _ _ _
  (apply w_sq; apply w_reg; apply w_boxa; rfl; intro _ _; apply w_mvs; rfl; apply w_done0; apply w_sq; apply w_reg)
  rename_i b0 T0
  refine w_mks (n := 0) (c := 256) rfl rfl (by omega) (by omega) (by omega) (fun b T => ?_)
  have hrow : FRow 256 _ _ _ := FRow.nil (N := 256) (b := b) (T := T)
  (apply w_mvs; rfl; apply w_done0; apply w_sq; apply w_reg; apply w_mvs; rfl; apply w_fld; rfl; apply w_ld; rfl; exact hc_i 1 rfl rfl; apply w_len; rfl; apply w_cvb; rfl)
  refine w_vs d [bx b0 T0 [.bool lf, .slice ka ks.length kc, .slice va vs.length vc, .slice ia is.length ic], bx b T (zrow [Value.int .u8 0] (256 * 1))] (Vs.perm (List.Perm.swap _ _ _)) ?_
  refine w_bsl (cs := [.int .u8 2, byteV (u8n ks.length)]) (by omega) rfl (fun b2 T2 => ?_)
  refine w_appF0 1 (news := [2, u8n ks.length]) rfl rfl hrow rfl rfl rfl (by simp) (by omega) (fun v1 h1 hrow1 => ?_)
  have hround : ∀ k, k < ks.length → (bodyD ⟨lf, ks, vs, is⟩ (k + 1)).length ≤ 256 := by
    intro k hk
    have h1 := hlen (k + 1)
    have h2 := csum_mono ⟨lf, ks, vs, is⟩ (show k + 1 ≤ ks.length from hk)
    simp only [sizeD] at hz
    simp only [soundB, Bool.and_eq_true] at hs
    cases lf
    · simp only [Bool.false_eq_true, if_false, Bool.and_eq_true, decide_eq_true_eq] at hs h1 hz; omega
    · simp only [if_true] at hs h1 hz; omega
  cases lf
  · obtain ⟨hkl, hil, hio⟩ : vs.length = 0 ∧ is.length = ks.length + 1 ∧ is.all kidOk = true := by
      simp only [soundB, Bool.and_eq_true, Bool.false_eq_true, if_false, decide_eq_true_eq] at hs
      exact ⟨hs.2.1.1, hs.2.1.2, hs.2.2⟩
    have hki : ∀ i (h : i < is.length), 0 ≤ is[i] ∧ is[i] ≤ 8191 := fun i h => by
      have := List.all_eq_true.1 hio _ (List.getElem_mem h)
      simpa [kidOk] using this
    obtain ⟨c0, hc0, hD0, ⟨rfl, hr1, hr2⟩⟩ := ix 0 (by omega)
    replace hD0 := hD0.one
    have hg0 : is.getD 0 0 = is[0]'(by omega) := by simp [show 0 < is.length by omega]
    (apply w_mv; apply w_done0; apply w_sq; apply w_sq; apply w_reg; apply w_fld; rfl; apply w_ld; rfl; exact hc_i 0 rfl rfl; apply w_done0; apply w_ifF; rfl)
    refine w_drawnS [0] [1] rfl ?_
    (apply w_mv; apply w_fld; rfl; apply w_ld; rfl; exact hc_i 0 rfl rfl; apply w_idx 0; rfl; rfl; rfl; omega; assumption; apply w_ld; rfl; exact hc_d (by assumption); apply w_shr8; rfl; rfl; decide; apply w_cvb; rfl; apply w_fld; rfl; apply w_ld; rfl; exact hc_i 0 rfl rfl; apply w_idx 0; rfl; rfl; rfl; omega; assumption; apply w_ld; rfl; exact hc_d (by assumption); apply w_cvb; rfl)
    refine w_bsl (cs := (numB (is[0]'(by omega))).map byteV) (by omega) rfl (fun b4 T4 => ?_)
    refine w_appF0 0 (news := numB (is[0]'(by omega))) rfl rfl hrow1 rfl rfl rfl (by simp [numB]) (by omega) (fun v2 h2 hrow2 => ?_)
    have hrow2' : FRow 256 v2 (bodyD ⟨false, ks, vs, is⟩ 0) h2 := by
      have e : bodyD ⟨false, ks, vs, is⟩ 0 = [] ++ [2, u8n ks.length] ++ numB (is[0]'(by omega)) := by simp [bodyD, headD, hg0, show 0 < is.length by omega]
      rw [e]; exact hrow2
    (apply w_bar; apply w_mv; apply w_done0; apply w_sq; apply w_sq; apply w_reg; apply w_fld; rfl; apply w_ld; rfl; exact hc_i 0 rfl rfl; apply w_len; rfl; apply w_mvi; rfl; apply w_done0; apply w_block)
    refine w_loopS (α := Nat × Value × PHeap) (fun x => [(1, .pointer (some ⟨b0, 0, none⟩)), (3, x.2.1), (33, .slice ka ks.length kc), (34, .int .i64 ks.length), (35, .int .i64 x.1)])
      (fun x d' L' => d' = d ∧ L' = [bx b0 T0 [.bool false, .slice ka ks.length kc, .slice va vs.length vc, .slice ia is.length ic], x.2.2] ∧ x.1 ≤ ks.length ∧ FRow 256 x.2.1 (bodyD ⟨false, ks, vs, is⟩ x.1) x.2.2) (fun x => ks.length - x.1) (0, v2, h2)
      ⟨rfl, rfl, rfl, rfl, rfl, trivial⟩ ⟨rfl, rfl, Nat.zero_le _, hrow2'⟩ ?_
    rintro ⟨k, v3, h3⟩ ρ d' L' ⟨hdd, hLL, hle, hrow3⟩
    simp only at hLL hle hrow3
    subst hdd; subst hLL
    by_cases h : k < ks.length
    · obtain ⟨c0, hc0, hD1, ⟨u0, rfl, hu0⟩⟩ := kx k h
      replace hD1 := hD1.one
      obtain ⟨c1, hc1, hD2, ⟨rfl, hs1, hs2⟩⟩ := ix (k + 1) (by omega)
      replace hD2 := hD2.one
      have hgk : ks.getD k [] = ks[k] := by simp [h]
      have hgi : is.getD (k + 1) 0 = is[k + 1]'(by omega) := by simp [show k + 1 < is.length by omega]
      have hb := hround k h
      have hbe : bodyD ⟨false, ks, vs, is⟩ (k + 1) = bodyD ⟨false, ks, vs, is⟩ k ++ [u8n ks[k].length] ++ ks[k] ++ numB (is[k + 1]'(by omega)) := by simp [bodyD, tailD, klen, h, show k + 1 < is.length by omega]
      rw [hbe] at hb
      simp only [List.length_append, List.length_singleton] at hb
      (apply w_sq; apply w_reg; apply w_lss; rfl; rfl; apply w_done0; apply w_sq; refine w_ifdT rfl (by omega) ?_; apply w_skip; apply w_sq; apply w_block; apply w_sq; apply w_reg; apply w_mvi; rfl; apply w_idx; rfl; rfl; rfl; omega; assumption; apply w_ld; rfl; exact hc_d (by assumption); apply w_mvi; rfl; apply w_mv; apply w_done0; apply w_sq; apply w_reg; apply w_mv; apply w_mv; apply w_lenR; rfl; assumption; apply w_cvb; rfl)
      refine w_bsl (cs := [byteV (u8n ks[k].length)]) (by omega) rfl (fun b4 T4 => ?_)
      refine w_appF0 1 (news := [u8n ks[k].length]) rfl rfl hrow3 rfl rfl rfl (by simp; omega) (by omega) (fun v4 h4 hrow4 => ?_)
      (apply w_mv)
      refine w_appF 1 (news := ks[k]) rfl rfl hrow4 rfl (hu0.rdx _) (by simp; omega) (by omega) (fun v5 h5 hrow5 => ?_)
      (apply w_mv; apply w_done0; apply w_sq; apply w_reg; apply w_fld; rfl; apply w_ld; rfl; exact hc_i 0 rfl rfl; apply w_done0; apply w_ifF; rfl)
      refine w_drawnS [0] [1] rfl ?_
      (apply w_mv; apply w_fld; rfl; apply w_ld; rfl; exact hc_i 0 rfl rfl; apply w_mvi; rfl; apply w_add; rfl; rfl; omega; omega)
      refine w_idx (k + 1) rfl rfl (by omega) (by omega) iA ?_
      (apply w_ld; rfl; exact hc_d (by assumption); apply w_shr8; rfl; rfl; decide; apply w_cvb; rfl; apply w_fld; rfl; apply w_ld; rfl; exact hc_i 0 rfl rfl; apply w_mvi; rfl; apply w_add; rfl; rfl; omega; omega)
      refine w_idx (k + 1) rfl rfl (by omega) (by omega) iA ?_
      (apply w_ld; rfl; exact hc_d (by assumption); apply w_cvb; rfl)
      refine w_bsl (cs := (numB (is[k + 1]'(by omega))).map byteV) (by omega) rfl (fun b6 T6 => ?_)
      refine w_appF0 0 (news := numB (is[k + 1]'(by omega))) rfl rfl hrow5 rfl rfl rfl (by simp [numB] at hb ⊢; omega) (by omega) (fun v6 h6 hrow6 => ?_)
      (apply w_bar; apply w_mv; apply w_done0; apply w_reg; apply w_add; rfl; rfl; omega; omega; apply w_mvi; rfl; apply w_done0)
      refine ⟨(k + 1, v6, h6), by simp; omega, ⟨rfl, rfl, rfl, rfl, int_eq (by omega), trivial⟩, rfl, rfl, h, ?_⟩
      simp only
      rw [hbe]; exact hrow6
    · have e : k = ks.length := by omega
      subst e
      obtain ⟨b7, rfl, hfull⟩ := hrow3.full
      (apply w_sq; apply w_reg; apply w_lss; rfl; rfl; apply w_done0; apply w_sq; refine w_ifdF rfl (by omega) ?_; apply w_exit; apply w_sq; apply w_reg; apply w_mvs; rfl)
      refine w_slN (l := 0) (h := 256) (m := 256) rfl rfl (by omega) ?_
      (apply w_mvs; rfl; apply w_done0; apply w_ret)
      exact fin1 (L' := [h3]) rfl (List.sublist_cons_self _ _) ⟨rfl, h3, rfl, hfull⟩
  · have hvl : vs.length = ks.length := by
      simp only [soundB, Bool.and_eq_true, if_true, decide_eq_true_eq] at hs
      exact hs.2.1.1
    obtain ⟨_, b3, T3, rfl, rfl⟩ := hrow1
    (apply w_mvs; rfl; apply w_done0; apply w_sq; apply w_sq; apply w_reg; apply w_fld; rfl; apply w_ld; rfl; exact hc_i 0 rfl rfl; apply w_done0; apply w_ifT; rfl; apply w_reg; apply w_mvs; rfl)
    refine w_idx (b := b3) (o := 0) 0 rfl rfl rfl (by simp) (SAd.some _ b3 0) ?_
    refine w_st (v := .int .u8 1) 1 rfl rfl rfl rfl (by rw [List.length_append, List.length_replicate, List.length_map]; exact Nat.le_of_ble_eq_true rfl) rfl ?_
    have hrow2' : FRow 256 (.slice (some ⟨b3, 0, none⟩) 2 256) (bodyD ⟨true, ks, vs, is⟩ 0) (bx b3 T3 (patch (([] ++ [2, u8n ks.length]).map byteV ++ List.replicate (256 - ([] ++ [2, u8n ks.length]).length) (byteV 0)) (0 + 0 * 1) (Value.int .u8 1).cells.toList)) := by
      refine ⟨by simp [bodyD, headD], b3, T3, by simp [bodyD, headD], ?_⟩
      congr 1
    (apply w_done0; apply w_sq; apply w_sq; apply w_reg; apply w_fld; rfl; apply w_ld; rfl; exact hc_i 0 rfl rfl; apply w_len; rfl; apply w_mvi; rfl; apply w_done0; apply w_block)
    refine w_loopS (α := Nat × Value × PHeap) (fun x => [(1, .pointer (some ⟨b0, 0, none⟩)), (3, x.2.1), (33, .slice ka ks.length kc), (34, .int .i64 ks.length), (35, .int .i64 x.1)])
      (fun x d' L' => d' = d ∧ L' = [bx b0 T0 [.bool true, .slice ka ks.length kc, .slice va vs.length vc, .slice ia is.length ic], x.2.2] ∧ x.1 ≤ ks.length ∧ FRow 256 x.2.1 (bodyD ⟨true, ks, vs, is⟩ x.1) x.2.2) (fun x => ks.length - x.1) (0, _, _)
      ⟨rfl, rfl, rfl, rfl, rfl, trivial⟩ ⟨rfl, rfl, Nat.zero_le _, hrow2'⟩ ?_
    rintro ⟨k, v3, h3⟩ ρ d' L' ⟨hdd, hLL, hle, hrow3⟩
    simp only at hLL hle hrow3
    subst hdd; subst hLL
    by_cases h : k < ks.length
    · obtain ⟨c0, hc0, hD1, ⟨u0, rfl, hu0⟩⟩ := kx k h
      replace hD1 := hD1.one
      obtain ⟨c1, hc1, hD2, ⟨u1, rfl, hu1⟩⟩ := vx k (by omega)
      replace hD2 := hD2.one
      have hb := hround k h
      have hbe : bodyD ⟨true, ks, vs, is⟩ (k + 1) = bodyD ⟨true, ks, vs, is⟩ k ++ [u8n ks[k].length] ++ ks[k] ++ [u8n (vs[k]'(by omega)).length] ++ vs[k]'(by omega) := by simp [bodyD, tailD, klen, vlen, h, show k < vs.length by omega]
      rw [hbe] at hb
      simp only [List.length_append, List.length_singleton] at hb
      (apply w_sq; apply w_reg; apply w_lss; rfl; rfl; apply w_done0; apply w_sq; refine w_ifdT rfl (by omega) ?_; apply w_skip; apply w_sq; apply w_block; apply w_sq; apply w_reg; apply w_mvi; rfl; apply w_idx; rfl; rfl; rfl; omega; assumption; apply w_ld; rfl; exact hc_d (by assumption); apply w_mvi; rfl; apply w_mv; apply w_done0; apply w_sq; apply w_reg; apply w_mv; apply w_mv; apply w_lenR; rfl; assumption; apply w_cvb; rfl)
      refine w_bsl (cs := [byteV (u8n ks[k].length)]) (by omega) rfl (fun b4 T4 => ?_)
      refine w_appF0 1 (news := [u8n ks[k].length]) rfl rfl hrow3 rfl rfl rfl (by simp; omega) (by omega) (fun v4 h4 hrow4 => ?_)
      (apply w_mv)
      refine w_appF 1 (news := ks[k]) rfl rfl hrow4 rfl (hu0.rdx _) (by simp; omega) (by omega) (fun v5 h5 hrow5 => ?_)
      (apply w_mv; apply w_done0; apply w_sq; apply w_reg; apply w_fld; rfl; apply w_ld; rfl; exact hc_i 0 rfl rfl; apply w_done0; apply w_ifT; rfl)
      refine w_drawnS [0] [1] rfl ?_
      (apply w_mv; apply w_fld; rfl; apply w_ld; rfl; exact hc_i 0 rfl rfl; apply w_mvi; rfl; apply w_idx; rfl; rfl; rfl; omega; assumption; apply w_ld; rfl; exact hc_d (by assumption); apply w_lenR; rfl; assumption; apply w_cvb; rfl; apply w_fld; rfl; apply w_ld; rfl; exact hc_i 0 rfl rfl; apply w_mvi; rfl; apply w_idx; rfl; rfl; rfl; omega; assumption; apply w_ld; rfl; exact hc_d (by assumption))
      refine w_bsl (cs := [byteV (u8n (vs[k]'(by omega)).length)]) (by omega) rfl (fun b6 T6 => ?_)
      refine w_appF0 0 (news := [u8n (vs[k]'(by omega)).length]) rfl rfl hrow5 rfl rfl rfl (by simp; omega) (by omega) (fun v6 h6 hrow6 => ?_)
      refine w_appF 0 (news := vs[k]'(by omega)) rfl rfl hrow6 rfl (hu1.rdx _) (by simp; omega) (by omega) (fun v7 h7 hrow7 => ?_)
      (apply w_bar; apply w_mv; apply w_done0; apply w_reg; apply w_add; rfl; rfl; omega; omega; apply w_mvi; rfl; apply w_done0)
      refine ⟨(k + 1, v7, h7), by simp; omega, ⟨rfl, rfl, rfl, rfl, int_eq (by omega), trivial⟩, rfl, rfl, h, ?_⟩
      simp only
      rw [hbe]; exact hrow7
    · have e : k = ks.length := by omega
      subst e
      obtain ⟨b7, rfl, hfull⟩ := hrow3.full
      (apply w_sq; apply w_reg; apply w_lss; rfl; rfl; apply w_done0; apply w_sq; refine w_ifdF rfl (by omega) ?_; apply w_exit; apply w_sq; apply w_reg; apply w_mvs; rfl)
      refine w_slN (l := 0) (h := 256) (m := 256) rfl rfl (by omega) ?_
      (apply w_mvs; rfl; apply w_done0; apply w_ret)
      exact fin1 (L' := [h3]) rfl (List.sublist_cons_self _ _) ⟨rfl, h3, rfl, hfull⟩
end Go.Gk.Node
