/-
  Nodes: which may be.
-/
import Derived.Test.YtjbpdhljjhpeeaaGkNode1
namespace Go.Gk.Node
open Go Go.Gk
attribute [local irreducible] gwp gws

def kOk (ks : List (List UInt8)) (i : Nat) : Bool := decide (1 ≤ (ks.getD i []).length) && decide ((ks.getD i []).length ≤ 64) && (i == 0 || Op.bytesLess (ks.getD (i - 1) []) (ks.getD i []))
def keysOk (ks : List (List UInt8)) : Nat → Bool
  | 0 => true
  | k + 1 => keysOk ks k && kOk ks k
theorem keysOk_false {ks : List (List UInt8)} {k : Nat} (h : kOk ks k = false) : ∀ {m : Nat}, k < m → keysOk ks m = false := by
  intro m hm
  induction hm with
  | refl => simp [keysOk, h]
  | step _ ih => simp [keysOk, ih]
theorem all_false {α : Type} {p : α → Bool} {xs : List α} {i : Nat} (hi : i < xs.length) (h : p xs[i] = false) : xs.all p = false := by
  rw [← Bool.not_eq_true, List.all_eq_true]
  intro hall
  rw [hall _ (List.getElem_mem hi)] at h; cases h
theorem all_take {α : Type} {p : α → Bool} {xs : List α} {i : Nat} (hi : i < xs.length) (h : (xs.take i).all p = true) (hx : p xs[i] = true) : (xs.take (i + 1)).all p = true := by
  rw [List.take_succ_eq_append_getElem hi, List.all_append, h]; simp [hx]
def valOk (v : List UInt8) : Bool := decide (v.length ≤ 16)
def kidOk (k : Int) : Bool := decide (0 ≤ k ∧ k ≤ 8191)
def soundB (n : NodeD) : Bool := keysOk n.keys n.keys.length && (if n.leaf then decide (n.vals.length = n.keys.length) && decide (n.kids.length = 0) && n.vals.all valOk
  else decide (n.vals.length = 0) && decide (n.kids.length = n.keys.length + 1) && n.kids.all kidOk)

def SoundOk (P : Program) (f : FuncId) : Prop := ∀ {d : PHeap} {cs : List Value} {n : NodeD}, RNode d cs n → GPure P f [.agg cs.toArray] d (.bool (soundB n))

def g_thimbleref20_Sound : GFun :=
 ⟨113, [(.tmp 2)],
 (.seq
 (.reg false (.op false ⟨(some 1), none, (.box (.tmp 0))⟩
  (.op false ⟨(some 2), none, (.mv (.const (.bool false)))⟩ .done)))
 (.seq (.seq
 (.reg false (.op false ⟨(some 3), none, (.mv (.const (.int .i64 0)))⟩ .done)) (.block 0 (.loop
 (.seq (.seq
 (.reg false (.op false ⟨(some 6), none, (.mv (.tmp 3))⟩
  (.op false ⟨(some 7), none, (.fld 1 (.tmp 1))⟩
  (.op false ⟨(some 8), none, (.ld none (.tmp 7))⟩
  (.op false ⟨(some 9), none, (.len (.tmp 8))⟩
  (.op false ⟨(some 10), none, (.bin .lss (.tmp 6) (.tmp 9))⟩ .done)))))) (.cond (.tmp 10) .skip (.exit 0)))
 (.seq (.block 1
 (.seq
 (.reg true (.op true ⟨(some 13), none, (.fld 1 (.tmp 1))⟩
  (.op true ⟨(some 14), none, (.ld none (.tmp 13))⟩
  (.op true ⟨(some 15), none, (.mv (.tmp 3))⟩
  (.op true ⟨(some 16), none, (.idx 1 (.tmp 14) (.tmp 15))⟩
  (.op true ⟨(some 17), none, (.ld none (.tmp 16))⟩
  (.op true ⟨(some 18), none, (.len (.tmp 17))⟩
  (.op true ⟨(some 19), none, (.bin .lss (.tmp 18) (.const (.int .i64 1)))⟩
  (.op true ⟨(some 20), none, (.mv (.tmp 19))⟩
  (.op true ⟨(some 21), (some (20, false)), (.fld 1 (.tmp 1))⟩
  (.op true ⟨(some 22), (some (20, false)), (.ld none (.tmp 21))⟩
  (.op true ⟨(some 23), (some (20, false)), (.mv (.tmp 3))⟩
  (.op true ⟨(some 24), (some (20, false)), (.idx 1 (.tmp 22) (.tmp 23))⟩
  (.op true ⟨(some 25), (some (20, false)), (.ld none (.tmp 24))⟩
  (.op true ⟨(some 26), (some (20, false)), (.len (.tmp 25))⟩
  (.op true ⟨(some 27), (some (20, false)), (.bin .gtr (.tmp 26) (.const (.int .i64 64)))⟩
  (.op true ⟨(some 28), none, (.pick (.tmp 20) (.const (.bool true)) (.tmp 27))⟩
  (.op true ⟨(some 29), none, (.mv (.tmp 28))⟩
  (.op true ⟨(some 30), (some (29, false)), (.mv (.tmp 3))⟩
  (.op true ⟨(some 31), (some (29, false)), (.bin .gtr (.tmp 30) (.const (.int .i64 0)))⟩
  (.op true ⟨(some 32), (some (29, false)), (.mv (.tmp 31))⟩
  (.op true ⟨(some 33), (some (32, true)), (.fld 1 (.tmp 1))⟩
  (.op true ⟨(some 34), (some (32, true)), (.ld none (.tmp 33))⟩
  (.op true ⟨(some 35), (some (32, true)), (.mv (.tmp 3))⟩
  (.op true ⟨(some 36), (some (32, true)), (.bin .sub (.tmp 35) (.const (.int .i64 1)))⟩
  (.op true ⟨(some 37), (some (32, true)), (.idx 1 (.tmp 34) (.tmp 36))⟩
  (.op true ⟨(some 38), (some (32, true)), (.ld none (.tmp 37))⟩
  (.op true ⟨(some 39), (some (32, true)), (.b2s (.tmp 38))⟩
  (.op true ⟨(some 40), (some (32, true)), (.fld 1 (.tmp 1))⟩
  (.op true ⟨(some 41), (some (32, true)), (.ld none (.tmp 40))⟩
  (.op true ⟨(some 42), (some (32, true)), (.mv (.tmp 3))⟩
  (.op true ⟨(some 43), (some (32, true)), (.idx 1 (.tmp 41) (.tmp 42))⟩
  (.op true ⟨(some 44), (some (32, true)), (.ld none (.tmp 43))⟩
  (.op true ⟨(some 45), (some (32, true)), (.b2s (.tmp 44))⟩
  (.op true ⟨(some 46), (some (32, true)), (.bin .geq (.tmp 39) (.tmp 45))⟩
  (.op true ⟨(some 47), (some (29, false)), (.pick (.tmp 32) (.tmp 46) (.const (.bool false)))⟩
  (.op true ⟨(some 48), none, (.pick (.tmp 29) (.const (.bool true)) (.tmp 47))⟩ .done))))))))))))))))))))))))))))))))))))) (.cond (.tmp 48)
 (.seq
 (.reg false (.op false ⟨(some 2), none, (.mv (.const (.bool false)))⟩ .done)) .ret) .skip)))
 (.reg false (.op false ⟨(some 11), none, (.mv (.tmp 3))⟩
  (.op false ⟨(some 12), none, (.bin .add (.tmp 11) (.const (.int .i64 1)))⟩
  (.op false ⟨(some 3), none, (.mv (.tmp 12))⟩ .done)))))))))
 (.seq (.seq
 (.reg false (.op false ⟨(some 4), none, (.mv (.const (.int .i64 0)))⟩ .done)) (.block 2 (.loop
 (.seq (.seq
 (.reg false (.op false ⟨(some 49), none, (.mv (.tmp 4))⟩
  (.op false ⟨(some 50), none, (.fld 2 (.tmp 1))⟩
  (.op false ⟨(some 51), none, (.ld none (.tmp 50))⟩
  (.op false ⟨(some 52), none, (.len (.tmp 51))⟩
  (.op false ⟨(some 53), none, (.bin .lss (.tmp 49) (.tmp 52))⟩ .done)))))) (.cond (.tmp 53) .skip (.exit 2)))
 (.seq (.block 3
 (.seq
 (.reg false (.op false ⟨(some 56), none, (.fld 2 (.tmp 1))⟩
  (.op false ⟨(some 57), none, (.ld none (.tmp 56))⟩
  (.op false ⟨(some 58), none, (.mv (.tmp 4))⟩
  (.op false ⟨(some 59), none, (.idx 1 (.tmp 57) (.tmp 58))⟩
  (.op false ⟨(some 60), none, (.ld none (.tmp 59))⟩
  (.op false ⟨(some 61), none, (.len (.tmp 60))⟩
  (.op false ⟨(some 62), none, (.bin .gtr (.tmp 61) (.const (.int .i64 16)))⟩ .done)))))))) (.cond (.tmp 62)
 (.seq
 (.reg false (.op false ⟨(some 2), none, (.mv (.const (.bool false)))⟩ .done)) .ret) .skip)))
 (.reg false (.op false ⟨(some 54), none, (.mv (.tmp 4))⟩
  (.op false ⟨(some 55), none, (.bin .add (.tmp 54) (.const (.int .i64 1)))⟩
  (.op false ⟨(some 4), none, (.mv (.tmp 55))⟩ .done)))))))))
 (.seq (.seq
 (.reg false (.op false ⟨(some 5), none, (.mv (.const (.int .i64 0)))⟩ .done)) (.block 4 (.loop
 (.seq (.seq
 (.reg false (.op false ⟨(some 63), none, (.mv (.tmp 5))⟩
  (.op false ⟨(some 64), none, (.fld 3 (.tmp 1))⟩
  (.op false ⟨(some 65), none, (.ld none (.tmp 64))⟩
  (.op false ⟨(some 66), none, (.len (.tmp 65))⟩
  (.op false ⟨(some 67), none, (.bin .lss (.tmp 63) (.tmp 66))⟩ .done)))))) (.cond (.tmp 67) .skip (.exit 4)))
 (.seq (.block 5
 (.seq
 (.reg false (.op false ⟨(some 70), none, (.fld 3 (.tmp 1))⟩
  (.op false ⟨(some 71), none, (.ld none (.tmp 70))⟩
  (.op false ⟨(some 72), none, (.mv (.tmp 5))⟩
  (.op false ⟨(some 73), none, (.idx 1 (.tmp 71) (.tmp 72))⟩
  (.op false ⟨(some 74), none, (.ld none (.tmp 73))⟩
  (.op false ⟨(some 75), none, (.bin .lss (.tmp 74) (.const (.int .i64 0)))⟩
  (.op false ⟨(some 76), none, (.mv (.tmp 75))⟩
  (.op false ⟨(some 77), (some (76, false)), (.fld 3 (.tmp 1))⟩
  (.op false ⟨(some 78), (some (76, false)), (.ld none (.tmp 77))⟩
  (.op false ⟨(some 79), (some (76, false)), (.mv (.tmp 5))⟩
  (.op false ⟨(some 80), (some (76, false)), (.idx 1 (.tmp 78) (.tmp 79))⟩
  (.op false ⟨(some 81), (some (76, false)), (.ld none (.tmp 80))⟩
  (.op false ⟨(some 82), (some (76, false)), (.bin .gtr (.tmp 81) (.const (.int .i64 8191)))⟩
  (.op false ⟨(some 83), none, (.pick (.tmp 76) (.const (.bool true)) (.tmp 82))⟩ .done))))))))))))))) (.cond (.tmp 83)
 (.seq
 (.reg false (.op false ⟨(some 2), none, (.mv (.const (.bool false)))⟩ .done)) .ret) .skip)))
 (.reg false (.op false ⟨(some 68), none, (.mv (.tmp 5))⟩
  (.op false ⟨(some 69), none, (.bin .add (.tmp 68) (.const (.int .i64 1)))⟩
  (.op false ⟨(some 5), none, (.mv (.tmp 69))⟩ .done)))))))))
 (.seq (.seq
 (.reg false (.op false ⟨(some 84), none, (.fld 0 (.tmp 1))⟩
  (.op false ⟨(some 85), none, (.ld none (.tmp 84))⟩ .done))) (.cond (.tmp 85)
 (.seq
 (.reg false (.op false ⟨(some 86), none, (.fld 3 (.tmp 1))⟩
  (.op false ⟨(some 87), none, (.ld none (.tmp 86))⟩
  (.op false ⟨(some 88), none, (.len (.tmp 87))⟩
  (.op false ⟨(some 89), none, (.bin .eql (.tmp 88) (.const (.int .i64 0)))⟩
  (.op false ⟨(some 90), none, (.mv (.tmp 89))⟩
  (.op false ⟨(some 91), (some (90, true)), (.fld 2 (.tmp 1))⟩
  (.op false ⟨(some 92), (some (90, true)), (.ld none (.tmp 91))⟩
  (.op false ⟨(some 93), (some (90, true)), (.len (.tmp 92))⟩
  (.op false ⟨(some 94), (some (90, true)), (.fld 1 (.tmp 1))⟩
  (.op false ⟨(some 95), (some (90, true)), (.ld none (.tmp 94))⟩
  (.op false ⟨(some 96), (some (90, true)), (.len (.tmp 95))⟩
  (.op false ⟨(some 97), (some (90, true)), (.bin .eql (.tmp 93) (.tmp 96))⟩
  (.op false ⟨(some 98), none, (.pick (.tmp 90) (.tmp 97) (.const (.bool false)))⟩
  (.op false ⟨(some 2), none, (.mv (.tmp 98))⟩ .done))))))))))))))) .ret) .skip))
 (.seq
 (.reg false (.op false ⟨(some 99), none, (.fld 2 (.tmp 1))⟩
  (.op false ⟨(some 100), none, (.ld none (.tmp 99))⟩
  (.op false ⟨(some 101), none, (.len (.tmp 100))⟩
  (.op false ⟨(some 102), none, (.bin .eql (.tmp 101) (.const (.int .i64 0)))⟩
  (.op false ⟨(some 103), none, (.mv (.tmp 102))⟩
  (.op false ⟨(some 104), (some (103, true)), (.fld 3 (.tmp 1))⟩
  (.op false ⟨(some 105), (some (103, true)), (.ld none (.tmp 104))⟩
  (.op false ⟨(some 106), (some (103, true)), (.len (.tmp 105))⟩
  (.op false ⟨(some 107), (some (103, true)), (.fld 1 (.tmp 1))⟩
  (.op false ⟨(some 108), (some (103, true)), (.ld none (.tmp 107))⟩
  (.op false ⟨(some 109), (some (103, true)), (.len (.tmp 108))⟩
  (.op false ⟨(some 110), (some (103, true)), (.bin .add (.tmp 109) (.const (.int .i64 1)))⟩
  (.op false ⟨(some 111), (some (103, true)), (.bin .eql (.tmp 106) (.tmp 110))⟩
  (.op false ⟨(some 112), none, (.pick (.tmp 103) (.tmp 111) (.const (.bool false)))⟩
  (.op false ⟨(some 2), none, (.mv (.tmp 112))⟩ .done)))))))))))))))) .ret))))))⟩

theorem rsound_ok {P : Program} {f : FuncId} (hd : dec P f = some g_thimbleref20_Sound) : SoundOk P f := by
  intro d cs n hn
  obtain ⟨lf, ks, vs, is⟩ := n
  obtain ⟨kv, vv, iv, rfl, hk, hv, hiv⟩ : ∃ kv vv iv, cs = [.bool lf, kv, vv, iv] ∧ RBss d kv ks ∧ RBss d vv vs ∧ RInts d iv is := hn
  refine GCall_of hd (Nat.le_of_ble_eq_true rfl) ?_
  obtain ⟨ka, kc, kb, ko, rfl, kA, kS, kN, kl, km, kB, kx⟩ := hk
  obtain ⟨va, vc, vb, vo, rfl, vA, vS, vN, vl, vm, vB, vx⟩ := hv
  obtain ⟨ia, ic, ib, io, rfl, iA, iS, iN, il, im, iB, ix⟩ := hiv
  show gwp P _ _ _ _ _
  (apply w_sq; apply w_reg; apply w_boxa; rfl; intro _ _; apply w_mvb; rfl; apply w_done0; apply w_sq; apply w_sq; apply w_reg; apply w_mvi; rfl; apply w_done0; apply w_block)
  rename_i b T
  refine w_loopN (α := Nat) (fun k => [(1, .pointer (some ⟨b, 0, none⟩)), (3, .int .i64 k)])
    (fun _ => [bx b T [.bool lf, .slice ka ks.length kc, .slice va vs.length vc, .slice ia is.length ic]]) (fun k => k ≤ ks.length ∧ keysOk ks k = true) (fun k => ks.length - k) 0 ⟨rfl, rfl, trivial⟩ rfl ⟨Nat.zero_le _, rfl⟩ ?_
  rintro k ρ ⟨hle, hok⟩
  by_cases h : k < ks.length
  · obtain ⟨c0, hc0, hD0, ⟨u0, rfl, hu0⟩⟩ := kx k h
    replace hD0 := hD0.one
    have hkl : ks.getD k [] = ks[k] := by simp [h]
    have hnext : kOk ks k = true → ∃ x', ks.length - x' < ks.length - k ∧ x' = k + 1 ∧ (x' ≤ ks.length ∧ keysOk ks x' = true) := fun hk => ⟨k + 1, by omega, rfl, by omega, by simp [keysOk, hok, hk]⟩
    by_cases h1 : ks[k].length < 1
    · have hf : kOk ks k = false := by rw [kOk, hkl]; simp; omega
      (apply w_sq; apply w_sq; apply w_reg; apply w_mvi; rfl; apply w_fld; rfl; apply w_ld; rfl; exact hc_i 0 rfl rfl; apply w_len; rfl; apply w_lss; rfl; rfl; apply w_done0; refine w_ifdT rfl (by omega) ?_; apply w_skip; apply w_sq; apply w_block; apply w_sq; apply w_drawn; apply w_fld; rfl; apply w_ld; rfl; exact hc_i 0 rfl rfl; apply w_mvi; rfl; apply w_idx; rfl; rfl; rfl; omega; assumption; apply w_ld; rfl; exact hc_d (by assumption); apply w_lenR; rfl; assumption; apply w_lss; rfl; rfl; apply w_mvb; rfl; refine w_gdT rfl (by omega) ?_; apply w_gF; rfl; apply w_gF; rfl; apply w_gF; rfl; apply w_gF; rfl; apply w_gF; rfl; apply w_gF; rfl; apply w_gF; rfl; apply w_pickTb; rfl; rfl; apply w_mvb; rfl; apply w_gF; rfl; apply w_gF; rfl; apply w_gF; rfl; apply w_gU; rfl; apply w_gU; rfl; apply w_gU; rfl; apply w_gU; rfl; apply w_gU; rfl; apply w_gU; rfl; apply w_gU; rfl; apply w_gU; rfl; apply w_gU; rfl; apply w_gU; rfl; apply w_gU; rfl; apply w_gU; rfl; apply w_gU; rfl; apply w_gU; rfl; apply w_gF; rfl; apply w_pickTb; rfl; rfl; apply w_done; apply w_ifT; rfl; apply w_sq; apply w_reg; apply w_mvb; rfl; apply w_done0; apply w_ret)
      (apply finPb; rfl)
      simp [soundB, keysOk_false hf h]
    · by_cases h2 : ks[k].length > 64
      · have hf : kOk ks k = false := by rw [kOk, hkl]; simp; omega
        (apply w_sq; apply w_sq; apply w_reg; apply w_mvi; rfl; apply w_fld; rfl; apply w_ld; rfl; exact hc_i 0 rfl rfl; apply w_len; rfl; apply w_lss; rfl; rfl; apply w_done0; refine w_ifdT rfl (by omega) ?_; apply w_skip; apply w_sq; apply w_block; apply w_sq; apply w_drawn; apply w_fld; rfl; apply w_ld; rfl; exact hc_i 0 rfl rfl; apply w_mvi; rfl; apply w_idx; rfl; rfl; rfl; omega; assumption; apply w_ld; rfl; exact hc_d (by assumption); apply w_lenR; rfl; assumption; apply w_lss; rfl; rfl; apply w_mvb; rfl; refine w_gdF rfl (by omega) ?_; apply w_gT; rfl; apply w_fld; rfl; apply w_gT; rfl; apply w_ld; rfl; exact hc_i 0 rfl rfl; apply w_gT; rfl; apply w_mvi; rfl; apply w_gT; rfl; apply w_idx; rfl; rfl; rfl; omega; assumption; apply w_gT; rfl; apply w_ld; rfl; exact hc_d (by assumption); apply w_gT; rfl; apply w_lenR; rfl; assumption; apply w_gT; rfl; apply w_gtr; rfl; rfl; apply w_pickFb; rfl; rfl; apply w_mvb; rfl; refine w_gdT rfl (by omega) ?_; apply w_gF; rfl; apply w_gF; rfl; apply w_gF; rfl; apply w_gU; rfl; apply w_gU; rfl; apply w_gU; rfl; apply w_gU; rfl; apply w_gU; rfl; apply w_gU; rfl; apply w_gU; rfl; apply w_gU; rfl; apply w_gU; rfl; apply w_gU; rfl; apply w_gU; rfl; apply w_gU; rfl; apply w_gU; rfl; apply w_gU; rfl; apply w_gF; rfl; apply w_pickTb; rfl; rfl; apply w_done; apply w_ifT; rfl; apply w_sq; apply w_reg; apply w_mvb; rfl; apply w_done0; apply w_ret)
        (apply finPb; rfl)
        simp [soundB, keysOk_false hf h]
      · cases k with
        | zero =>
          (apply w_sq; apply w_sq; apply w_reg; apply w_mvi; rfl; apply w_fld; rfl; apply w_ld; rfl; exact hc_i 0 rfl rfl; apply w_len; rfl; apply w_lss; rfl; rfl; apply w_done0; refine w_ifdT rfl (by omega) ?_; apply w_skip; apply w_sq; apply w_block; apply w_sq; apply w_drawn; apply w_fld; rfl; apply w_ld; rfl; exact hc_i 0 rfl rfl; apply w_mvi; rfl; apply w_idx; rfl; rfl; rfl; omega; assumption; apply w_ld; rfl; exact hc_d (by assumption); apply w_lenR; rfl; assumption; apply w_lss; rfl; rfl; apply w_mvb; rfl; refine w_gdF rfl (by omega) ?_; apply w_gT; rfl; apply w_fld; rfl; apply w_gT; rfl; apply w_ld; rfl; exact hc_i 0 rfl rfl; apply w_gT; rfl; apply w_mvi; rfl; apply w_gT; rfl; apply w_idx; rfl; rfl; rfl; omega; assumption; apply w_gT; rfl; apply w_ld; rfl; exact hc_d (by assumption); apply w_gT; rfl; apply w_lenR; rfl; assumption; apply w_gT; rfl; apply w_gtr; rfl; rfl; apply w_pickFb; rfl; rfl; apply w_mvb; rfl; refine w_gdF rfl (by omega) ?_; apply w_gT; rfl; apply w_mvi; rfl; apply w_gT; rfl; apply w_gtr; rfl; rfl; apply w_gT; rfl; apply w_mvb; rfl; apply w_gF; rfl; apply w_gF; rfl; apply w_gF; rfl; apply w_gF; rfl; apply w_gF; rfl; apply w_gF; rfl; apply w_gF; rfl; apply w_gF; rfl; apply w_gF; rfl; apply w_gF; rfl; apply w_gF; rfl; apply w_gF; rfl; apply w_gF; rfl; apply w_gF; rfl; apply w_gT; rfl; apply w_pickFb; rfl; rfl; apply w_pickFb; rfl; rfl; apply w_done; apply w_ifF; rfl; apply w_skip; apply w_reg; apply w_mvi; rfl; apply w_add; rfl; rfl; omega; omega; apply w_mvi; rfl; apply w_done0)
          obtain ⟨x', e1, rfl, e2⟩ := hnext (by rw [kOk, hkl]; simp; omega)
          exact ⟨_, e1, ⟨rfl, int_eq (by omega), trivial⟩, rfl, rfl, e2⟩
        | succ j =>
          obtain ⟨c1, hc1, hD1, ⟨u1, rfl, hu1⟩⟩ := kx j (by omega)
          replace hD1 := hD1.one
          have hjl : ks.getD j [] = ks[j] := by simp [show j < ks.length by omega]
          cases hb : Op.bytesLess ks[j] ks[j + 1] with
          | true =>
            have hb' : (!Op.bytesLess ks[j] ks[j + 1]) = false := by rw [hb]; rfl
            (apply w_sq; apply w_sq; apply w_reg; apply w_mvi; rfl; apply w_fld; rfl; apply w_ld; rfl; exact hc_i 0 rfl rfl; apply w_len; rfl; apply w_lss; rfl; rfl; apply w_done0; refine w_ifdT rfl (by omega) ?_; apply w_skip; apply w_sq; apply w_block; apply w_sq; apply w_drawn; apply w_fld; rfl; apply w_ld; rfl; exact hc_i 0 rfl rfl; apply w_mvi; rfl; apply w_idx; rfl; rfl; rfl; omega; assumption; apply w_ld; rfl; exact hc_d (by assumption); apply w_lenR; rfl; assumption; apply w_lss; rfl; rfl; apply w_mvb; rfl; refine w_gdF rfl (by omega) ?_; apply w_gT; rfl; apply w_fld; rfl; apply w_gT; rfl; apply w_ld; rfl; exact hc_i 0 rfl rfl; apply w_gT; rfl; apply w_mvi; rfl; apply w_gT; rfl; apply w_idx; rfl; rfl; rfl; omega; assumption; apply w_gT; rfl; apply w_ld; rfl; exact hc_d (by assumption); apply w_gT; rfl; apply w_lenR; rfl; assumption; apply w_gT; rfl; apply w_gtr; rfl; rfl; apply w_pickFb; rfl; rfl; apply w_mvb; rfl; refine w_gdF rfl (by omega) ?_; apply w_gT; rfl; apply w_mvi; rfl; apply w_gT; rfl; apply w_gtr; rfl; rfl; apply w_gT; rfl; apply w_mvb; rfl; refine w_gdT rfl (by omega) ?_; apply w_gT; rfl; apply w_fld; rfl; apply w_gT; rfl; apply w_ld; rfl; exact hc_i 0 rfl rfl; apply w_gT; rfl; apply w_mvi; rfl; apply w_gT; rfl; apply w_sub; rfl; rfl; omega; omega; apply w_gT; rfl)
            refine w_idx j rfl rfl (by omega) (by omega) kA ?_
            (apply w_gT; rfl; apply w_ld; rfl; exact hc_d (by assumption); apply w_gT; rfl; apply w_b2sR; rfl; assumption; apply w_gT; rfl; apply w_fld; rfl; apply w_gT; rfl; apply w_ld; rfl; exact hc_i 0 rfl rfl; apply w_gT; rfl; apply w_mvi; rfl; apply w_gT; rfl; apply w_idx; rfl; rfl; rfl; omega; assumption; apply w_gT; rfl; apply w_ld; rfl; exact hc_d (by assumption); apply w_gT; rfl; apply w_b2sR; rfl; assumption; apply w_gT; rfl; apply w_sge; rfl; rfl; apply w_gT; rfl; apply w_pickTb; rfl; rfl; apply w_pickFb; rfl; rfl; apply w_done; apply w_ifbF; rfl; (with_reducible assumption); apply w_skip; apply w_reg; apply w_mvi; rfl; apply w_add; rfl; rfl; omega; omega; apply w_mvi; rfl; apply w_done0)
            obtain ⟨x', e1, rfl, e2⟩ := hnext (by rw [kOk, hkl, Nat.add_sub_cancel, hjl, hb]; simp; omega)
            exact ⟨_, e1, ⟨rfl, int_eq (by omega), trivial⟩, rfl, rfl, e2⟩
          | false =>
            have hb' : (!Op.bytesLess ks[j] ks[j + 1]) = true := by rw [hb]; rfl
            have hf : kOk ks (j + 1) = false := by rw [kOk, hkl, Nat.add_sub_cancel, hjl, hb]; simp
            (apply w_sq; apply w_sq; apply w_reg; apply w_mvi; rfl; apply w_fld; rfl; apply w_ld; rfl; exact hc_i 0 rfl rfl; apply w_len; rfl; apply w_lss; rfl; rfl; apply w_done0; refine w_ifdT rfl (by omega) ?_; apply w_skip; apply w_sq; apply w_block; apply w_sq; apply w_drawn; apply w_fld; rfl; apply w_ld; rfl; exact hc_i 0 rfl rfl; apply w_mvi; rfl; apply w_idx; rfl; rfl; rfl; omega; assumption; apply w_ld; rfl; exact hc_d (by assumption); apply w_lenR; rfl; assumption; apply w_lss; rfl; rfl; apply w_mvb; rfl; refine w_gdF rfl (by omega) ?_; apply w_gT; rfl; apply w_fld; rfl; apply w_gT; rfl; apply w_ld; rfl; exact hc_i 0 rfl rfl; apply w_gT; rfl; apply w_mvi; rfl; apply w_gT; rfl; apply w_idx; rfl; rfl; rfl; omega; assumption; apply w_gT; rfl; apply w_ld; rfl; exact hc_d (by assumption); apply w_gT; rfl; apply w_lenR; rfl; assumption; apply w_gT; rfl; apply w_gtr; rfl; rfl; apply w_pickFb; rfl; rfl; apply w_mvb; rfl; refine w_gdF rfl (by omega) ?_; apply w_gT; rfl; apply w_mvi; rfl; apply w_gT; rfl; apply w_gtr; rfl; rfl; apply w_gT; rfl; apply w_mvb; rfl; refine w_gdT rfl (by omega) ?_; apply w_gT; rfl; apply w_fld; rfl; apply w_gT; rfl; apply w_ld; rfl; exact hc_i 0 rfl rfl; apply w_gT; rfl; apply w_mvi; rfl; apply w_gT; rfl; apply w_sub; rfl; rfl; omega; omega; apply w_gT; rfl)
            refine w_idx j rfl rfl (by omega) (by omega) kA ?_
            (apply w_gT; rfl; apply w_ld; rfl; exact hc_d (by assumption); apply w_gT; rfl; apply w_b2sR; rfl; assumption; apply w_gT; rfl; apply w_fld; rfl; apply w_gT; rfl; apply w_ld; rfl; exact hc_i 0 rfl rfl; apply w_gT; rfl; apply w_mvi; rfl; apply w_gT; rfl; apply w_idx; rfl; rfl; rfl; omega; assumption; apply w_gT; rfl; apply w_ld; rfl; exact hc_d (by assumption); apply w_gT; rfl; apply w_b2sR; rfl; assumption; apply w_gT; rfl; apply w_sge; rfl; rfl; apply w_gT; rfl; apply w_pickTb; rfl; rfl; apply w_pickFb; rfl; rfl; apply w_done; apply w_ifbT; rfl; (with_reducible assumption); apply w_sq; apply w_reg; apply w_mvb; rfl; apply w_done0; apply w_ret)
            (apply finPb; rfl)
            simp [soundB, keysOk_false hf h]
  · have e : k = ks.length := by omega
    subst e
    (apply w_sq; apply w_sq; apply w_reg; apply w_mvi; rfl; apply w_fld; rfl; apply w_ld; rfl; exact hc_i 0 rfl rfl; apply w_len; rfl; apply w_lss; rfl; rfl; apply w_done0; refine w_ifdF rfl (by omega) ?_; apply w_exit; apply w_sq; apply w_sq; apply w_reg; apply w_mvi; rfl; apply w_done0; apply w_block)
    refine w_loopN (α := Nat) (fun k => [(1, .pointer (some ⟨b, 0, none⟩)), (4, .int .i64 k)])
      (fun _ => [bx b T [.bool lf, .slice ka ks.length kc, .slice va vs.length vc, .slice ia is.length ic]]) (fun k => k ≤ vs.length ∧ (vs.take k).all valOk = true) (fun k => vs.length - k) 0 ⟨rfl, rfl, trivial⟩ rfl ⟨Nat.zero_le _, by simp⟩ ?_
    rintro k ρ ⟨hle, hvk⟩
    by_cases h : k < vs.length
    · obtain ⟨c0, hc0, hD0, ⟨u0, rfl, hu0⟩⟩ := vx k h
      replace hD0 := hD0.one
      by_cases h1 : vs[k].length > 16
      · have hf : vs.all valOk = false := all_false h (by simpa [valOk] using h1)
        (apply w_sq; apply w_sq; apply w_reg; apply w_mvi; rfl; apply w_fld; rfl; apply w_ld; rfl; exact hc_i 0 rfl rfl; apply w_len; rfl; apply w_lss; rfl; rfl; apply w_done0; refine w_ifdT rfl (by omega) ?_; apply w_skip; apply w_sq; apply w_block; apply w_sq; apply w_reg; apply w_fld; rfl; apply w_ld; rfl; exact hc_i 0 rfl rfl; apply w_mvi; rfl; apply w_idx; rfl; rfl; rfl; omega; assumption; apply w_ld; rfl; exact hc_d (by assumption); apply w_lenR; rfl; assumption; apply w_gtr; rfl; rfl; apply w_done0; refine w_ifdT rfl (by omega) ?_; apply w_sq; apply w_reg; apply w_mvb; rfl; apply w_done0; apply w_ret)
        (apply finPb; rfl)
        have hv0 : ¬ vs.length = 0 := by omega
        cases lf <;> simp [soundB, hf, hv0]
      · (apply w_sq; apply w_sq; apply w_reg; apply w_mvi; rfl; apply w_fld; rfl; apply w_ld; rfl; exact hc_i 0 rfl rfl; apply w_len; rfl; apply w_lss; rfl; rfl; apply w_done0; refine w_ifdT rfl (by omega) ?_; apply w_skip; apply w_sq; apply w_block; apply w_sq; apply w_reg; apply w_fld; rfl; apply w_ld; rfl; exact hc_i 0 rfl rfl; apply w_mvi; rfl; apply w_idx; rfl; rfl; rfl; omega; assumption; apply w_ld; rfl; exact hc_d (by assumption); apply w_lenR; rfl; assumption; apply w_gtr; rfl; rfl; apply w_done0; refine w_ifdF rfl (by omega) ?_; apply w_skip; apply w_reg; apply w_mvi; rfl; apply w_add; rfl; rfl; omega; omega; apply w_mvi; rfl; apply w_done0)
        exact ⟨k + 1, by omega, ⟨rfl, int_eq (by omega), trivial⟩, rfl, rfl, by omega, all_take h hvk (by simpa [valOk] using h1)⟩
    · have e : k = vs.length := by omega
      subst e
      rw [List.take_length] at hvk
      (apply w_sq; apply w_sq; apply w_reg; apply w_mvi; rfl; apply w_fld; rfl; apply w_ld; rfl; exact hc_i 0 rfl rfl; apply w_len; rfl; apply w_lss; rfl; rfl; apply w_done0; refine w_ifdF rfl (by omega) ?_; apply w_exit; apply w_sq; apply w_sq; apply w_reg; apply w_mvi; rfl; apply w_done0; apply w_block)
      refine w_loopN (α := Nat) (fun k => [(1, .pointer (some ⟨b, 0, none⟩)), (5, .int .i64 k)])
        (fun _ => [bx b T [.bool lf, .slice ka ks.length kc, .slice va vs.length vc, .slice ia is.length ic]]) (fun k => k ≤ is.length ∧ (is.take k).all kidOk = true) (fun k => is.length - k) 0 ⟨rfl, rfl, trivial⟩ rfl ⟨Nat.zero_le _, by simp⟩ ?_
      rintro k ρ ⟨hle, hik⟩
      by_cases h : k < is.length
      · obtain ⟨c0, hc0, hD0, ⟨rfl, hr1, hr2⟩⟩ := ix k h
        replace hD0 := hD0.one
        by_cases h1 : is[k] < 0
        · have hf : is.all kidOk = false := all_false h (by simp [kidOk]; omega)
          (apply w_sq; apply w_sq; apply w_reg; apply w_mvi; rfl; apply w_fld; rfl; apply w_ld; rfl; exact hc_i 0 rfl rfl; apply w_len; rfl; apply w_lss; rfl; rfl; apply w_done0; refine w_ifdT rfl (by omega) ?_; apply w_skip; apply w_sq; apply w_block; apply w_sq; apply w_reg; apply w_fld; rfl; apply w_ld; rfl; exact hc_i 0 rfl rfl; apply w_mvi; rfl; apply w_idx; rfl; rfl; rfl; omega; assumption; apply w_ld; rfl; exact hc_d (by assumption); apply w_lss; rfl; rfl; apply w_mvb; rfl; refine w_gdT rfl (by omega) ?_; apply w_gF; rfl; apply w_gF; rfl; apply w_gF; rfl; apply w_gF; rfl; apply w_gF; rfl; apply w_gF; rfl; apply w_pickTb; rfl; rfl; apply w_done0; apply w_ifT; rfl; apply w_sq; apply w_reg; apply w_mvb; rfl; apply w_done0; apply w_ret)
          (apply finPb; rfl)
          have hv0 : ¬ is.length = 0 := by omega
          cases lf <;> simp [soundB, hf, hv0]
        · by_cases h2 : is[k] > 8191
          · have hf : is.all kidOk = false := all_false h (by simp [kidOk]; omega)
            (apply w_sq; apply w_sq; apply w_reg; apply w_mvi; rfl; apply w_fld; rfl; apply w_ld; rfl; exact hc_i 0 rfl rfl; apply w_len; rfl; apply w_lss; rfl; rfl; apply w_done0; refine w_ifdT rfl (by omega) ?_; apply w_skip; apply w_sq; apply w_block; apply w_sq; apply w_reg; apply w_fld; rfl; apply w_ld; rfl; exact hc_i 0 rfl rfl; apply w_mvi; rfl; apply w_idx; rfl; rfl; rfl; omega; assumption; apply w_ld; rfl; exact hc_d (by assumption); apply w_lss; rfl; rfl; apply w_mvb; rfl; refine w_gdF rfl (by omega) ?_; apply w_gT; rfl; apply w_fld; rfl; apply w_gT; rfl; apply w_ld; rfl; exact hc_i 0 rfl rfl; apply w_gT; rfl; apply w_mvi; rfl; apply w_gT; rfl; apply w_idx; rfl; rfl; rfl; omega; assumption; apply w_gT; rfl; apply w_ld; rfl; exact hc_d (by assumption); apply w_gT; rfl; apply w_gtr; rfl; rfl; apply w_pickFb; rfl; rfl; apply w_done0; refine w_ifdT rfl (by omega) ?_; apply w_sq; apply w_reg; apply w_mvb; rfl; apply w_done0; apply w_ret)
            (apply finPb; rfl)
            have hv0 : ¬ is.length = 0 := by omega
            cases lf <;> simp [soundB, hf, hv0]
          · (apply w_sq; apply w_sq; apply w_reg; apply w_mvi; rfl; apply w_fld; rfl; apply w_ld; rfl; exact hc_i 0 rfl rfl; apply w_len; rfl; apply w_lss; rfl; rfl; apply w_done0; refine w_ifdT rfl (by omega) ?_; apply w_skip; apply w_sq; apply w_block; apply w_sq; apply w_reg; apply w_fld; rfl; apply w_ld; rfl; exact hc_i 0 rfl rfl; apply w_mvi; rfl; apply w_idx; rfl; rfl; rfl; omega; assumption; apply w_ld; rfl; exact hc_d (by assumption); apply w_lss; rfl; rfl; apply w_mvb; rfl; refine w_gdF rfl (by omega) ?_; apply w_gT; rfl; apply w_fld; rfl; apply w_gT; rfl; apply w_ld; rfl; exact hc_i 0 rfl rfl; apply w_gT; rfl; apply w_mvi; rfl; apply w_gT; rfl; apply w_idx; rfl; rfl; rfl; omega; assumption; apply w_gT; rfl; apply w_ld; rfl; exact hc_d (by assumption); apply w_gT; rfl; apply w_gtr; rfl; rfl; apply w_pickFb; rfl; rfl; apply w_done0; refine w_ifdF rfl (by omega) ?_; apply w_skip; apply w_reg; apply w_mvi; rfl; apply w_add; rfl; rfl; omega; omega; apply w_mvi; rfl; apply w_done0)
            exact ⟨k + 1, by omega, ⟨rfl, int_eq (by omega), trivial⟩, rfl, rfl, by omega, all_take h hik (by simp [kidOk]; omega)⟩
      · have e : k = is.length := by omega
        subst e
        rw [List.take_length] at hik
        cases lf
        · by_cases h1 : vs.length = 0
          · by_cases h2 : is.length = ks.length + 1
            · (apply w_sq; apply w_sq; apply w_reg; apply w_mvi; rfl; apply w_fld; rfl; apply w_ld; rfl; exact hc_i 0 rfl rfl; apply w_len; rfl; apply w_lss; rfl; rfl; apply w_done0; refine w_ifdF rfl (by omega) ?_; apply w_exit; apply w_sq; apply w_sq; apply w_reg; apply w_fld; rfl; apply w_ld; rfl; exact hc_i 0 rfl rfl; apply w_done0; apply w_ifF; rfl; apply w_skip; apply w_sq; apply w_reg; apply w_fld; rfl; apply w_ld; rfl; exact hc_i 0 rfl rfl; apply w_len; rfl; apply w_eql; rfl; rfl; apply w_mvb; rfl; refine w_gdT rfl (by omega) ?_; apply w_gT; rfl; apply w_fld; rfl; apply w_gT; rfl; apply w_ld; rfl; exact hc_i 0 rfl rfl; apply w_gT; rfl; apply w_len; rfl; apply w_gT; rfl; apply w_fld; rfl; apply w_gT; rfl; apply w_ld; rfl; exact hc_i 0 rfl rfl; apply w_gT; rfl; apply w_len; rfl; apply w_gT; rfl; apply w_add; rfl; rfl; omega; omega; apply w_gT; rfl; apply w_eql; rfl; rfl; apply w_pickTb; rfl; rfl; apply w_mvb; rfl; apply w_done0; apply w_ret)
              (apply finPb; rfl)
              simp [soundB, hok, hik, h1, h2]
            · (apply w_sq; apply w_sq; apply w_reg; apply w_mvi; rfl; apply w_fld; rfl; apply w_ld; rfl; exact hc_i 0 rfl rfl; apply w_len; rfl; apply w_lss; rfl; rfl; apply w_done0; refine w_ifdF rfl (by omega) ?_; apply w_exit; apply w_sq; apply w_sq; apply w_reg; apply w_fld; rfl; apply w_ld; rfl; exact hc_i 0 rfl rfl; apply w_done0; apply w_ifF; rfl; apply w_skip; apply w_sq; apply w_reg; apply w_fld; rfl; apply w_ld; rfl; exact hc_i 0 rfl rfl; apply w_len; rfl; apply w_eql; rfl; rfl; apply w_mvb; rfl; refine w_gdT rfl (by omega) ?_; apply w_gT; rfl; apply w_fld; rfl; apply w_gT; rfl; apply w_ld; rfl; exact hc_i 0 rfl rfl; apply w_gT; rfl; apply w_len; rfl; apply w_gT; rfl; apply w_fld; rfl; apply w_gT; rfl; apply w_ld; rfl; exact hc_i 0 rfl rfl; apply w_gT; rfl; apply w_len; rfl; apply w_gT; rfl; apply w_add; rfl; rfl; omega; omega; apply w_gT; rfl; apply w_eql; rfl; rfl; apply w_pickTb; rfl; rfl; apply w_mvb; rfl; apply w_done0; apply w_ret)
              (apply finPb; rfl)
              (first | (simp [soundB, hok, h1, h2]; done) | (simp [soundB, hok, h1, h2]; omega))
          · (apply w_sq; apply w_sq; apply w_reg; apply w_mvi; rfl; apply w_fld; rfl; apply w_ld; rfl; exact hc_i 0 rfl rfl; apply w_len; rfl; apply w_lss; rfl; rfl; apply w_done0; refine w_ifdF rfl (by omega) ?_; apply w_exit; apply w_sq; apply w_sq; apply w_reg; apply w_fld; rfl; apply w_ld; rfl; exact hc_i 0 rfl rfl; apply w_done0; apply w_ifF; rfl; apply w_skip; apply w_sq; apply w_reg; apply w_fld; rfl; apply w_ld; rfl; exact hc_i 0 rfl rfl; apply w_len; rfl; apply w_eql; rfl; rfl; apply w_mvb; rfl; refine w_gdF rfl (by omega) ?_; apply w_gF; rfl; apply w_gF; rfl; apply w_gF; rfl; apply w_gF; rfl; apply w_gF; rfl; apply w_gF; rfl; apply w_gF; rfl; apply w_gF; rfl; apply w_pickFb; rfl; rfl; apply w_mvb; rfl; apply w_done0; apply w_ret)
            (apply finPb; rfl)
            simp [soundB, h1]
        · by_cases h1 : is.length = 0
          · by_cases h2 : vs.length = ks.length
            · (apply w_sq; apply w_sq; apply w_reg; apply w_mvi; rfl; apply w_fld; rfl; apply w_ld; rfl; exact hc_i 0 rfl rfl; apply w_len; rfl; apply w_lss; rfl; rfl; apply w_done0; refine w_ifdF rfl (by omega) ?_; apply w_exit; apply w_sq; apply w_sq; apply w_reg; apply w_fld; rfl; apply w_ld; rfl; exact hc_i 0 rfl rfl; apply w_done0; apply w_ifT; rfl; apply w_sq; apply w_reg; apply w_fld; rfl; apply w_ld; rfl; exact hc_i 0 rfl rfl; apply w_len; rfl; apply w_eql; rfl; rfl; apply w_mvb; rfl; refine w_gdT rfl (by omega) ?_; apply w_gT; rfl; apply w_fld; rfl; apply w_gT; rfl; apply w_ld; rfl; exact hc_i 0 rfl rfl; apply w_gT; rfl; apply w_len; rfl; apply w_gT; rfl; apply w_fld; rfl; apply w_gT; rfl; apply w_ld; rfl; exact hc_i 0 rfl rfl; apply w_gT; rfl; apply w_len; rfl; apply w_gT; rfl; apply w_eql; rfl; rfl; apply w_pickTb; rfl; rfl; apply w_mvb; rfl; apply w_done0; apply w_ret)
              (apply finPb; rfl)
              simp [soundB, hok, hvk, h1, h2]
            · (apply w_sq; apply w_sq; apply w_reg; apply w_mvi; rfl; apply w_fld; rfl; apply w_ld; rfl; exact hc_i 0 rfl rfl; apply w_len; rfl; apply w_lss; rfl; rfl; apply w_done0; refine w_ifdF rfl (by omega) ?_; apply w_exit; apply w_sq; apply w_sq; apply w_reg; apply w_fld; rfl; apply w_ld; rfl; exact hc_i 0 rfl rfl; apply w_done0; apply w_ifT; rfl; apply w_sq; apply w_reg; apply w_fld; rfl; apply w_ld; rfl; exact hc_i 0 rfl rfl; apply w_len; rfl; apply w_eql; rfl; rfl; apply w_mvb; rfl; refine w_gdT rfl (by omega) ?_; apply w_gT; rfl; apply w_fld; rfl; apply w_gT; rfl; apply w_ld; rfl; exact hc_i 0 rfl rfl; apply w_gT; rfl; apply w_len; rfl; apply w_gT; rfl; apply w_fld; rfl; apply w_gT; rfl; apply w_ld; rfl; exact hc_i 0 rfl rfl; apply w_gT; rfl; apply w_len; rfl; apply w_gT; rfl; apply w_eql; rfl; rfl; apply w_pickTb; rfl; rfl; apply w_mvb; rfl; apply w_done0; apply w_ret)
              (apply finPb; rfl)
              (first | (simp [soundB, hok, h1, h2]; done) | (simp [soundB, hok, h1, h2]; omega))
          · (apply w_sq; apply w_sq; apply w_reg; apply w_mvi; rfl; apply w_fld; rfl; apply w_ld; rfl; exact hc_i 0 rfl rfl; apply w_len; rfl; apply w_lss; rfl; rfl; apply w_done0; refine w_ifdF rfl (by omega) ?_; apply w_exit; apply w_sq; apply w_sq; apply w_reg; apply w_fld; rfl; apply w_ld; rfl; exact hc_i 0 rfl rfl; apply w_done0; apply w_ifT; rfl; apply w_sq; apply w_reg; apply w_fld; rfl; apply w_ld; rfl; exact hc_i 0 rfl rfl; apply w_len; rfl; apply w_eql; rfl; rfl; apply w_mvb; rfl; refine w_gdF rfl (by omega) ?_; apply w_gF; rfl; apply w_gF; rfl; apply w_gF; rfl; apply w_gF; rfl; apply w_gF; rfl; apply w_gF; rfl; apply w_gF; rfl; apply w_pickFb; rfl; rfl; apply w_mvb; rfl; apply w_done0; apply w_ret)
            (apply finPb; rfl)
            simp [soundB, h1]
end Go.Gk.Node
