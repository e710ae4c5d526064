/-
  Our own texts, one behind the other: GkKL GkKH GkKM GkKN GkKP.
-/
import Derived.Test.YtjhoaohpfbgfpaaDoorPkG
section
namespace Go.Gk.Val
open Go Go.Gk Go.Gk.Num
attribute [local irreducible] gwp gws

def opt : Option Nat → Int
  | none => -1
  | some k => k
def RReadDigitOk (P : Program) (f : FuncId) : Prop := ∀ {d : PHeap} {vb : Value} {b : List UInt8} {n : Nat}, RSl 1 RByte d vb b → n ≤ b.length → b.length ≤ 1000000000 →
  GCall P f [vb, .int .i64 (n : Nat)] d [] (Ret fun r d' L' => d' = d ∧ L' = [] ∧ ∃ m e o, r = .tuple #[.agg [.int .i64 m, .int .i64 e].toArray, .int .i64 (opt o)] ∧ I64 m ∧ I64 e ∧ (∀ k, o = some k → n < k ∧ k ≤ b.length) ∧
    ∀ m' e' r, numRight m' e' = true → b.drop n = keyN m' e' ++ r → m = m' ∧ e = e' ∧ ∃ k, o = some k ∧ b.drop k = r)
theorem tn255 {x : Int} (h1 : 0 ≤ x) (h2 : x ≤ 255) : (tn 255 (UInt8.ofNat (x % 256).toNat)).toNat = 255 - x.toNat := by
  rw [tn, show (255 : UInt8) = -1 from rfl, UInt8.neg_one_xor, UInt8.toNat_not]; simp; omega
theorem tn000 {x : Int} (h1 : 0 ≤ x) (h2 : x ≤ 255) : (tn 0 (UInt8.ofNat (x % 256).toNat)).toNat = x.toNat := by
  rw [tn0]; simp; omega
theorem dig_255 {a : Nat} (h : a < 10) : (gD 255 a).toNat = 254 - a := by
  rw [gD, tn, show (255 : UInt8) = -1 from rfl, UInt8.neg_one_xor, UInt8.toNat_not]; simp; omega
theorem dig_0 {a : Nat} (h : a < 10) : (gD 0 a).toNat = a + 1 := by
  rw [gD, tn0]; simp; omega
def g_thimbleref05_readDigit : GFun :=
 ⟨128, [(.cell 4 (some 2)), (.tmp 5)],
 (.seq
 (.reg false (.op false ⟨(some 4), none, (.alo (.agg #[(.int .i64 0), (.int .i64 0)]))⟩
  (.op false ⟨(some 5), none, (.mv (.const (.int .i64 0)))⟩ .done)))
 (.seq (.seq
 (.reg false (.op false ⟨(some 11), none, (.mv (.tmp 1))⟩
  (.op false ⟨(some 12), none, (.mv (.tmp 0))⟩
  (.op false ⟨(some 13), none, (.len (.tmp 12))⟩
  (.op false ⟨(some 14), none, (.bin .geq (.tmp 11) (.tmp 13))⟩
  (.op false ⟨(some 15), none, (.mv (.tmp 14))⟩
  (.op false ⟨(some 16), (some (15, false)), (.mv (.tmp 0))⟩
  (.op false ⟨(some 17), (some (15, false)), (.mv (.tmp 1))⟩
  (.op false ⟨(some 18), (some (15, false)), (.idx 1 (.tmp 16) (.tmp 17))⟩
  (.op false ⟨(some 19), (some (15, false)), (.ld none (.tmp 18))⟩
  (.op false ⟨(some 20), (some (15, false)), (.bin .lss (.tmp 19) (.const (.int .u8 1)))⟩
  (.op false ⟨(some 21), none, (.pick (.tmp 15) (.const (.bool true)) (.tmp 20))⟩
  (.op false ⟨(some 22), none, (.mv (.tmp 21))⟩
  (.op false ⟨(some 23), (some (22, false)), (.mv (.tmp 0))⟩
  (.op false ⟨(some 24), (some (22, false)), (.mv (.tmp 1))⟩
  (.op false ⟨(some 25), (some (22, false)), (.idx 1 (.tmp 23) (.tmp 24))⟩
  (.op false ⟨(some 26), (some (22, false)), (.ld none (.tmp 25))⟩
  (.op false ⟨(some 27), (some (22, false)), (.bin .gtr (.tmp 26) (.const (.int .u8 3)))⟩
  (.op false ⟨(some 28), none, (.pick (.tmp 22) (.const (.bool true)) (.tmp 27))⟩ .done))))))))))))))))))) (.cond (.tmp 28)
 (.seq
 (.reg false (.op false ⟨(some 29), none, (.bld [(0, 1), (1, 1)] [(.int .i64 0), (.int .i64 0)] [])⟩
  (.op false ⟨none, none, (.st 2 (.tmp 4) (.tmp 29))⟩
  (.op false ⟨(some 5), none, (.mv (.const (.int .i64 (-1))))⟩ .done)))) .ret) .skip))
 (.seq (.seq
 (.reg false (.op false ⟨(some 30), none, (.mv (.tmp 0))⟩
  (.op false ⟨(some 31), none, (.mv (.tmp 1))⟩
  (.op false ⟨(some 32), none, (.idx 1 (.tmp 30) (.tmp 31))⟩
  (.op false ⟨(some 33), none, (.ld none (.tmp 32))⟩
  (.op false ⟨(some 34), none, (.bin .eql (.tmp 33) (.const (.int .u8 2)))⟩ .done)))))) (.cond (.tmp 34)
 (.seq
 (.reg false (.op false ⟨(some 35), none, (.bld [(0, 1), (1, 1)] [(.int .i64 0), (.int .i64 0)] [])⟩
  (.op false ⟨(some 36), none, (.mv (.tmp 1))⟩
  (.op false ⟨(some 37), none, (.bin .add (.tmp 36) (.const (.int .i64 1)))⟩
  (.op false ⟨none, none, (.st 2 (.tmp 4) (.tmp 35))⟩
  (.op false ⟨(some 5), none, (.mv (.tmp 37))⟩ .done)))))) .ret) .skip))
 (.seq
 (.reg false (.op false ⟨(some 38), none, (.mv (.tmp 1))⟩
  (.op false ⟨(some 39), none, (.bin .add (.tmp 38) (.const (.int .i64 2)))⟩
  (.op false ⟨(some 6), none, (.mv (.tmp 39))⟩ .done))))
 (.seq
 (.reg false (.op false ⟨(some 7), none, (.mv (.const (.int .u8 0)))⟩ .done))
 (.seq (.seq
 (.reg false (.op false ⟨(some 40), none, (.mv (.tmp 0))⟩
  (.op false ⟨(some 41), none, (.mv (.tmp 1))⟩
  (.op false ⟨(some 42), none, (.idx 1 (.tmp 40) (.tmp 41))⟩
  (.op false ⟨(some 43), none, (.ld none (.tmp 42))⟩
  (.op false ⟨(some 44), none, (.bin .eql (.tmp 43) (.const (.int .u8 1)))⟩ .done)))))) (.cond (.tmp 44)
 (.reg false (.op false ⟨(some 7), none, (.mv (.const (.int .u8 255)))⟩ .done)) .skip))
 (.seq
 (.reg false (.op false ⟨(some 8), none, (.mv (.const (.int .i64 0)))⟩ .done))
 (.seq (.block 0 (.loop
 (.seq (.seq
 (.reg false (.op false ⟨(some 45), none, (.mv (.tmp 6))⟩
  (.op false ⟨(some 46), none, (.mv (.tmp 0))⟩
  (.op false ⟨(some 47), none, (.len (.tmp 46))⟩
  (.op false ⟨(some 48), none, (.bin .lss (.tmp 45) (.tmp 47))⟩
  (.op false ⟨(some 49), none, (.mv (.tmp 48))⟩
  (.op false ⟨(some 50), (some (49, true)), (.mv (.tmp 0))⟩
  (.op false ⟨(some 51), (some (49, true)), (.mv (.tmp 6))⟩
  (.op false ⟨(some 52), (some (49, true)), (.idx 1 (.tmp 50) (.tmp 51))⟩
  (.op false ⟨(some 53), (some (49, true)), (.ld none (.tmp 52))⟩
  (.op false ⟨(some 54), (some (49, true)), (.mv (.tmp 7))⟩
  (.op false ⟨(some 55), (some (49, true)), (.bin .neq (.tmp 53) (.tmp 54))⟩
  (.op false ⟨(some 56), none, (.pick (.tmp 49) (.tmp 55) (.const (.bool false)))⟩
  (.op false ⟨(some 57), none, (.mv (.tmp 56))⟩
  (.op false ⟨(some 58), (some (57, true)), (.mv (.tmp 6))⟩
  (.op false ⟨(some 59), (some (57, true)), (.mv (.tmp 1))⟩
  (.op false ⟨(some 60), (some (57, true)), (.bin .add (.tmp 59) (.const (.int .i64 21)))⟩
  (.op false ⟨(some 61), (some (57, true)), (.bin .lss (.tmp 58) (.tmp 60))⟩
  (.op false ⟨(some 62), none, (.pick (.tmp 57) (.tmp 61) (.const (.bool false)))⟩ .done))))))))))))))))))) (.cond (.tmp 62) .skip (.exit 0))) (.block 1
 (.seq
 (.reg false (.op false ⟨(some 63), none, (.mv (.tmp 0))⟩
  (.op false ⟨(some 64), none, (.mv (.tmp 6))⟩
  (.op false ⟨(some 65), none, (.idx 1 (.tmp 63) (.tmp 64))⟩
  (.op false ⟨(some 66), none, (.ld none (.tmp 65))⟩
  (.op false ⟨(some 67), none, (.cvi .i64 (.tmp 66))⟩
  (.op false ⟨(some 68), none, (.bin .sub (.tmp 67) (.const (.int .i64 1)))⟩
  (.op false ⟨(some 9), none, (.mv (.tmp 68))⟩ .done))))))))
 (.seq (.seq
 (.reg false (.op false ⟨(some 69), none, (.mv (.tmp 0))⟩
  (.op false ⟨(some 70), none, (.mv (.tmp 1))⟩
  (.op false ⟨(some 71), none, (.idx 1 (.tmp 69) (.tmp 70))⟩
  (.op false ⟨(some 72), none, (.ld none (.tmp 71))⟩
  (.op false ⟨(some 73), none, (.bin .eql (.tmp 72) (.const (.int .u8 1)))⟩ .done)))))) (.cond (.tmp 73)
 (.reg false (.op false ⟨(some 74), none, (.mv (.tmp 0))⟩
  (.op false ⟨(some 75), none, (.mv (.tmp 6))⟩
  (.op false ⟨(some 76), none, (.idx 1 (.tmp 74) (.tmp 75))⟩
  (.op false ⟨(some 77), none, (.ld none (.tmp 76))⟩
  (.op false ⟨(some 78), none, (.cvi .i64 (.tmp 77))⟩
  (.op false ⟨(some 79), none, (.bin .sub (.const (.int .i64 254)) (.tmp 78))⟩
  (.op false ⟨(some 9), none, (.mv (.tmp 79))⟩ .done)))))))) .skip))
 (.seq
 (.reg false (.op false ⟨(some 80), none, (.mv (.tmp 8))⟩
  (.op false ⟨(some 81), none, (.bin .mul (.tmp 80) (.const (.int .i64 10)))⟩
  (.op false ⟨(some 82), none, (.mv (.tmp 9))⟩
  (.op false ⟨(some 83), none, (.bin .add (.tmp 81) (.tmp 82))⟩
  (.op false ⟨(some 8), none, (.mv (.tmp 83))⟩ .done))))))
 (.reg false (.op false ⟨(some 84), none, (.mv (.tmp 6))⟩
  (.op false ⟨(some 85), none, (.bin .add (.tmp 84) (.const (.int .i64 1)))⟩
  (.op false ⟨(some 6), none, (.mv (.tmp 85))⟩ .done)))))))))))
 (.seq (.seq
 (.reg false (.op false ⟨(some 86), none, (.mv (.tmp 6))⟩
  (.op false ⟨(some 87), none, (.mv (.tmp 0))⟩
  (.op false ⟨(some 88), none, (.len (.tmp 87))⟩
  (.op false ⟨(some 89), none, (.bin .geq (.tmp 86) (.tmp 88))⟩
  (.op false ⟨(some 90), none, (.mv (.tmp 89))⟩
  (.op false ⟨(some 91), (some (90, false)), (.mv (.tmp 6))⟩
  (.op false ⟨(some 92), (some (90, false)), (.mv (.tmp 1))⟩
  (.op false ⟨(some 93), (some (90, false)), (.bin .add (.tmp 92) (.const (.int .i64 21)))⟩
  (.op false ⟨(some 94), (some (90, false)), (.bin .geq (.tmp 91) (.tmp 93))⟩
  (.op false ⟨(some 95), none, (.pick (.tmp 90) (.const (.bool true)) (.tmp 94))⟩ .done))))))))))) (.cond (.tmp 95)
 (.seq
 (.reg false (.op false ⟨(some 96), none, (.bld [(0, 1), (1, 1)] [(.int .i64 0), (.int .i64 0)] [])⟩
  (.op false ⟨none, none, (.st 2 (.tmp 4) (.tmp 96))⟩
  (.op false ⟨(some 5), none, (.mv (.const (.int .i64 (-1))))⟩ .done)))) .ret) .skip))
 (.seq
 (.reg false (.op false ⟨(some 97), none, (.mv (.tmp 0))⟩
  (.op false ⟨(some 98), none, (.mv (.tmp 1))⟩
  (.op false ⟨(some 99), none, (.bin .add (.tmp 98) (.const (.int .i64 1)))⟩
  (.op false ⟨(some 100), none, (.idx 1 (.tmp 97) (.tmp 99))⟩
  (.op false ⟨(some 101), none, (.ld none (.tmp 100))⟩
  (.op false ⟨(some 102), none, (.cvi .i64 (.tmp 101))⟩
  (.op false ⟨(some 103), none, (.bin .sub (.tmp 102) (.const (.int .i64 100)))⟩
  (.op false ⟨(some 10), none, (.mv (.tmp 103))⟩ .done)))))))))
 (.seq (.seq
 (.reg false (.op false ⟨(some 104), none, (.mv (.tmp 0))⟩
  (.op false ⟨(some 105), none, (.mv (.tmp 1))⟩
  (.op false ⟨(some 106), none, (.idx 1 (.tmp 104) (.tmp 105))⟩
  (.op false ⟨(some 107), none, (.ld none (.tmp 106))⟩
  (.op false ⟨(some 108), none, (.bin .eql (.tmp 107) (.const (.int .u8 1)))⟩ .done)))))) (.cond (.tmp 108)
 (.seq
 (.reg false (.op false ⟨(some 109), none, (.mv (.tmp 8))⟩
  (.op false ⟨(some 110), none, (.un .neg (.tmp 109))⟩
  (.op false ⟨(some 8), none, (.mv (.tmp 110))⟩ .done))))
 (.reg false (.op false ⟨(some 111), none, (.mv (.tmp 0))⟩
  (.op false ⟨(some 112), none, (.mv (.tmp 1))⟩
  (.op false ⟨(some 113), none, (.bin .add (.tmp 112) (.const (.int .i64 1)))⟩
  (.op false ⟨(some 114), none, (.idx 1 (.tmp 111) (.tmp 113))⟩
  (.op false ⟨(some 115), none, (.ld none (.tmp 114))⟩
  (.op false ⟨(some 116), none, (.cvi .i64 (.tmp 115))⟩
  (.op false ⟨(some 117), none, (.bin .sub (.const (.int .i64 155)) (.tmp 116))⟩
  (.op false ⟨(some 10), none, (.mv (.tmp 117))⟩ .done)))))))))) .skip))
 (.seq
 (.reg false (.op false ⟨(some 118), none, (.mv (.tmp 8))⟩
  (.op false ⟨(some 119), none, (.mv (.tmp 10))⟩
  (.op false ⟨(some 120), none, (.mv (.tmp 6))⟩
  (.op false ⟨(some 121), none, (.mv (.tmp 1))⟩
  (.op false ⟨(some 122), none, (.bin .sub (.tmp 120) (.tmp 121))⟩
  (.op false ⟨(some 123), none, (.bin .sub (.tmp 122) (.const (.int .i64 2)))⟩
  (.op false ⟨(some 124), none, (.bin .sub (.tmp 119) (.tmp 123))⟩
  (.op false ⟨(some 125), none, (.bld [(0, 1), (1, 1)] [(.int .i64 0), (.int .i64 0)] [(0, (.tmp 118)), (1, (.tmp 124))])⟩
  (.op false ⟨(some 126), none, (.mv (.tmp 6))⟩
  (.op false ⟨(some 127), none, (.bin .add (.tmp 126) (.const (.int .i64 1)))⟩
  (.op false ⟨none, none, (.st 2 (.tmp 4) (.tmp 125))⟩
  (.op false ⟨(some 5), none, (.mv (.tmp 127))⟩ .done))))))))))))) .ret))))))))))))⟩

set_option maxHeartbeats 1000000 in
theorem rreaddigit_ok {P : Program} {f : FuncId} (hd : dec P f = some g_thimbleref05_readDigit) : RReadDigitOk P f := by
  intro d vb b n hb hn hbl
  refine GCall_of hd (Nat.le_of_ble_eq_true rfl) ?_
  obtain ⟨ba, bc, rfl⟩ := RSl.val hb
  have hb' : RSl 1 RByte d (.slice ba b.length bc) b := hb
  show gwp P _ _ _ _ _
  apply w_sq; apply w_reg
  refine w_alo (fun b4 T4 => ?_)
  by_cases hc : n < b.length
  rotate_left
  · (apply w_mvi; rfl; apply w_done0; apply w_sq; apply w_sq; apply w_reg; apply w_mvi; rfl; apply w_mvs; rfl; apply w_len; rfl; apply w_geq; rfl; rfl; apply w_mvb; rfl; refine w_gdT rfl (by omega) ?_; apply w_gF; rfl; apply w_gF; rfl; apply w_gF; rfl; apply w_gF; rfl; apply w_gF; rfl; apply w_pickTb; rfl; rfl; apply w_mvb; rfl; apply w_gF; rfl; apply w_gF; rfl; apply w_gF; rfl; apply w_gF; rfl; apply w_gF; rfl; apply w_pickTb; rfl; rfl; apply w_done0; apply w_ifT; rfl; apply w_sq; apply w_reg; apply w_bld; rfl)
    refine w_stE 0 [.int .i64 0, .int .i64 0] rfl rfl rfl rfl (Nat.le_of_ble_eq_true rfl) rfl rfl ?_
    (apply w_mvi; rfl; apply w_done0; apply w_ret)
    exact finS (L' := []) [.agg [.int .i64 0, .int .i64 0].toArray, .int .i64 (-1)] ⟨res_cell 0 rfl rfl rfl, rfl, trivial⟩ (List.nil_sublist _) ⟨rfl, rfl, 0, 0, none, rfl, i64_0, i64_0, (fun k h => by cases h), fun m' e' r _ h => absurd (h.symm.trans (List.drop_eq_nil_of_le (by omega))) keyN_ne⟩
  have hdk := List.drop_eq_getElem_cons hc
  have hcl := b[n].toNat_lt
  by_cases hs : b[n] = 1 ∨ b[n] = 2 ∨ b[n] = 3
  rotate_left
  · have hs1 : ((b[n].toNat : Nat) : Int) < 1 ∨ (3 : Int) < ((b[n].toNat : Nat) : Int) := by
      rcases Nat.lt_trichotomy b[n].toNat 2 with h | h | h
      · have : b[n].toNat ≠ 1 := fun e => hs (.inl (UInt8.toNat_inj.1 e)); omega
      · exact absurd (.inr (.inl (UInt8.toNat_inj.1 h))) hs
      · have : b[n].toNat ≠ 3 := fun e => hs (.inr (.inr (UInt8.toNat_inj.1 e))); omega
    by_cases hs2 : ((b[n].toNat : Nat) : Int) < 1
    · (apply w_mvi; rfl; apply w_done0; apply w_sq; apply w_sq; apply w_reg; apply w_mvi; rfl; apply w_mvs; rfl; apply w_len; rfl; apply w_geq; rfl; rfl; apply w_mvb; rfl; refine w_gdF rfl (by omega) ?_; apply w_gT; rfl; apply w_mvs; rfl; apply w_gT; rfl; apply w_mvi; rfl; apply w_gT; rfl; refine w_idxR (sz := 1) (R := RByte) (by rfl) (by assumption) (by rfl) rfl (by omega) ?_; rintro _ _ _ _ _ rfl; apply w_gT; rfl; apply w_ld; rfl; exact hc_ds0 (by assumption) rfl; apply w_gT; rfl; apply w_lss; rfl; rfl; apply w_pickFb; rfl; rfl; apply w_mvb; rfl; refine w_gdT rfl (by omega) ?_; apply w_gF; rfl; apply w_gF; rfl; apply w_gF; rfl; apply w_gF; rfl; apply w_gF; rfl; apply w_pickTb; rfl; rfl; apply w_done0; apply w_ifT; rfl; apply w_sq; apply w_reg; apply w_bld; rfl)
      refine w_stE 0 [.int .i64 0, .int .i64 0] rfl rfl rfl rfl (Nat.le_of_ble_eq_true rfl) rfl rfl ?_
      (apply w_mvi; rfl; apply w_done0; apply w_ret)
      exact finS (L' := []) [.agg [.int .i64 0, .int .i64 0].toArray, .int .i64 (-1)] ⟨res_cell 0 rfl rfl rfl, rfl, trivial⟩ (List.nil_sublist _) ⟨rfl, rfl, 0, 0, none, rfl, i64_0, i64_0, (fun k h => by cases h), fun m' e' r _ h => absurd (keyN_head (h.symm.trans hdk)) hs⟩
    · have hs3 : (3 : Int) < ((b[n].toNat : Nat) : Int) := by omega
      (apply w_mvi; rfl; apply w_done0; apply w_sq; apply w_sq; apply w_reg; apply w_mvi; rfl; apply w_mvs; rfl; apply w_len; rfl; apply w_geq; rfl; rfl; apply w_mvb; rfl; refine w_gdF rfl (by omega) ?_; apply w_gT; rfl; apply w_mvs; rfl; apply w_gT; rfl; apply w_mvi; rfl; apply w_gT; rfl; refine w_idxR (sz := 1) (R := RByte) (by rfl) (by assumption) (by rfl) rfl (by omega) ?_; rintro _ _ _ _ _ rfl; apply w_gT; rfl; apply w_ld; rfl; exact hc_ds0 (by assumption) rfl; apply w_gT; rfl; apply w_lss; rfl; rfl; apply w_pickFb; rfl; rfl; apply w_mvb; rfl; refine w_gdF rfl (by omega) ?_; apply w_gT; rfl; apply w_mvs; rfl; apply w_gT; rfl; apply w_mvi; rfl; apply w_gT; rfl; refine w_idxR (sz := 1) (R := RByte) (by rfl) (by assumption) (by rfl) rfl (by omega) ?_; rintro _ _ _ _ _ rfl; apply w_gT; rfl; apply w_ld; rfl; exact hc_ds0 (by assumption) rfl; apply w_gT; rfl; apply w_gtr; rfl; rfl; apply w_pickFb; rfl; rfl; apply w_done0; refine w_ifdT rfl (by omega) ?_; apply w_sq; apply w_reg; apply w_bld; rfl)
      refine w_stE 0 [.int .i64 0, .int .i64 0] rfl rfl rfl rfl (Nat.le_of_ble_eq_true rfl) rfl rfl ?_
      (apply w_mvi; rfl; apply w_done0; apply w_ret)
      exact finS (L' := []) [.agg [.int .i64 0, .int .i64 0].toArray, .int .i64 (-1)] ⟨res_cell 0 rfl rfl rfl, rfl, trivial⟩ (List.nil_sublist _) ⟨rfl, rfl, 0, 0, none, rfl, i64_0, i64_0, (fun k h => by cases h), fun m' e' r _ h => absurd (keyN_head (h.symm.trans hdk)) hs⟩
  by_cases s2 : b[n] = 2
  · have s2' : ((b[n].toNat : Nat) : Int) = 2 := by rw [s2]; rfl
    (apply w_mvi; rfl; apply w_done0; apply w_sq; apply w_sq; apply w_reg; apply w_mvi; rfl; apply w_mvs; rfl; apply w_len; rfl; apply w_geq; rfl; rfl; apply w_mvb; rfl; refine w_gdF rfl (by omega) ?_; apply w_gT; rfl; apply w_mvs; rfl; apply w_gT; rfl; apply w_mvi; rfl; apply w_gT; rfl; refine w_idxR (sz := 1) (R := RByte) (by rfl) (by assumption) (by rfl) rfl (by omega) ?_; rintro _ _ _ _ _ rfl; apply w_gT; rfl; apply w_ld; rfl; exact hc_ds0 (by assumption) rfl; apply w_gT; rfl; apply w_lss; rfl; rfl; apply w_pickFb; rfl; rfl; apply w_mvb; rfl; refine w_gdF rfl (by omega) ?_; apply w_gT; rfl; apply w_mvs; rfl; apply w_gT; rfl; apply w_mvi; rfl; apply w_gT; rfl; refine w_idxR (sz := 1) (R := RByte) (by rfl) (by assumption) (by rfl) rfl (by omega) ?_; rintro _ _ _ _ _ rfl; apply w_gT; rfl; apply w_ld; rfl; exact hc_ds0 (by assumption) rfl; apply w_gT; rfl; apply w_gtr; rfl; rfl; apply w_pickFb; rfl; rfl; apply w_done0; refine w_ifdF rfl (by omega) ?_; apply w_skip; apply w_sq; apply w_sq; apply w_reg; apply w_mvs; rfl; apply w_mvi; rfl; refine w_idxR (sz := 1) (R := RByte) (by rfl) (by assumption) (by rfl) rfl (by omega) ?_; rintro _ _ _ _ _ rfl; apply w_ld; rfl; exact hc_ds0 (by assumption) rfl; apply w_eql; rfl; rfl; apply w_done0; refine w_ifdT rfl (by omega) ?_; apply w_sq; apply w_reg; apply w_bld; rfl; apply w_mvi; rfl; apply w_add; rfl; rfl; omega; omega)
    refine w_stE 0 [.int .i64 0, .int .i64 0] rfl rfl rfl rfl (Nat.le_of_ble_eq_true rfl) rfl rfl ?_
    (apply w_mvi; rfl; apply w_done0; apply w_ret)
    refine finS (L' := []) [.agg [.int .i64 0, .int .i64 0].toArray, .int .i64 ((n + 1 : Nat) : Int)] ⟨res_cell 0 rfl rfl rfl, rfl, trivial⟩ (List.nil_sublist _) ⟨rfl, rfl, 0, 0, some (n + 1), rfl, i64_0, i64_0, (fun k h => by cases h; exact ⟨by omega, hc⟩), fun m' e' r hr h => ?_⟩
    rw [hdk, s2] at h
    have h0 : m' = 0 := Classical.byContradiction fun h0 => by
      rw [keyN, if_neg h0] at h
      split at h <;> simp at h
    subst h0
    have he : e' = 0 := by rw [numRight, if_pos rfl] at hr; exact of_decide_eq_true hr
    refine ⟨rfl, he.symm, n + 1, rfl, ?_⟩
    simpa [keyN] using h
  have s2' : ((b[n].toNat : Nat) : Int) ≠ 2 := fun e => s2 (UInt8.toNat_inj.1 (show b[n].toNat = 2 by omega))
  have hfree : ∀ {neg : Bool}, b[n] = sB neg → ∀ {m' e' r}, numRight m' e' = true → b.drop n = keyN m' e' ++ r → m' ≠ 0 ∧ (m' < 0 ↔ neg = true) ∧ ∃ hx : n + 1 < b.length, b[n + 1] = tn (tB neg) (UInt8.ofNat ((100 + ((digN m'.natAbs).length : Int) + e') % 256).toNat) ∧ b.drop (n + 2) = (digN m'.natAbs).map (gD (tB neg)) ++ tn (tB neg) 0 :: r ∧ (digN m'.natAbs).length ≤ 18 := fun {neg} hsb {m' e' r} hr h => by
    rw [hdk, hsb] at h
    by_cases hx : n + 1 < b.length
    · have hdx := List.drop_eq_getElem_cons hx
      rw [hdx] at h
      obtain ⟨h0, h1, h2, F, h3, h4⟩ := keyN_split (neg := neg) (D := []) hr (by simp) h.symm
      rw [List.nil_append] at h3
      rw [h3]
      refine ⟨h0, h1, hx, by rw [h2, h3], h4, ?_⟩
      rw [← h3]; exact (numR_len hr h0).2.1
    · rw [List.drop_eq_nil_of_le (by omega)] at h
      exact absurd h.symm (fun e => keyN_two e)
  by_cases s1 : b[n] = 1
  · have s1' : ((b[n].toNat : Nat) : Int) = 1 := by rw [s1]; rfl
    have hg := @hfree true s1
    (apply w_mvi; rfl; apply w_done0; apply w_sq; apply w_sq; apply w_reg; apply w_mvi; rfl; apply w_mvs; rfl; apply w_len; rfl; apply w_geq; rfl; rfl; apply w_mvb; rfl; refine w_gdF rfl (by omega) ?_; apply w_gT; rfl; apply w_mvs; rfl; apply w_gT; rfl; apply w_mvi; rfl; apply w_gT; rfl; refine w_idxR (sz := 1) (R := RByte) (by rfl) (by assumption) (by rfl) rfl (by omega) ?_; rintro _ _ _ _ _ rfl; apply w_gT; rfl; apply w_ld; rfl; exact hc_ds0 (by assumption) rfl; apply w_gT; rfl; apply w_lss; rfl; rfl; apply w_pickFb; rfl; rfl; apply w_mvb; rfl; refine w_gdF rfl (by omega) ?_; apply w_gT; rfl; apply w_mvs; rfl; apply w_gT; rfl; apply w_mvi; rfl; apply w_gT; rfl; refine w_idxR (sz := 1) (R := RByte) (by rfl) (by assumption) (by rfl) rfl (by omega) ?_; rintro _ _ _ _ _ rfl; apply w_gT; rfl; apply w_ld; rfl; exact hc_ds0 (by assumption) rfl; apply w_gT; rfl; apply w_gtr; rfl; rfl; apply w_pickFb; rfl; rfl; apply w_done0; refine w_ifdF rfl (by omega) ?_; apply w_skip; apply w_sq; apply w_sq; apply w_reg; apply w_mvs; rfl; apply w_mvi; rfl; refine w_idxR (sz := 1) (R := RByte) (by rfl) (by assumption) (by rfl) rfl (by omega) ?_; rintro _ _ _ _ _ rfl; apply w_ld; rfl; exact hc_ds0 (by assumption) rfl; apply w_eql; rfl; rfl; apply w_done0; refine w_ifdF rfl (by omega) ?_; apply w_skip; apply w_sq; apply w_reg; apply w_mvi; rfl; apply w_add; rfl; rfl; omega; omega; apply w_mvi; rfl; apply w_done0; apply w_sq; apply w_reg; apply w_mvi; rfl; apply w_done0; apply w_sq; apply w_sq; apply w_reg; apply w_mvs; rfl; apply w_mvi; rfl; refine w_idxR (sz := 1) (R := RByte) (by rfl) (by assumption) (by rfl) rfl (by omega) ?_; rintro _ _ _ _ _ rfl; apply w_ld; rfl; exact hc_ds0 (by assumption) rfl; apply w_eql; rfl; rfl; apply w_done0; refine w_ifdT rfl (by omega) ?_; apply w_reg; apply w_mvi; rfl; apply w_done0; apply w_sq; apply w_reg; apply w_mvi; rfl; apply w_done0; apply w_sq; apply w_block)
    refine w_loopN (α := Nat × Int) (fun x => [(0, .slice ba b.length bc), (1, .int .i64 (n : Nat)), (4, .pointer (some ⟨b4, 0, none⟩)), (6, .int .i64 ((n + 2 + x.1 : Nat) : Int)), (7, .int .u8 255), (8, .int .i64 x.2)]) (fun x => [bx b4 T4 [.int .i64 0, .int .i64 0]])
      (fun x => x.1 ≤ 19 ∧ I64 x.2 ∧ ∀ m' e' r, numRight m' e' = true → b.drop n = keyN m' e' ++ r → x.1 ≤ (digN m'.natAbs).length ∧ x.2 = val ((digN m'.natAbs).take x.1) ∧ b.drop (n + 2 + x.1) = ((digN m'.natAbs).drop x.1).map (gD 255) ++ tn 255 0 :: r)
      (fun x => 19 - x.1) (0, 0) ⟨rfl, rfl, rfl, int_eq (by simp only; omega), rfl, rfl, trivial⟩ rfl ⟨by simp, i64_0, fun m' e' r hr h => ⟨Nat.zero_le _, rfl, (hg hr h).2.2.2.2.1⟩⟩ ?_
    rintro ⟨j, m⟩ ρ ⟨hj, hm, hrel⟩
    simp only at hj hm hrel ⊢
    obtain ⟨k, hk⟩ : ∃ k, n + 2 + j = k := ⟨_, rfl⟩
    rw [hk] at hrel ⊢
    have hkn : ((k : Nat) : Int) = (n : Nat) + 2 + (j : Nat) := by omega
    by_cases hk1 : k < b.length
    rotate_left
    · (apply w_sq; apply w_sq; apply w_reg; apply w_mvi; rfl; apply w_mvs; rfl; apply w_len; rfl; apply w_lss; rfl; rfl; apply w_mvb; rfl; refine w_gdF rfl (by omega) ?_; apply w_gF; rfl; apply w_gF; rfl; apply w_gF; rfl; apply w_gF; rfl; apply w_gF; rfl; apply w_gF; rfl; apply w_pickFb; rfl; rfl; apply w_mvb; rfl; apply w_gF; rfl; apply w_gF; rfl; apply w_gF; rfl; apply w_gF; rfl; apply w_pickFb; rfl; rfl; apply w_done0; apply w_ifF; rfl; apply w_exit; apply w_sq; apply w_sq; apply w_reg; apply w_mvi; rfl; apply w_mvs; rfl; apply w_len; rfl; apply w_geq; rfl; rfl; apply w_mvb; rfl; refine w_gdT rfl (by omega) ?_; apply w_gF; rfl; apply w_gF; rfl; apply w_gF; rfl; apply w_gF; rfl; apply w_pickTb; rfl; rfl; apply w_done0; apply w_ifT; rfl; apply w_sq; apply w_reg; apply w_bld; rfl)
      refine w_stE 0 [.int .i64 0, .int .i64 0] rfl rfl rfl rfl (Nat.le_of_ble_eq_true rfl) rfl rfl ?_
      (apply w_mvi; rfl; apply w_done0; apply w_ret)
      exact finS (L' := []) [.agg [.int .i64 0, .int .i64 0].toArray, .int .i64 (-1)] ⟨res_cell 0 rfl rfl rfl, rfl, trivial⟩ (List.nil_sublist _) ⟨rfl, rfl, 0, 0, none, rfl, i64_0, i64_0, (fun k h => by cases h), fun m' e' r hr h => absurd (hrel m' e' r hr h).2.2 (by rw [List.drop_eq_nil_of_le (by omega)]; simp)⟩
    have hdkk := List.drop_eq_getElem_cons hk1
    have hbk := b[k].toNat_lt
    by_cases hst : b[k] = 255
    · have hst' : ((b[k].toNat : Nat) : Int) = 255 := by rw [hst]; rfl
      by_cases hj19 : j = 19
      · (apply w_sq; apply w_sq; apply w_reg; apply w_mvi; rfl; apply w_mvs; rfl; apply w_len; rfl; apply w_lss; rfl; rfl; apply w_mvb; rfl; refine w_gdT rfl (by omega) ?_; apply w_gT; rfl; apply w_mvs; rfl; apply w_gT; rfl; apply w_mvi; rfl; apply w_gT; rfl; refine w_idxR (sz := 1) (R := RByte) (by rfl) (by assumption) (by rfl) rfl (by omega) ?_; rintro _ _ _ _ _ rfl; apply w_gT; rfl; apply w_ld; rfl; exact hc_ds0 (by assumption) rfl; apply w_gT; rfl; apply w_mvi; rfl; apply w_gT; rfl; apply w_neq; rfl; rfl; apply w_pickTb; rfl; rfl; apply w_mvb; rfl; refine w_gdF rfl (by omega) ?_; apply w_gF; rfl; apply w_gF; rfl; apply w_gF; rfl; apply w_gF; rfl; apply w_pickFb; rfl; rfl; apply w_done0; apply w_ifF; rfl; apply w_exit; apply w_sq; apply w_sq; apply w_reg; apply w_mvi; rfl; apply w_mvs; rfl; apply w_len; rfl; apply w_geq; rfl; rfl; apply w_mvb; rfl; refine w_gdF rfl (by omega) ?_; apply w_gT; rfl; apply w_mvi; rfl; apply w_gT; rfl; apply w_mvi; rfl; apply w_gT; rfl; apply w_add; rfl; rfl; omega; omega; apply w_gT; rfl; apply w_geq; rfl; rfl; apply w_pickFb; rfl; rfl; apply w_done0; refine w_ifdT rfl (by omega) ?_; apply w_sq; apply w_reg; apply w_bld; rfl)
        refine w_stE 0 [.int .i64 0, .int .i64 0] rfl rfl rfl rfl (Nat.le_of_ble_eq_true rfl) rfl rfl ?_
        (apply w_mvi; rfl; apply w_done0; apply w_ret)
        exact finS (L' := []) [.agg [.int .i64 0, .int .i64 0].toArray, .int .i64 (-1)] ⟨res_cell 0 rfl rfl rfl, rfl, trivial⟩ (List.nil_sublist _) ⟨rfl, rfl, 0, 0, none, rfl, i64_0, i64_0, (fun k h => by cases h), fun m' e' r hr h => by have := (hrel m' e' r hr h).1; have := (hg hr h).2.2.2.2.2; omega⟩
      have hn1 : n + 1 < b.length := by omega
      have hb1 := b[n + 1].toNat_lt
      have hb1r : (b[n + nat_lit 1]'hn1).toNat < 256 := hb1
      (apply w_sq; apply w_sq; apply w_reg; apply w_mvi; rfl; apply w_mvs; rfl; apply w_len; rfl; apply w_lss; rfl; rfl; apply w_mvb; rfl; refine w_gdT rfl (by omega) ?_; apply w_gT; rfl; apply w_mvs; rfl; apply w_gT; rfl; apply w_mvi; rfl; apply w_gT; rfl; refine w_idxR (sz := 1) (R := RByte) (by rfl) (by assumption) (by rfl) rfl (by omega) ?_; rintro _ _ _ _ _ rfl; apply w_gT; rfl; apply w_ld; rfl; exact hc_ds0 (by assumption) rfl; apply w_gT; rfl; apply w_mvi; rfl; apply w_gT; rfl; apply w_neq; rfl; rfl; apply w_pickTb; rfl; rfl; apply w_mvb; rfl; refine w_gdF rfl (by omega) ?_; apply w_gF; rfl; apply w_gF; rfl; apply w_gF; rfl; apply w_gF; rfl; apply w_pickFb; rfl; rfl; apply w_done0; apply w_ifF; rfl; apply w_exit; apply w_sq; apply w_sq; apply w_reg; apply w_mvi; rfl; apply w_mvs; rfl; apply w_len; rfl; apply w_geq; rfl; rfl; apply w_mvb; rfl; refine w_gdF rfl (by omega) ?_; apply w_gT; rfl; apply w_mvi; rfl; apply w_gT; rfl; apply w_mvi; rfl; apply w_gT; rfl; apply w_add; rfl; rfl; omega; omega; apply w_gT; rfl; apply w_geq; rfl; rfl; apply w_pickFb; rfl; rfl; apply w_done0; refine w_ifdF rfl (by omega) ?_; apply w_skip; apply w_sq; apply w_reg; apply w_mvs; rfl; apply w_mvi; rfl; apply w_add; rfl; rfl; omega; omega; refine w_idxR (sz := 1) (R := RByte) (by rfl) (by assumption) (by rfl) rfl (by omega) ?_; rintro _ _ _ _ _ rfl; apply w_ld; rfl; exact hc_ds0 (by assumption) rfl; apply w_cvi64; rfl; omega; omega; apply w_sub; rfl; rfl; omega; omega; apply w_mvi; rfl; apply w_done0; apply w_sq; apply w_sq; apply w_reg; apply w_mvs; rfl; apply w_mvi; rfl; refine w_idxR (sz := 1) (R := RByte) (by rfl) (by assumption) (by rfl) rfl (by omega) ?_; rintro _ _ _ _ _ rfl; apply w_ld; rfl; exact hc_ds0 (by assumption) rfl; apply w_eql; rfl; rfl; apply w_done0; refine w_ifdT rfl (by omega) ?_; apply w_sq; apply w_reg; apply w_mvi; rfl)
      refine w_negW rfl (fun u hu1 hu2 hu => ?_)
      (apply w_mvi; rfl; apply w_done0; apply w_reg; apply w_mvs; rfl; apply w_mvi; rfl; apply w_add; rfl; rfl; omega; omega; refine w_idxR (sz := 1) (R := RByte) (by rfl) (by assumption) (by rfl) rfl (by omega) ?_; rintro _ _ _ _ _ rfl; apply w_ld; rfl; exact hc_ds0 (by assumption) rfl; apply w_cvi64; rfl; omega; omega; apply w_sub; rfl; rfl; omega; omega; apply w_mvi; rfl; apply w_done0; apply w_sq; apply w_reg; apply w_mvi; rfl; apply w_mvi; rfl; apply w_mvi; rfl; apply w_mvi; rfl; apply w_sub; rfl; rfl; omega; omega; apply w_sub; rfl; rfl; omega; omega; apply w_sub; rfl; rfl; omega; omega; apply w_bnum2; rfl; rfl; apply w_mvi; rfl; apply w_add; rfl; rfl; omega; omega)
      refine w_stE 0 [.int .i64 u, .int .i64 (155 - ((b[n + 1].toNat : Nat) : Int) - (((k : Nat) : Int) - (n : Nat) - 2))] rfl rfl rfl rfl (Nat.le_of_ble_eq_true rfl) rfl rfl ?_
      (apply w_mvi; rfl; apply w_done0; apply w_ret)
      have hI : I64 (155 - ((b[n + 1].toNat : Nat) : Int) - (((k : Nat) : Int) - (n : Nat) - 2)) := ⟨by omega, by omega⟩
      refine finS (L' := []) [.agg [.int .i64 u, .int .i64 (155 - ((b[n + 1].toNat : Nat) : Int) - (((k : Nat) : Int) - (n : Nat) - 2))].toArray, .int .i64 ((k + 1 : Nat) : Int)] ⟨res_cell 0 rfl rfl rfl, rfl, trivial⟩ (List.nil_sublist _) ⟨rfl, rfl, _, _, some (k + 1), rfl, ⟨hu1, hu2⟩, hI, (fun k' h => by cases h; exact ⟨by omega, hk1⟩), fun m' e' r hr h => ?_⟩
      obtain ⟨g1, g2, g3⟩ := hrel m' e' r hr h
      obtain ⟨q0, q1, _, q3, _, q5⟩ := hg hr h
      have q6 := numR_len hr q0
      have hvd := val_digN m'.natAbs
      obtain ⟨E, hE⟩ : ∃ E, digN m'.natAbs = E := ⟨_, rfl⟩
      rw [hE] at g1 g2 g3 q3 q5 q6 hvd
      have hjE : j = E.length := Classical.byContradiction fun q => by
        rw [List.drop_eq_getElem_cons (show j < E.length by omega), hdkk] at g3
        simp only [List.map_cons, List.cons_append, List.cons.injEq] at g3
        exact gD_ne (t := 255) (digN_lt m'.natAbs E[j] (by rw [hE]; exact List.getElem_mem _)) (g3.1.symm.trans hst)
      rw [hjE, List.take_length] at g2
      rw [hjE, List.drop_length, hdkk] at g3
      simp only [List.map_nil, List.nil_append, List.cons.injEq] at g3
      have hmn : m' < 0 := q1.2 rfl
      have hX : b[n + 1].toNat = 255 - (100 + (E.length : Int) + e').toNat := by rw [q3]; exact tn255 (by omega) (by omega)
      have hlim := numR0 hr
      have hu' := hu (by omega) (by omega)
      exact ⟨by omega, by omega, k + 1, rfl, g3.2⟩
    have hst' : ((b[k].toNat : Nat) : Int) ≠ 255 := fun e => hst (UInt8.toNat_inj.1 (show b[k].toNat = 255 by omega))
    by_cases hj19 : j = 19
    · (apply w_sq; apply w_sq; apply w_reg; apply w_mvi; rfl; apply w_mvs; rfl; apply w_len; rfl; apply w_lss; rfl; rfl; apply w_mvb; rfl; refine w_gdT rfl (by omega) ?_; apply w_gT; rfl; apply w_mvs; rfl; apply w_gT; rfl; apply w_mvi; rfl; apply w_gT; rfl; refine w_idxR (sz := 1) (R := RByte) (by rfl) (by assumption) (by rfl) rfl (by omega) ?_; rintro _ _ _ _ _ rfl; apply w_gT; rfl; apply w_ld; rfl; exact hc_ds0 (by assumption) rfl; apply w_gT; rfl; apply w_mvi; rfl; apply w_gT; rfl; apply w_neq; rfl; rfl; apply w_pickTb; rfl; rfl; apply w_mvb; rfl; refine w_gdT rfl (by omega) ?_; apply w_gT; rfl; apply w_mvi; rfl; apply w_gT; rfl; apply w_mvi; rfl; apply w_gT; rfl; apply w_add; rfl; rfl; omega; omega; apply w_gT; rfl; apply w_lss; rfl; rfl; apply w_pickTb; rfl; rfl; apply w_done0; refine w_ifdF rfl (by omega) ?_; apply w_exit; apply w_sq; apply w_sq; apply w_reg; apply w_mvi; rfl; apply w_mvs; rfl; apply w_len; rfl; apply w_geq; rfl; rfl; apply w_mvb; rfl; refine w_gdF rfl (by omega) ?_; apply w_gT; rfl; apply w_mvi; rfl; apply w_gT; rfl; apply w_mvi; rfl; apply w_gT; rfl; apply w_add; rfl; rfl; omega; omega; apply w_gT; rfl; apply w_geq; rfl; rfl; apply w_pickFb; rfl; rfl; apply w_done0; refine w_ifdT rfl (by omega) ?_; apply w_sq; apply w_reg; apply w_bld; rfl)
      refine w_stE 0 [.int .i64 0, .int .i64 0] rfl rfl rfl rfl (Nat.le_of_ble_eq_true rfl) rfl rfl ?_
      (apply w_mvi; rfl; apply w_done0; apply w_ret)
      exact finS (L' := []) [.agg [.int .i64 0, .int .i64 0].toArray, .int .i64 (-1)] ⟨res_cell 0 rfl rfl rfl, rfl, trivial⟩ (List.nil_sublist _) ⟨rfl, rfl, 0, 0, none, rfl, i64_0, i64_0, (fun k h => by cases h), fun m' e' r hr h => by have := (hrel m' e' r hr h).1; have := (hg hr h).2.2.2.2.2; omega⟩
    obtain ⟨m0, m1⟩ := hm
    (apply w_sq; apply w_sq; apply w_reg; apply w_mvi; rfl; apply w_mvs; rfl; apply w_len; rfl; apply w_lss; rfl; rfl; apply w_mvb; rfl; refine w_gdT rfl (by omega) ?_; apply w_gT; rfl; apply w_mvs; rfl; apply w_gT; rfl; apply w_mvi; rfl; apply w_gT; rfl; refine w_idxR (sz := 1) (R := RByte) (by rfl) (by assumption) (by rfl) rfl (by omega) ?_; rintro _ _ _ _ _ rfl; apply w_gT; rfl; apply w_ld; rfl; exact hc_ds0 (by assumption) rfl; apply w_gT; rfl; apply w_mvi; rfl; apply w_gT; rfl; apply w_neq; rfl; rfl; apply w_pickTb; rfl; rfl; apply w_mvb; rfl; refine w_gdT rfl (by omega) ?_; apply w_gT; rfl; apply w_mvi; rfl; apply w_gT; rfl; apply w_mvi; rfl; apply w_gT; rfl; apply w_add; rfl; rfl; omega; omega; apply w_gT; rfl; apply w_lss; rfl; rfl; apply w_pickTb; rfl; rfl; apply w_done0; refine w_ifdT rfl (by omega) ?_; apply w_skip; apply w_block; apply w_sq; apply w_reg; apply w_mvs; rfl; apply w_mvi; rfl; refine w_idxR (sz := 1) (R := RByte) (by rfl) (by assumption) (by rfl) rfl (by omega) ?_; rintro _ _ _ _ _ rfl; apply w_ld; rfl; exact hc_ds0 (by assumption) rfl; apply w_cvi64; rfl; omega; omega; apply w_sub; rfl; rfl; omega; omega; apply w_mvi; rfl; apply w_done0; apply w_sq; apply w_sq; apply w_reg; apply w_mvs; rfl; apply w_mvi; rfl; refine w_idxR (sz := 1) (R := RByte) (by rfl) (by assumption) (by rfl) rfl (by omega) ?_; rintro _ _ _ _ _ rfl; apply w_ld; rfl; exact hc_ds0 (by assumption) rfl; apply w_eql; rfl; rfl; apply w_done0; refine w_ifdT rfl (by omega) ?_; apply w_reg; apply w_mvs; rfl; apply w_mvi; rfl; refine w_idxR (sz := 1) (R := RByte) (by rfl) (by assumption) (by rfl) rfl (by omega) ?_; rintro _ _ _ _ _ rfl; apply w_ld; rfl; exact hc_ds0 (by assumption) rfl; apply w_cvi64; rfl; omega; omega; apply w_sub; rfl; rfl; omega; omega; apply w_mvi; rfl; apply w_done0; apply w_sq; apply w_reg; apply w_mvi; rfl)
    refine w_mulW rfl rfl (fun u hu1 hu2 hu => ?_)
    (apply w_mvi; rfl)
    refine w_addW rfl rfl (fun w hw1 hw2 hw => ?_)
    (apply w_mvi; rfl; apply w_done0; apply w_reg; apply w_mvi; rfl; apply w_add; rfl; rfl; omega; omega; apply w_mvi; rfl; apply w_done0)
    refine ⟨(j + 1, w), by simp only; omega, ⟨rfl, rfl, rfl, int_eq (by simp only; omega), rfl, rfl, trivial⟩, rfl, rfl, by simp only; omega, ⟨hw1, hw2⟩, fun m' e' r hr h => ?_⟩
    obtain ⟨g1, g2, g3⟩ := hrel m' e' r hr h
    have g4 := (hg hr h).2.2.2.2.2
    obtain ⟨E, hE⟩ : ∃ E, digN m'.natAbs = E := ⟨_, rfl⟩
    have hlt := digN_lt m'.natAbs
    rw [hE] at g1 g2 g3 g4 hlt ⊢
    have hjE : j < E.length := Classical.byContradiction fun q => by
      have hz : E.drop j = [] := List.drop_eq_nil_of_le (by omega)
      rw [hz, hdkk] at g3
      simp only [List.map_nil, List.nil_append, List.cons.injEq] at g3
      exact hst g3.1
    rw [List.drop_eq_getElem_cons hjE, hdkk] at g3
    simp only [List.map_cons, List.cons_append, List.cons.injEq] at g3
    have hEj := hlt E[j] (List.getElem_mem hjE)
    have hbE : b[k].toNat = 254 - E[j] := by rw [g3.1]; exact dig_255 hEj
    have hv := val_bound (l := E.take j) (fun d hd => hlt d (List.mem_of_mem_take hd))
    have hp : 10 ^ (E.take j).length ≤ (10 : Nat) ^ 17 := Nat.pow_le_pow_right (by omega) (by rw [List.length_take]; omega)
    have hv2 : val (E.take (j + 1)) = val (E.take j) * 10 + E[j] := by
      rw [List.take_succ_eq_append_getElem hjE, val_append]; simp [val]
    have hp17 : (10 : Nat) ^ 17 = 100000000000000000 := by decide
    have hv3 : val (E.take j) < 100000000000000000 := Nat.lt_of_lt_of_le hv (hp17 ▸ hp)
    have hu' := hu (by omega) (by omega)
    have hw' := hw (by omega) (by omega)
    refine ⟨hjE, ?_, ?_⟩
    · simp only; rw [hv2]; omega
    · rw [← g3.2]; congr 1; simp only; omega
  by_cases s3 : b[n] = 3
  · have s3' : ((b[n].toNat : Nat) : Int) = 3 := by rw [s3]; rfl
    have hg := @hfree false s3
    (apply w_mvi; rfl; apply w_done0; apply w_sq; apply w_sq; apply w_reg; apply w_mvi; rfl; apply w_mvs; rfl; apply w_len; rfl; apply w_geq; rfl; rfl; apply w_mvb; rfl; refine w_gdF rfl (by omega) ?_; apply w_gT; rfl; apply w_mvs; rfl; apply w_gT; rfl; apply w_mvi; rfl; apply w_gT; rfl; refine w_idxR (sz := 1) (R := RByte) (by rfl) (by assumption) (by rfl) rfl (by omega) ?_; rintro _ _ _ _ _ rfl; apply w_gT; rfl; apply w_ld; rfl; exact hc_ds0 (by assumption) rfl; apply w_gT; rfl; apply w_lss; rfl; rfl; apply w_pickFb; rfl; rfl; apply w_mvb; rfl; refine w_gdF rfl (by omega) ?_; apply w_gT; rfl; apply w_mvs; rfl; apply w_gT; rfl; apply w_mvi; rfl; apply w_gT; rfl; refine w_idxR (sz := 1) (R := RByte) (by rfl) (by assumption) (by rfl) rfl (by omega) ?_; rintro _ _ _ _ _ rfl; apply w_gT; rfl; apply w_ld; rfl; exact hc_ds0 (by assumption) rfl; apply w_gT; rfl; apply w_gtr; rfl; rfl; apply w_pickFb; rfl; rfl; apply w_done0; refine w_ifdF rfl (by omega) ?_; apply w_skip; apply w_sq; apply w_sq; apply w_reg; apply w_mvs; rfl; apply w_mvi; rfl; refine w_idxR (sz := 1) (R := RByte) (by rfl) (by assumption) (by rfl) rfl (by omega) ?_; rintro _ _ _ _ _ rfl; apply w_ld; rfl; exact hc_ds0 (by assumption) rfl; apply w_eql; rfl; rfl; apply w_done0; refine w_ifdF rfl (by omega) ?_; apply w_skip; apply w_sq; apply w_reg; apply w_mvi; rfl; apply w_add; rfl; rfl; omega; omega; apply w_mvi; rfl; apply w_done0; apply w_sq; apply w_reg; apply w_mvi; rfl; apply w_done0; apply w_sq; apply w_sq; apply w_reg; apply w_mvs; rfl; apply w_mvi; rfl; refine w_idxR (sz := 1) (R := RByte) (by rfl) (by assumption) (by rfl) rfl (by omega) ?_; rintro _ _ _ _ _ rfl; apply w_ld; rfl; exact hc_ds0 (by assumption) rfl; apply w_eql; rfl; rfl; apply w_done0; refine w_ifdF rfl (by omega) ?_; apply w_skip; apply w_sq; apply w_reg; apply w_mvi; rfl; apply w_done0; apply w_sq; apply w_block)
    refine w_loopN (α := Nat × Int) (fun x => [(0, .slice ba b.length bc), (1, .int .i64 (n : Nat)), (4, .pointer (some ⟨b4, 0, none⟩)), (6, .int .i64 ((n + 2 + x.1 : Nat) : Int)), (7, .int .u8 0), (8, .int .i64 x.2)]) (fun x => [bx b4 T4 [.int .i64 0, .int .i64 0]])
      (fun x => x.1 ≤ 19 ∧ I64 x.2 ∧ ∀ m' e' r, numRight m' e' = true → b.drop n = keyN m' e' ++ r → x.1 ≤ (digN m'.natAbs).length ∧ x.2 = val ((digN m'.natAbs).take x.1) ∧ b.drop (n + 2 + x.1) = ((digN m'.natAbs).drop x.1).map (gD 0) ++ tn 0 0 :: r)
      (fun x => 19 - x.1) (0, 0) ⟨rfl, rfl, rfl, int_eq (by simp only; omega), rfl, rfl, trivial⟩ rfl ⟨by simp, i64_0, fun m' e' r hr h => ⟨Nat.zero_le _, rfl, (hg hr h).2.2.2.2.1⟩⟩ ?_
    rintro ⟨j, m⟩ ρ ⟨hj, hm, hrel⟩
    simp only at hj hm hrel ⊢
    obtain ⟨k, hk⟩ : ∃ k, n + 2 + j = k := ⟨_, rfl⟩
    rw [hk] at hrel ⊢
    have hkn : ((k : Nat) : Int) = (n : Nat) + 2 + (j : Nat) := by omega
    by_cases hk1 : k < b.length
    rotate_left
    · (apply w_sq; apply w_sq; apply w_reg; apply w_mvi; rfl; apply w_mvs; rfl; apply w_len; rfl; apply w_lss; rfl; rfl; apply w_mvb; rfl; refine w_gdF rfl (by omega) ?_; apply w_gF; rfl; apply w_gF; rfl; apply w_gF; rfl; apply w_gF; rfl; apply w_gF; rfl; apply w_gF; rfl; apply w_pickFb; rfl; rfl; apply w_mvb; rfl; apply w_gF; rfl; apply w_gF; rfl; apply w_gF; rfl; apply w_gF; rfl; apply w_pickFb; rfl; rfl; apply w_done0; apply w_ifF; rfl; apply w_exit; apply w_sq; apply w_sq; apply w_reg; apply w_mvi; rfl; apply w_mvs; rfl; apply w_len; rfl; apply w_geq; rfl; rfl; apply w_mvb; rfl; refine w_gdT rfl (by omega) ?_; apply w_gF; rfl; apply w_gF; rfl; apply w_gF; rfl; apply w_gF; rfl; apply w_pickTb; rfl; rfl; apply w_done0; apply w_ifT; rfl; apply w_sq; apply w_reg; apply w_bld; rfl)
      refine w_stE 0 [.int .i64 0, .int .i64 0] rfl rfl rfl rfl (Nat.le_of_ble_eq_true rfl) rfl rfl ?_
      (apply w_mvi; rfl; apply w_done0; apply w_ret)
      exact finS (L' := []) [.agg [.int .i64 0, .int .i64 0].toArray, .int .i64 (-1)] ⟨res_cell 0 rfl rfl rfl, rfl, trivial⟩ (List.nil_sublist _) ⟨rfl, rfl, 0, 0, none, rfl, i64_0, i64_0, (fun k h => by cases h), fun m' e' r hr h => absurd (hrel m' e' r hr h).2.2 (by rw [List.drop_eq_nil_of_le (by omega)]; simp)⟩
    have hdkk := List.drop_eq_getElem_cons hk1
    have hbk := b[k].toNat_lt
    by_cases hst : b[k] = 0
    · have hst' : ((b[k].toNat : Nat) : Int) = 0 := by rw [hst]; rfl
      by_cases hj19 : j = 19
      · (apply w_sq; apply w_sq; apply w_reg; apply w_mvi; rfl; apply w_mvs; rfl; apply w_len; rfl; apply w_lss; rfl; rfl; apply w_mvb; rfl; refine w_gdT rfl (by omega) ?_; apply w_gT; rfl; apply w_mvs; rfl; apply w_gT; rfl; apply w_mvi; rfl; apply w_gT; rfl; refine w_idxR (sz := 1) (R := RByte) (by rfl) (by assumption) (by rfl) rfl (by omega) ?_; rintro _ _ _ _ _ rfl; apply w_gT; rfl; apply w_ld; rfl; exact hc_ds0 (by assumption) rfl; apply w_gT; rfl; apply w_mvi; rfl; apply w_gT; rfl; apply w_neq; rfl; rfl; apply w_pickTb; rfl; rfl; apply w_mvb; rfl; refine w_gdF rfl (by omega) ?_; apply w_gF; rfl; apply w_gF; rfl; apply w_gF; rfl; apply w_gF; rfl; apply w_pickFb; rfl; rfl; apply w_done0; apply w_ifF; rfl; apply w_exit; apply w_sq; apply w_sq; apply w_reg; apply w_mvi; rfl; apply w_mvs; rfl; apply w_len; rfl; apply w_geq; rfl; rfl; apply w_mvb; rfl; refine w_gdF rfl (by omega) ?_; apply w_gT; rfl; apply w_mvi; rfl; apply w_gT; rfl; apply w_mvi; rfl; apply w_gT; rfl; apply w_add; rfl; rfl; omega; omega; apply w_gT; rfl; apply w_geq; rfl; rfl; apply w_pickFb; rfl; rfl; apply w_done0; refine w_ifdT rfl (by omega) ?_; apply w_sq; apply w_reg; apply w_bld; rfl)
        refine w_stE 0 [.int .i64 0, .int .i64 0] rfl rfl rfl rfl (Nat.le_of_ble_eq_true rfl) rfl rfl ?_
        (apply w_mvi; rfl; apply w_done0; apply w_ret)
        exact finS (L' := []) [.agg [.int .i64 0, .int .i64 0].toArray, .int .i64 (-1)] ⟨res_cell 0 rfl rfl rfl, rfl, trivial⟩ (List.nil_sublist _) ⟨rfl, rfl, 0, 0, none, rfl, i64_0, i64_0, (fun k h => by cases h), fun m' e' r hr h => by have := (hrel m' e' r hr h).1; have := (hg hr h).2.2.2.2.2; omega⟩
      have hn1 : n + 1 < b.length := by omega
      have hb1 := b[n + 1].toNat_lt
      have hb1r : (b[n + nat_lit 1]'hn1).toNat < 256 := hb1
      (apply w_sq; apply w_sq; apply w_reg; apply w_mvi; rfl; apply w_mvs; rfl; apply w_len; rfl; apply w_lss; rfl; rfl; apply w_mvb; rfl; refine w_gdT rfl (by omega) ?_; apply w_gT; rfl; apply w_mvs; rfl; apply w_gT; rfl; apply w_mvi; rfl; apply w_gT; rfl; refine w_idxR (sz := 1) (R := RByte) (by rfl) (by assumption) (by rfl) rfl (by omega) ?_; rintro _ _ _ _ _ rfl; apply w_gT; rfl; apply w_ld; rfl; exact hc_ds0 (by assumption) rfl; apply w_gT; rfl; apply w_mvi; rfl; apply w_gT; rfl; apply w_neq; rfl; rfl; apply w_pickTb; rfl; rfl; apply w_mvb; rfl; refine w_gdF rfl (by omega) ?_; apply w_gF; rfl; apply w_gF; rfl; apply w_gF; rfl; apply w_gF; rfl; apply w_pickFb; rfl; rfl; apply w_done0; apply w_ifF; rfl; apply w_exit; apply w_sq; apply w_sq; apply w_reg; apply w_mvi; rfl; apply w_mvs; rfl; apply w_len; rfl; apply w_geq; rfl; rfl; apply w_mvb; rfl; refine w_gdF rfl (by omega) ?_; apply w_gT; rfl; apply w_mvi; rfl; apply w_gT; rfl; apply w_mvi; rfl; apply w_gT; rfl; apply w_add; rfl; rfl; omega; omega; apply w_gT; rfl; apply w_geq; rfl; rfl; apply w_pickFb; rfl; rfl; apply w_done0; refine w_ifdF rfl (by omega) ?_; apply w_skip; apply w_sq; apply w_reg; apply w_mvs; rfl; apply w_mvi; rfl; apply w_add; rfl; rfl; omega; omega; refine w_idxR (sz := 1) (R := RByte) (by rfl) (by assumption) (by rfl) rfl (by omega) ?_; rintro _ _ _ _ _ rfl; apply w_ld; rfl; exact hc_ds0 (by assumption) rfl; apply w_cvi64; rfl; omega; omega; apply w_sub; rfl; rfl; omega; omega; apply w_mvi; rfl; apply w_done0; apply w_sq; apply w_sq; apply w_reg; apply w_mvs; rfl; apply w_mvi; rfl; refine w_idxR (sz := 1) (R := RByte) (by rfl) (by assumption) (by rfl) rfl (by omega) ?_; rintro _ _ _ _ _ rfl; apply w_ld; rfl; exact hc_ds0 (by assumption) rfl; apply w_eql; rfl; rfl; apply w_done0; refine w_ifdF rfl (by omega) ?_; apply w_skip; apply w_sq; apply w_reg; apply w_mvi; rfl; apply w_mvi; rfl; apply w_mvi; rfl; apply w_mvi; rfl; apply w_sub; rfl; rfl; omega; omega; apply w_sub; rfl; rfl; omega; omega; apply w_sub; rfl; rfl; omega; omega; apply w_bnum2; rfl; rfl; apply w_mvi; rfl; apply w_add; rfl; rfl; omega; omega)
      refine w_stE 0 [.int .i64 m, .int .i64 (((b[n + 1].toNat : Nat) : Int) - 100 - (((k : Nat) : Int) - (n : Nat) - 2))] rfl rfl rfl rfl (Nat.le_of_ble_eq_true rfl) rfl rfl ?_
      (apply w_mvi; rfl; apply w_done0; apply w_ret)
      have hI : I64 (((b[n + 1].toNat : Nat) : Int) - 100 - (((k : Nat) : Int) - (n : Nat) - 2)) := ⟨by omega, by omega⟩
      refine finS (L' := []) [.agg [.int .i64 m, .int .i64 (((b[n + 1].toNat : Nat) : Int) - 100 - (((k : Nat) : Int) - (n : Nat) - 2))].toArray, .int .i64 ((k + 1 : Nat) : Int)] ⟨res_cell 0 rfl rfl rfl, rfl, trivial⟩ (List.nil_sublist _) ⟨rfl, rfl, _, _, some (k + 1), rfl, hm, hI, (fun k' h => by cases h; exact ⟨by omega, hk1⟩), fun m' e' r hr h => ?_⟩
      obtain ⟨g1, g2, g3⟩ := hrel m' e' r hr h
      obtain ⟨q0, q1, _, q3, _, q5⟩ := hg hr h
      have q6 := numR_len hr q0
      have hvd := val_digN m'.natAbs
      obtain ⟨E, hE⟩ : ∃ E, digN m'.natAbs = E := ⟨_, rfl⟩
      rw [hE] at g1 g2 g3 q3 q5 q6 hvd
      have hjE : j = E.length := Classical.byContradiction fun q => by
        rw [List.drop_eq_getElem_cons (show j < E.length by omega), hdkk] at g3
        simp only [List.map_cons, List.cons_append, List.cons.injEq] at g3
        exact gD_ne (t := 0) (digN_lt m'.natAbs E[j] (by rw [hE]; exact List.getElem_mem _)) (g3.1.symm.trans hst)
      rw [hjE, List.take_length] at g2
      rw [hjE, List.drop_length, hdkk] at g3
      simp only [List.map_nil, List.nil_append, List.cons.injEq] at g3
      have hmn : ¬ m' < 0 := fun q => by have := q1.1 q; cases this
      have hX : b[n + 1].toNat = (100 + (E.length : Int) + e').toNat := by rw [q3]; exact tn000 (by omega) (by omega)
      exact ⟨by omega, by omega, k + 1, rfl, g3.2⟩
    have hst' : ((b[k].toNat : Nat) : Int) ≠ 0 := fun e => hst (UInt8.toNat_inj.1 (show b[k].toNat = 0 by omega))
    by_cases hj19 : j = 19
    · (apply w_sq; apply w_sq; apply w_reg; apply w_mvi; rfl; apply w_mvs; rfl; apply w_len; rfl; apply w_lss; rfl; rfl; apply w_mvb; rfl; refine w_gdT rfl (by omega) ?_; apply w_gT; rfl; apply w_mvs; rfl; apply w_gT; rfl; apply w_mvi; rfl; apply w_gT; rfl; refine w_idxR (sz := 1) (R := RByte) (by rfl) (by assumption) (by rfl) rfl (by omega) ?_; rintro _ _ _ _ _ rfl; apply w_gT; rfl; apply w_ld; rfl; exact hc_ds0 (by assumption) rfl; apply w_gT; rfl; apply w_mvi; rfl; apply w_gT; rfl; apply w_neq; rfl; rfl; apply w_pickTb; rfl; rfl; apply w_mvb; rfl; refine w_gdT rfl (by omega) ?_; apply w_gT; rfl; apply w_mvi; rfl; apply w_gT; rfl; apply w_mvi; rfl; apply w_gT; rfl; apply w_add; rfl; rfl; omega; omega; apply w_gT; rfl; apply w_lss; rfl; rfl; apply w_pickTb; rfl; rfl; apply w_done0; refine w_ifdF rfl (by omega) ?_; apply w_exit; apply w_sq; apply w_sq; apply w_reg; apply w_mvi; rfl; apply w_mvs; rfl; apply w_len; rfl; apply w_geq; rfl; rfl; apply w_mvb; rfl; refine w_gdF rfl (by omega) ?_; apply w_gT; rfl; apply w_mvi; rfl; apply w_gT; rfl; apply w_mvi; rfl; apply w_gT; rfl; apply w_add; rfl; rfl; omega; omega; apply w_gT; rfl; apply w_geq; rfl; rfl; apply w_pickFb; rfl; rfl; apply w_done0; refine w_ifdT rfl (by omega) ?_; apply w_sq; apply w_reg; apply w_bld; rfl)
      refine w_stE 0 [.int .i64 0, .int .i64 0] rfl rfl rfl rfl (Nat.le_of_ble_eq_true rfl) rfl rfl ?_
      (apply w_mvi; rfl; apply w_done0; apply w_ret)
      exact finS (L' := []) [.agg [.int .i64 0, .int .i64 0].toArray, .int .i64 (-1)] ⟨res_cell 0 rfl rfl rfl, rfl, trivial⟩ (List.nil_sublist _) ⟨rfl, rfl, 0, 0, none, rfl, i64_0, i64_0, (fun k h => by cases h), fun m' e' r hr h => by have := (hrel m' e' r hr h).1; have := (hg hr h).2.2.2.2.2; omega⟩
    obtain ⟨m0, m1⟩ := hm
    (apply w_sq; apply w_sq; apply w_reg; apply w_mvi; rfl; apply w_mvs; rfl; apply w_len; rfl; apply w_lss; rfl; rfl; apply w_mvb; rfl; refine w_gdT rfl (by omega) ?_; apply w_gT; rfl; apply w_mvs; rfl; apply w_gT; rfl; apply w_mvi; rfl; apply w_gT; rfl; refine w_idxR (sz := 1) (R := RByte) (by rfl) (by assumption) (by rfl) rfl (by omega) ?_; rintro _ _ _ _ _ rfl; apply w_gT; rfl; apply w_ld; rfl; exact hc_ds0 (by assumption) rfl; apply w_gT; rfl; apply w_mvi; rfl; apply w_gT; rfl; apply w_neq; rfl; rfl; apply w_pickTb; rfl; rfl; apply w_mvb; rfl; refine w_gdT rfl (by omega) ?_; apply w_gT; rfl; apply w_mvi; rfl; apply w_gT; rfl; apply w_mvi; rfl; apply w_gT; rfl; apply w_add; rfl; rfl; omega; omega; apply w_gT; rfl; apply w_lss; rfl; rfl; apply w_pickTb; rfl; rfl; apply w_done0; refine w_ifdT rfl (by omega) ?_; apply w_skip; apply w_block; apply w_sq; apply w_reg; apply w_mvs; rfl; apply w_mvi; rfl; refine w_idxR (sz := 1) (R := RByte) (by rfl) (by assumption) (by rfl) rfl (by omega) ?_; rintro _ _ _ _ _ rfl; apply w_ld; rfl; exact hc_ds0 (by assumption) rfl; apply w_cvi64; rfl; omega; omega; apply w_sub; rfl; rfl; omega; omega; apply w_mvi; rfl; apply w_done0; apply w_sq; apply w_sq; apply w_reg; apply w_mvs; rfl; apply w_mvi; rfl; refine w_idxR (sz := 1) (R := RByte) (by rfl) (by assumption) (by rfl) rfl (by omega) ?_; rintro _ _ _ _ _ rfl; apply w_ld; rfl; exact hc_ds0 (by assumption) rfl; apply w_eql; rfl; rfl; apply w_done0; refine w_ifdF rfl (by omega) ?_; apply w_skip; apply w_sq; apply w_reg; apply w_mvi; rfl)
    refine w_mulW rfl rfl (fun u hu1 hu2 hu => ?_)
    (apply w_mvi; rfl)
    refine w_addW rfl rfl (fun w hw1 hw2 hw => ?_)
    (apply w_mvi; rfl; apply w_done0; apply w_reg; apply w_mvi; rfl; apply w_add; rfl; rfl; omega; omega; apply w_mvi; rfl; apply w_done0)
    refine ⟨(j + 1, w), by simp only; omega, ⟨rfl, rfl, rfl, int_eq (by simp only; omega), rfl, rfl, trivial⟩, rfl, rfl, by simp only; omega, ⟨hw1, hw2⟩, fun m' e' r hr h => ?_⟩
    obtain ⟨g1, g2, g3⟩ := hrel m' e' r hr h
    have g4 := (hg hr h).2.2.2.2.2
    obtain ⟨E, hE⟩ : ∃ E, digN m'.natAbs = E := ⟨_, rfl⟩
    have hlt := digN_lt m'.natAbs
    rw [hE] at g1 g2 g3 g4 hlt ⊢
    have hjE : j < E.length := Classical.byContradiction fun q => by
      have hz : E.drop j = [] := List.drop_eq_nil_of_le (by omega)
      rw [hz, hdkk] at g3
      simp only [List.map_nil, List.nil_append, List.cons.injEq] at g3
      exact hst g3.1
    rw [List.drop_eq_getElem_cons hjE, hdkk] at g3
    simp only [List.map_cons, List.cons_append, List.cons.injEq] at g3
    have hEj := hlt E[j] (List.getElem_mem hjE)
    have hbE : b[k].toNat = E[j] + 1 := by rw [g3.1]; exact dig_0 hEj
    have hv := val_bound (l := E.take j) (fun d hd => hlt d (List.mem_of_mem_take hd))
    have hp : 10 ^ (E.take j).length ≤ (10 : Nat) ^ 17 := Nat.pow_le_pow_right (by omega) (by rw [List.length_take]; omega)
    have hv2 : val (E.take (j + 1)) = val (E.take j) * 10 + E[j] := by
      rw [List.take_succ_eq_append_getElem hjE, val_append]; simp [val]
    have hp17 : (10 : Nat) ^ 17 = 100000000000000000 := by decide
    have hv3 : val (E.take j) < 100000000000000000 := Nat.lt_of_lt_of_le hv (hp17 ▸ hp)
    have hu' := hu (by omega) (by omega)
    have hw' := hw (by omega) (by omega)
    refine ⟨hjE, ?_, ?_⟩
    · simp only; rw [hv2]; omega
    · rw [← g3.2]; congr 1; simp only; omega
  exact absurd hs (by simp [s1, s2, s3])
end Go.Gk.Val
end

section
namespace Go.Gk.Val
open Go Go.Gk Go.Gk.Num

theorem keyKs_len : ∀ ks : List (List UInt8), (keyKs ks).length ≤ 24 * klens ks
  | [] => by simp [keyKs]
  | s :: ks => by
    have := keyKs_len ks
    have := keyT_len s
    rw [keyKs_cons]
    simp only [klens, List.length_cons, List.length_append]
    omega
theorem keyVs_len : ∀ {l : List V}, (∀ x ∈ l, (keyV x).length ≤ 24 * bulkV x) → (keyVs l).length ≤ 24 * bulks l
  | [], _ => by simp [keyVs, bulks]
  | x :: l, h => by
    have h1 := h x (by simp)
    have h2 := keyVs_len (l := l) (fun y hy => h y (by simp [hy]))
    rw [keyVs_cons, List.length_append]
    simp only [bulks]; omega
theorem keyV_len (v : V) : mayV v = true → (keyV v).length ≤ 24 * bulkV v := by
  induction v using V.ind with
  | h v ih =>
    intro hm
    obtain ⟨_, _, _, _, _, hn⟩ := may_bare hm
    have hs := (shp_iff.1 (may_shp v hm))
    have hml : ∀ x ∈ v.list, mayV x = true := by
      rw [mayV_eq, Bool.and_eq_true, List.all_eq_true] at hm
      exact hm.2
    have h1 := keyKs_len v.keys
    have h2 := keyVs_len (l := v.list) (fun x hx => ih x hx (hml x hx))
    have h3 := keyT_len v.text
    have h4 := keyN_len hn
    have h5 := bulkV_eq v
    rw [keyV_eq, List.length_cons]
    by_cases k3 : v.kind = 3
    · rw [if_pos k3]; omega
    rw [if_neg k3]
    by_cases k4 : v.kind = 4
    · rw [if_pos k4]; omega
    rw [if_neg k4]
    by_cases k6 : v.kind = 6
    · rw [if_pos k6]; simp only [List.length_append, List.length_cons]; omega
    rw [if_neg k6]
    by_cases k5 : v.kind = 5
    · rw [if_pos k5]; simp only [List.length_append, List.length_cons, List.length_nil]; omega
    · rw [if_neg k5]; simp; omega
end Go.Gk.Val
end

section
namespace Go.Gk.Val
open Go Go.Gk Go.Gk.Num
attribute [local irreducible] gwp gws

def RReadOk (P : Program) (f : FuncId) : Prop := ∀ (deep : Nat) {d : PHeap} {vb : Value} {b : List UInt8} {n : Nat}, deep ≤ 48 → RSl 1 RByte d vb b → b.length ≤ 1000000000 → n ≤ b.length + 48 →
  GCall P f [vb, .int .i64 (n : Nat), .int .i64 (deep : Nat)] d [] (Ret fun r d' L' => L' = [] ∧ ∃ cs v z, r = .tuple #[.agg cs.toArray, .int .i64 z] ∧ RVal d' cs v ∧ depthV v ≤ deep + 1 ∧ (z = -1 ∨ ∃ k : Nat, z = k ∧ n < k ∧ k ≤ b.length + deep ∧ bulkV v + n ≤ k) ∧
    ∀ x r, shp x → depthV x ≤ deep → b.drop n = keyV x ++ r → v = x ∧ ∃ k : Nat, z = k ∧ k ≤ b.length ∧ b.drop k = r)
theorem depth_zero : depthV V.zero = 1 := rfl
def ofs (L : Nat) (z : Int) : Nat := if z < 0 then 0 else (L + 200 - z).toNat
theorem ofs_neg (L : Nat) : ofs L (-1) = 0 := rfl
theorem ofs_nat (L k : Nat) : ofs L k = L + 200 - k := by rw [ofs, if_neg (by omega)]; omega
theorem bulks_len : ∀ l : List V, l.length ≤ bulks l
  | [] => Nat.le_refl _
  | x :: l => by have := bulks_len l; have := bulkV_eq x; simp only [bulks, List.length_cons]; omega
def g_thimbleref05_read (f_thimbleref05_readDigit f_thimbleref05_readText f_thimbleref05_read : Nat) : GFun :=
 ⟨160, [(.cell 6 (some 6)), (.tmp 7)],
 (.seq
 (.reg false (.op false ⟨(some 6), none, (.alo (.agg #[(.int .i64 0), (.int .i64 0), (.int .i64 0), (strV []), (.slice none 0 0), (.slice none 0 0)]))⟩
  (.op false ⟨(some 7), none, (.mv (.const (.int .i64 0)))⟩ .done)))
 (.seq
 (.reg false (.op false ⟨(some 8), none, (.alo (.agg #[(.int .i64 0), (.int .i64 0), (.int .i64 0), (strV []), (.slice none 0 0), (.slice none 0 0)]))⟩ .done))
 (.seq (.seq
 (.reg false (.op false ⟨(some 11), none, (.mv (.tmp 1))⟩
  (.op false ⟨(some 12), none, (.mv (.tmp 0))⟩
  (.op false ⟨(some 13), none, (.len (.tmp 12))⟩
  (.op false ⟨(some 14), none, (.bin .geq (.tmp 11) (.tmp 13))⟩
  (.op false ⟨(some 15), none, (.mv (.tmp 14))⟩
  (.op false ⟨(some 16), (some (15, false)), (.mv (.tmp 2))⟩
  (.op false ⟨(some 17), (some (15, false)), (.bin .eql (.tmp 16) (.const (.int .i64 0)))⟩
  (.op false ⟨(some 18), none, (.pick (.tmp 15) (.const (.bool true)) (.tmp 17))⟩ .done))))))))) (.cond (.tmp 18)
 (.seq
 (.reg false (.op false ⟨(some 19), none, (.ld (some 6) (.tmp 8))⟩
  (.op false ⟨none, none, (.st 6 (.tmp 6) (.tmp 19))⟩
  (.op false ⟨(some 7), none, (.mv (.const (.int .i64 (-1))))⟩ .done)))) .ret) .skip))
 (.seq
 (.reg false (.op false ⟨(some 20), none, (.mv (.tmp 0))⟩
  (.op false ⟨(some 21), none, (.mv (.tmp 1))⟩
  (.op false ⟨(some 22), none, (.idx 1 (.tmp 20) (.tmp 21))⟩
  (.op false ⟨(some 23), none, (.ld none (.tmp 22))⟩
  (.op false ⟨(some 24), none, (.cvi .i64 (.tmp 23))⟩
  (.op false ⟨(some 25), none, (.bin .sub (.tmp 24) (.const (.int .i64 1)))⟩
  (.op false ⟨(some 26), none, (.fld 0 (.tmp 8))⟩
  (.op false ⟨none, none, (.st 1 (.tmp 26) (.tmp 25))⟩ .done)))))))))
 (.seq
 (.reg false (.op false ⟨(some 27), none, (.mv (.tmp 1))⟩
  (.op false ⟨(some 28), none, (.bin .add (.tmp 27) (.const (.int .i64 1)))⟩
  (.op false ⟨(some 1), none, (.mv (.tmp 28))⟩ .done))))
 (.seq (.seq
 (.reg false (.op false ⟨(some 29), none, (.fld 0 (.tmp 8))⟩
  (.op false ⟨(some 30), none, (.ld none (.tmp 29))⟩ .done))) (.block 0
 (.seq
 (.reg false (.op false ⟨(some 32), none, (.bin .eql (.tmp 30) (.const (.int .i64 3)))⟩
  (.op false ⟨(some 31), none, (.mv (.tmp 32))⟩ .done))) (.cond (.tmp 31)
 (.reg false (.op false ⟨(some 34), none, (.mv (.tmp 0))⟩
  (.op false ⟨(some 35), none, (.mv (.tmp 1))⟩
  (.op false ⟨(some 36), none, (.call f_thimbleref05_readDigit [(.tmp 34), (.tmp 35)])⟩
  (.op false ⟨(some 33), none, (.mv (.tmp 36))⟩
  (.op false ⟨(some 37), none, (.ext (.tmp 33) 0)⟩
  (.op false ⟨(some 38), none, (.ext (.tmp 33) 1)⟩
  (.op false ⟨(some 39), none, (.fld 1 (.tmp 8))⟩
  (.op false ⟨none, none, (.st 2 (.tmp 39) (.tmp 37))⟩
  (.op false ⟨(some 1), none, (.mv (.tmp 38))⟩ .done))))))))))
 (.seq
 (.reg false (.op false ⟨(some 41), none, (.bin .eql (.tmp 30) (.const (.int .i64 4)))⟩
  (.op false ⟨(some 40), none, (.mv (.tmp 41))⟩ .done))) (.cond (.tmp 40)
 (.reg false (.op false ⟨(some 43), none, (.mv (.tmp 0))⟩
  (.op false ⟨(some 44), none, (.mv (.tmp 1))⟩
  (.op false ⟨(some 45), none, (.call f_thimbleref05_readText [(.tmp 43), (.tmp 44)])⟩
  (.op false ⟨(some 42), none, (.mv (.tmp 45))⟩
  (.op false ⟨(some 46), none, (.ext (.tmp 42) 0)⟩
  (.op false ⟨(some 47), none, (.ext (.tmp 42) 1)⟩
  (.op false ⟨(some 48), none, (.fld 3 (.tmp 8))⟩
  (.op false ⟨none, none, (.st 1 (.tmp 48) (.tmp 46))⟩
  (.op false ⟨(some 1), none, (.mv (.tmp 47))⟩ .done))))))))))
 (.seq
 (.reg false (.op false ⟨(some 50), none, (.bin .eql (.tmp 30) (.const (.int .i64 6)))⟩
  (.op false ⟨(some 49), none, (.mv (.tmp 50))⟩ .done))) (.cond (.tmp 49)
 (.seq (.block 1 (.loop
 (.seq (.seq
 (.reg false (.op false ⟨(some 51), none, (.mv (.tmp 1))⟩
  (.op false ⟨(some 52), none, (.bin .geq (.tmp 51) (.const (.int .i64 0)))⟩
  (.op false ⟨(some 53), none, (.mv (.tmp 52))⟩
  (.op false ⟨(some 54), (some (53, true)), (.mv (.tmp 1))⟩
  (.op false ⟨(some 55), (some (53, true)), (.mv (.tmp 0))⟩
  (.op false ⟨(some 56), (some (53, true)), (.len (.tmp 55))⟩
  (.op false ⟨(some 57), (some (53, true)), (.bin .lss (.tmp 54) (.tmp 56))⟩
  (.op false ⟨(some 58), none, (.pick (.tmp 53) (.tmp 57) (.const (.bool false)))⟩
  (.op false ⟨(some 59), none, (.mv (.tmp 58))⟩
  (.op false ⟨(some 60), (some (59, true)), (.mv (.tmp 0))⟩
  (.op false ⟨(some 61), (some (59, true)), (.mv (.tmp 1))⟩
  (.op false ⟨(some 62), (some (59, true)), (.idx 1 (.tmp 60) (.tmp 61))⟩
  (.op false ⟨(some 63), (some (59, true)), (.ld none (.tmp 62))⟩
  (.op false ⟨(some 64), (some (59, true)), (.bin .eql (.tmp 63) (.const (.int .u8 5)))⟩
  (.op false ⟨(some 65), none, (.pick (.tmp 59) (.tmp 64) (.const (.bool false)))⟩ .done)))))))))))))))) (.cond (.tmp 65) .skip (.exit 1))) (.block 2
 (.seq
 (.reg false (.op false ⟨(some 9), none, (.mv (.const (strV [])))⟩ .done))
 (.seq
 (.reg false (.op false ⟨(some 67), none, (.mv (.tmp 0))⟩
  (.op false ⟨(some 68), none, (.mv (.tmp 1))⟩
  (.op false ⟨(some 69), none, (.bin .add (.tmp 68) (.const (.int .i64 1)))⟩
  (.op false ⟨(some 70), none, (.call f_thimbleref05_readText [(.tmp 67), (.tmp 69)])⟩
  (.op false ⟨(some 66), none, (.mv (.tmp 70))⟩
  (.op false ⟨(some 71), none, (.ext (.tmp 66) 0)⟩
  (.op false ⟨(some 72), none, (.ext (.tmp 66) 1)⟩
  (.op false ⟨(some 9), none, (.mv (.tmp 71))⟩
  (.op false ⟨(some 1), none, (.mv (.tmp 72))⟩ .done))))))))))
 (.reg false (.op false ⟨(some 73), none, (.fld 5 (.tmp 8))⟩
  (.op false ⟨(some 74), none, (.ld none (.tmp 73))⟩
  (.op false ⟨(some 75), none, (.mv (.tmp 9))⟩
  (.op false ⟨(some 76), none, (.bsl 1 1 [(strV [])] [(0, (.tmp 75))])⟩
  (.op false ⟨(some 77), none, (.app 1 16 [(strV [])] (.tmp 74) (.tmp 76))⟩
  (.op false ⟨(some 78), none, (.fld 5 (.tmp 8))⟩
  (.op false ⟨none, none, (.st 1 (.tmp 78) (.tmp 77))⟩ .done))))))))))))))
 (.seq (.seq
 (.reg false (.op false ⟨(some 79), none, (.mv (.tmp 1))⟩
  (.op false ⟨(some 80), none, (.bin .lss (.tmp 79) (.const (.int .i64 0)))⟩
  (.op false ⟨(some 81), none, (.mv (.tmp 80))⟩
  (.op false ⟨(some 82), (some (81, false)), (.mv (.tmp 1))⟩
  (.op false ⟨(some 83), (some (81, false)), (.mv (.tmp 0))⟩
  (.op false ⟨(some 84), (some (81, false)), (.len (.tmp 83))⟩
  (.op false ⟨(some 85), (some (81, false)), (.bin .geq (.tmp 82) (.tmp 84))⟩
  (.op false ⟨(some 86), none, (.pick (.tmp 81) (.const (.bool true)) (.tmp 85))⟩
  (.op false ⟨(some 87), none, (.mv (.tmp 86))⟩
  (.op false ⟨(some 88), (some (87, false)), (.mv (.tmp 0))⟩
  (.op false ⟨(some 89), (some (87, false)), (.mv (.tmp 1))⟩
  (.op false ⟨(some 90), (some (87, false)), (.idx 1 (.tmp 88) (.tmp 89))⟩
  (.op false ⟨(some 91), (some (87, false)), (.ld none (.tmp 90))⟩
  (.op false ⟨(some 92), (some (87, false)), (.bin .neq (.tmp 91) (.const (.int .u8 0)))⟩
  (.op false ⟨(some 93), none, (.pick (.tmp 87) (.const (.bool true)) (.tmp 92))⟩ .done)))))))))))))))) (.cond (.tmp 93)
 (.seq
 (.reg false (.op false ⟨(some 94), none, (.ld (some 6) (.tmp 8))⟩
  (.op false ⟨none, none, (.st 6 (.tmp 6) (.tmp 94))⟩
  (.op false ⟨(some 7), none, (.mv (.const (.int .i64 (-1))))⟩ .done)))) .ret) .skip))
 (.reg false (.op false ⟨(some 95), none, (.mv (.tmp 1))⟩
  (.op false ⟨(some 96), none, (.bin .add (.tmp 95) (.const (.int .i64 1)))⟩
  (.op false ⟨(some 1), none, (.mv (.tmp 96))⟩ .done)))))) .skip))))))))
 (.seq (.block 3 (.loop
 (.seq (.seq
 (.reg false (.op false ⟨(some 97), none, (.fld 0 (.tmp 8))⟩
  (.op false ⟨(some 98), none, (.ld none (.tmp 97))⟩
  (.op false ⟨(some 99), none, (.bin .eql (.tmp 98) (.const (.int .i64 6)))⟩
  (.op false ⟨(some 100), none, (.mv (.tmp 99))⟩
  (.op false ⟨(some 101), (some (100, true)), (.mv (.tmp 1))⟩
  (.op false ⟨(some 102), (some (100, true)), (.bin .geq (.tmp 101) (.const (.int .i64 0)))⟩
  (.op false ⟨(some 103), none, (.pick (.tmp 100) (.tmp 102) (.const (.bool false)))⟩
  (.op false ⟨(some 104), none, (.mv (.tmp 103))⟩
  (.op false ⟨(some 105), (some (104, true)), (.fld 4 (.tmp 8))⟩
  (.op false ⟨(some 106), (some (104, true)), (.ld none (.tmp 105))⟩
  (.op false ⟨(some 107), (some (104, true)), (.len (.tmp 106))⟩
  (.op false ⟨(some 108), (some (104, true)), (.fld 5 (.tmp 8))⟩
  (.op false ⟨(some 109), (some (104, true)), (.ld none (.tmp 108))⟩
  (.op false ⟨(some 110), (some (104, true)), (.len (.tmp 109))⟩
  (.op false ⟨(some 111), (some (104, true)), (.bin .lss (.tmp 107) (.tmp 110))⟩
  (.op false ⟨(some 112), none, (.pick (.tmp 104) (.tmp 111) (.const (.bool false)))⟩
  (.op false ⟨(some 113), none, (.mv (.tmp 112))⟩
  (.op false ⟨(some 114), (some (113, false)), (.fld 0 (.tmp 8))⟩
  (.op false ⟨(some 115), (some (113, false)), (.ld none (.tmp 114))⟩
  (.op false ⟨(some 116), (some (113, false)), (.bin .eql (.tmp 115) (.const (.int .i64 5)))⟩
  (.op false ⟨(some 117), (some (113, false)), (.mv (.tmp 116))⟩
  (.op false ⟨(some 118), (some (117, true)), (.mv (.tmp 1))⟩
  (.op false ⟨(some 119), (some (117, true)), (.bin .geq (.tmp 118) (.const (.int .i64 0)))⟩
  (.op false ⟨(some 120), (some (113, false)), (.pick (.tmp 117) (.tmp 119) (.const (.bool false)))⟩
  (.op false ⟨(some 121), (some (113, false)), (.mv (.tmp 120))⟩
  (.op false ⟨(some 122), (some (121, true)), (.mv (.tmp 1))⟩
  (.op false ⟨(some 123), (some (121, true)), (.mv (.tmp 0))⟩
  (.op false ⟨(some 124), (some (121, true)), (.len (.tmp 123))⟩
  (.op false ⟨(some 125), (some (121, true)), (.bin .lss (.tmp 122) (.tmp 124))⟩
  (.op false ⟨(some 126), (some (113, false)), (.pick (.tmp 121) (.tmp 125) (.const (.bool false)))⟩
  (.op false ⟨(some 127), (some (113, false)), (.mv (.tmp 126))⟩
  (.op false ⟨(some 128), (some (127, true)), (.mv (.tmp 0))⟩
  (.op false ⟨(some 129), (some (127, true)), (.mv (.tmp 1))⟩
  (.op false ⟨(some 130), (some (127, true)), (.idx 1 (.tmp 128) (.tmp 129))⟩
  (.op false ⟨(some 131), (some (127, true)), (.ld none (.tmp 130))⟩
  (.op false ⟨(some 132), (some (127, true)), (.bin .neq (.tmp 131) (.const (.int .u8 0)))⟩
  (.op false ⟨(some 133), (some (113, false)), (.pick (.tmp 127) (.tmp 132) (.const (.bool false)))⟩
  (.op false ⟨(some 134), none, (.pick (.tmp 113) (.const (.bool true)) (.tmp 133))⟩ .done))))))))))))))))))))))))))))))))))))))) (.cond (.tmp 134) .skip (.exit 3))) (.block 4
 (.seq
 (.reg false (.op false ⟨(some 10), none, (.alo (.agg #[(.int .i64 0), (.int .i64 0), (.int .i64 0), (strV []), (.slice none 0 0), (.slice none 0 0)]))⟩ .done))
 (.seq
 (.reg false (.op false ⟨(some 136), none, (.mv (.tmp 0))⟩
  (.op false ⟨(some 137), none, (.mv (.tmp 1))⟩
  (.op false ⟨(some 138), none, (.mv (.tmp 2))⟩
  (.op false ⟨(some 139), none, (.bin .sub (.tmp 138) (.const (.int .i64 1)))⟩
  (.op false ⟨(some 140), none, (.call f_thimbleref05_read [(.tmp 136), (.tmp 137), (.tmp 139)])⟩
  (.op false ⟨(some 135), none, (.mv (.tmp 140))⟩
  (.op false ⟨(some 141), none, (.ext (.tmp 135) 0)⟩
  (.op false ⟨(some 142), none, (.ext (.tmp 135) 1)⟩
  (.op false ⟨none, none, (.st 6 (.tmp 10) (.tmp 141))⟩
  (.op false ⟨(some 1), none, (.mv (.tmp 142))⟩ .done)))))))))))
 (.reg false (.op false ⟨(some 143), none, (.fld 4 (.tmp 8))⟩
  (.op false ⟨(some 144), none, (.ld none (.tmp 143))⟩
  (.op false ⟨(some 145), none, (.ld (some 6) (.tmp 10))⟩
  (.op false ⟨(some 146), none, (.bsl 1 6 [(.int .i64 0), (.int .i64 0), (.int .i64 0), (strV []), (.slice none 0 0), (.slice none 0 0)] [(0, (.tmp 145))])⟩
  (.op false ⟨(some 147), none, (.app 6 88 [(.int .i64 0), (.int .i64 0), (.int .i64 0), (strV []), (.slice none 0 0), (.slice none 0 0)] (.tmp 144) (.tmp 146))⟩
  (.op false ⟨(some 148), none, (.fld 4 (.tmp 8))⟩
  (.op false ⟨none, none, (.st 1 (.tmp 148) (.tmp 147))⟩ .done))))))))))))))
 (.seq (.seq
 (.reg false (.op false ⟨(some 149), none, (.fld 0 (.tmp 8))⟩
  (.op false ⟨(some 150), none, (.ld none (.tmp 149))⟩
  (.op false ⟨(some 151), none, (.bin .eql (.tmp 150) (.const (.int .i64 5)))⟩
  (.op false ⟨(some 152), none, (.mv (.tmp 151))⟩
  (.op false ⟨(some 153), (some (152, true)), (.mv (.tmp 1))⟩
  (.op false ⟨(some 154), (some (152, true)), (.bin .geq (.tmp 153) (.const (.int .i64 0)))⟩
  (.op false ⟨(some 155), none, (.pick (.tmp 152) (.tmp 154) (.const (.bool false)))⟩ .done)))))))) (.cond (.tmp 155)
 (.reg false (.op false ⟨(some 156), none, (.mv (.tmp 1))⟩
  (.op false ⟨(some 157), none, (.bin .add (.tmp 156) (.const (.int .i64 1)))⟩
  (.op false ⟨(some 1), none, (.mv (.tmp 157))⟩ .done)))) .skip))
 (.seq
 (.reg false (.op false ⟨(some 158), none, (.ld (some 6) (.tmp 8))⟩
  (.op false ⟨(some 159), none, (.mv (.tmp 1))⟩
  (.op false ⟨none, none, (.st 6 (.tmp 6) (.tmp 158))⟩
  (.op false ⟨(some 7), none, (.mv (.tmp 159))⟩ .done))))) .ret)))))))))⟩

set_option maxHeartbeats 2000000 in
theorem rread_ok {P : Program} {f f1 f2 : FuncId} (hd : dec P f = some (g_thimbleref05_read f1 f2 f)) (h1 : RReadDigitOk P f1) (h2 : RReadTextOk P f2) : RReadOk P f := by
  intro deep
  have out : ∀ {deep n : Nat} {b : List UInt8}, (b.length ≤ n ∨ deep = 0) → ∀ x r, shp x → depthV x ≤ deep → b.drop n = keyV x ++ r → V.zero = x ∧ ∃ k : Nat, (-1 : Int) = k ∧ k ≤ b.length ∧ b.drop k = r := fun h x r _ hx e => by
    rcases h with h | h
    · rw [List.drop_eq_nil_of_le h] at e
      have := congrArg List.length e
      have := keyV_pos x
      simp at *; omega
    · have := depth_pos x; omega
  have htx : ∀ {at_ : Nat} {b : List UInt8} {r : Value}, at_ ≤ b.length → ((∃ s k, r = .tuple #[strV s, .int .i64 (k : Nat)] ∧ k ≤ b.length ∧ at_ ≤ k ∧ b.drop at_ = keyT s ++ b.drop k) ∨ (r = .tuple #[strV [], .int .i64 (-1)] ∧ ∀ t r, b.drop at_ ≠ keyT t ++ r)) →
      ∃ s z, r = .tuple #[strV s, .int .i64 z] ∧ (z = -1 ∨ ∃ k : Nat, z = k ∧ at_ < k ∧ k ≤ b.length ∧ 2 + s.length + at_ ≤ k) ∧ s.length ≤ b.length ∧ ∀ t r, b.drop at_ = keyT t ++ r → s = t ∧ ∃ k : Nat, z = k ∧ k ≤ b.length ∧ b.drop k = r := fun {at_ b r} ha hr => by
    rcases hr with ⟨s, k, hr, hk, hnk, hbd⟩ | ⟨hr, hno⟩
    · have q1 := keyT_len' s
      have q2 := congrArg List.length hbd
      simp only [List.length_append, List.length_drop] at q2
      refine ⟨s, k, hr, .inr ⟨k, rfl, by omega, hk, by omega⟩, by omega, fun t r h => ?_⟩
      obtain ⟨e1, e2⟩ := keyT_inj (hbd.symm.trans h)
      exact ⟨e1, k, rfl, hk, e2⟩
    · exact ⟨[], -1, hr, .inl rfl, Nat.zero_le _, fun t r h => absurd h (hno t r)⟩
  induction deep with
  | zero =>
    intro d vb b n _ hb hbl hn
    refine GCall_of hd (Nat.le_of_ble_eq_true rfl) ?_
    obtain ⟨ba, bc, rfl⟩ := RSl.val hb
    have hb' : RSl 1 RByte d (.slice ba b.length bc) b := hb
    show gwp P _ _ _ _ _
    apply w_sq; apply w_reg
    refine w_alo (fun b6 T6 => ?_)
    apply w_mvi; rfl; apply w_done; apply w_sq; apply w_reg
    refine w_alo (fun b8 T8 => ?_)
    by_cases hc : n < b.length
    · (apply w_done0; apply w_sq; apply w_sq; apply w_reg; apply w_mvi; rfl; apply w_mvs; rfl; apply w_len; rfl; apply w_geq; rfl; rfl; apply w_mvb; rfl; refine w_gdF rfl (by omega) ?_; apply w_gT; rfl; apply w_mvi; rfl; apply w_gT; rfl; apply w_eql; rfl; rfl; apply w_pickFb; rfl; rfl; apply w_done0; refine w_ifdT rfl (by omega) ?_; apply w_sq; apply w_reg; apply w_ldb 0; rfl; rfl; rfl)
      refine w_stE 1 zVal rfl rfl rfl rfl (Nat.le_of_ble_eq_true rfl) rfl rfl ?_
      (apply w_mvi; rfl; apply w_done0; apply w_ret)
      exact finS (L' := []) [.agg zVal.toArray, .int .i64 (-1)] ⟨res_cell 1 rfl rfl rfl, rfl, trivial⟩ (List.nil_sublist _) ⟨rfl, zVal, V.zero, -1, rfl, RVal.zero, Nat.le_refl _, .inl rfl, out (.inr rfl)⟩
    · (apply w_done0; apply w_sq; apply w_sq; apply w_reg; apply w_mvi; rfl; apply w_mvs; rfl; apply w_len; rfl; apply w_geq; rfl; rfl; apply w_mvb; rfl; refine w_gdT rfl (by omega) ?_; apply w_gF; rfl; apply w_gF; rfl; apply w_pickTb; rfl; rfl; apply w_done0; apply w_ifT; rfl; apply w_sq; apply w_reg; apply w_ldb 0; rfl; rfl; rfl)
      refine w_stE 1 zVal rfl rfl rfl rfl (Nat.le_of_ble_eq_true rfl) rfl rfl ?_
      (apply w_mvi; rfl; apply w_done0; apply w_ret)
      exact finS (L' := []) [.agg zVal.toArray, .int .i64 (-1)] ⟨res_cell 1 rfl rfl rfl, rfl, trivial⟩ (List.nil_sublist _) ⟨rfl, zVal, V.zero, -1, rfl, RVal.zero, Nat.le_refl _, .inl rfl, out (.inr rfl)⟩
  | succ left ih =>
    intro d vb b n hlf hb hbl hn
    refine GCall_of hd (Nat.le_of_ble_eq_true rfl) ?_
    obtain ⟨ba, bc, rfl⟩ := RSl.val hb
    have hb' : RSl 1 RByte d (.slice ba b.length bc) b := hb
    obtain ⟨le, hle⟩ : ∃ le : Int, ((left + 1 : Nat) : Int) = le := ⟨_, rfl⟩
    rw [hle]
    have hle0 : le ≠ 0 := by omega
    have hle1 : le - 1 = (left : Nat) := by omega
    have hdp : ∀ x : V, depthV x ≤ left + 1 ↔ ∀ y ∈ x.list, depthV y ≤ left := fun x => depth_le
    have hdp2 : ∀ x : V, depthV x ≤ left + 1 + 1 ↔ ∀ y ∈ x.list, depthV y ≤ left + 1 := fun x => depth_le
    show gwp P _ _ _ _ _
    apply w_sq; apply w_reg
    refine w_alo (fun b6 T6 => ?_)
    apply w_mvi; rfl; apply w_done; apply w_sq; apply w_reg
    refine w_alo (fun b8 T8 => ?_)
    by_cases hc : n < b.length
    rotate_left
    · (apply w_done0; apply w_sq; apply w_sq; apply w_reg; apply w_mvi; rfl; apply w_mvs; rfl; apply w_len; rfl; apply w_geq; rfl; rfl; apply w_mvb; rfl; refine w_gdT rfl (by omega) ?_; apply w_gF; rfl; apply w_gF; rfl; apply w_pickTb; rfl; rfl; apply w_done0; apply w_ifT; rfl; apply w_sq; apply w_reg; apply w_ldb 0; rfl; rfl; rfl)
      refine w_stE 1 zVal rfl rfl rfl rfl (Nat.le_of_ble_eq_true rfl) rfl rfl ?_
      (apply w_mvi; rfl; apply w_done0; apply w_ret)
      exact finS (L' := []) [.agg zVal.toArray, .int .i64 (-1)] ⟨res_cell 1 rfl rfl rfl, rfl, trivial⟩ (List.nil_sublist _) ⟨rfl, zVal, V.zero, -1, rfl, RVal.zero, Nat.le_add_left _ _, .inl rfl, out (.inl (by omega))⟩
    have hdk := List.drop_eq_getElem_cons hc
    obtain ⟨c, hcc⟩ : ∃ c, b[n] = c := ⟨_, rfl⟩
    have hcl := c.toNat_lt
    obtain ⟨kd, hkd⟩ : ∃ kd : Int, ((c.toNat : Nat) : Int) - 1 = kd := ⟨_, rfl⟩
    have hi : I64 kd := ⟨by omega, by omega⟩
    have hn1 : n + 1 ≤ b.length := hc
    rw [hcc] at hdk
    (apply w_done0; apply w_sq; apply w_sq; apply w_reg; apply w_mvi; rfl; apply w_mvs; rfl; apply w_len; rfl; apply w_geq; rfl; rfl; apply w_mvb; rfl; refine w_gdF rfl (by omega) ?_; apply w_gT; rfl; apply w_mvi; rfl; apply w_gT; rfl; apply w_eql; rfl; rfl; apply w_pickFb; rfl; rfl; apply w_done0; refine w_ifdF rfl (by omega) ?_; apply w_skip; apply w_sq; apply w_reg; apply w_mvs; rfl; apply w_mvi; rfl; refine w_idxR (sz := 1) (R := RByte) (by rfl) (by assumption) (by rfl) rfl (by omega) ?_; rintro _ _ _ _ _ rfl; apply w_ld; rfl; exact hc_ds0 (by assumption) rfl)
    rw [hcc]
    (apply w_cvi64; rfl; omega; omega; apply w_sub; rfl; rfl; omega; omega; apply w_fld; rfl)
    rw [hkd]
    refine w_stE 0 [.int .i64 kd, .int .i64 0, .int .i64 0, strV [], .slice none 0 0, .slice none 0 0] rfl rfl rfl rfl (Nat.le_of_ble_eq_true rfl) rfl rfl ?_
    apply w_done
    apply w_sq; apply w_reg
    (apply w_mvi; rfl; apply w_add; rfl; rfl; omega; omega; apply w_mvi; rfl; apply w_done0)
    refine w_mid (fun ρ d2 L' => ∃ m e t ka kc ks z, SlotsAre ρ [(0, .slice ba b.length bc), (1, .int .i64 z), (2, .int .i64 le), (6, .pointer (some ⟨b6, 0, none⟩)), (7, .int .i64 0), (8, .pointer (some ⟨b8, 0, none⟩))] ∧ Le d d2 ∧ I64 m ∧ I64 e ∧ t.length ≤ b.length ∧ RSl 1 RStr d2 (.slice ka ks.length kc) ks ∧ (z = -1 ∨ ∃ k : Nat, z = k ∧ n < k ∧ k ≤ b.length ∧ 1 + t.length + klens ks + n ≤ k) ∧
      (∀ x r, shp x → depthV x ≤ left + 1 → b.drop n = keyV x ++ r → x.kind = kd ∧ x.m = m ∧ x.e = e ∧ x.text = t ∧ x.keys = ks ∧ ∃ k : Nat, z = k ∧ k ≤ b.length ∧ b.drop k = (if kd = 6 then keyVs x.list else if kd = 5 then keyVs x.list ++ [0] else []) ++ r) ∧
      L' = [bx b8 T8 [.int .i64 kd, .int .i64 m, .int .i64 e, strV t, .slice none 0 0, .slice ka ks.length kc], bx b6 T6 zVal, emp]) ?_ ?_
    · have hgood : ∀ {x r}, shp x → b.drop n = keyV x ++ r → x.kind = kd ∧ b.drop (n + 1) = (if x.kind = 3 then keyN x.m x.e else if x.kind = 4 then keyT x.text else if x.kind = 6 then keyKs x.keys ++ 0 :: keyVs x.list else if x.kind = 5 then keyVs x.list ++ [0] else []) ++ r := fun {x r} hs h => by
        obtain ⟨g1, g2⟩ := keyV_tail hs (hdk.symm.trans h)
        exact ⟨by omega, g2⟩
      apply w_sq; apply w_reg
      refine w_vs d [bx b8 T8 [.int .i64 kd, .int .i64 0, .int .i64 0, strV [], .slice none 0 0, .slice none 0 0], bx b6 T6 zVal, emp] (Vs.emp.trans (Vs.pick (L := [emp, bx b8 T8 [.int .i64 kd, .int .i64 0, .int .i64 0, strV [], .slice none 0 0, .slice none 0 0], bx b6 T6 zVal]) [1, 2, 0] rfl)) ?_
      by_cases k3 : kd = 3
      · (apply w_fld; rfl; apply w_ld; rfl; exact hc_i 0 rfl rfl; apply w_done0; apply w_block; apply w_sq; apply w_reg; apply w_eql; rfl; rfl; apply w_mvb; rfl; apply w_done0; refine w_ifdT rfl (by omega) ?_; apply w_reg; apply w_mvs; rfl; apply w_mvi; rfl)
        refine w_call0 rfl (h1 hb hn1 hbl) (fun r d4 L4 _ ⟨hdd, hL, m, e, o, hr, hm, he, hko, hrel⟩ => ?_)
        subst hdd; subst hL; subst hr
        (apply w_mvu; rfl; apply w_ext; rfl; rfl; apply w_ext; rfl; rfl; apply w_fld; rfl)
        refine w_stE 0 [.int .i64 kd, .int .i64 m, .int .i64 e, strV [], .slice none 0 0, .slice none 0 0] rfl rfl rfl rfl (Nat.le_of_ble_eq_true rfl) rfl rfl ?_
        (apply w_mvi; rfl; apply w_done0)
        refine ⟨m, e, [], none, 0, [], opt o, ⟨rfl, rfl, rfl, rfl, rfl, rfl, trivial⟩, Le.refl _, hm, he, Nat.zero_le _, RSl.nil, (by cases o with | none => exact .inl rfl | some k => have := hko k rfl; exact .inr ⟨k, rfl, by omega, by omega, by simp [klens]; omega⟩), fun x r hs hx h => ?_, rfl⟩
        obtain ⟨⟨a1, a2, a3, a4, a5, a6, a7⟩, hal⟩ := shp_iff.1 hs
        obtain ⟨g1, g2⟩ := hgood hs h
        rw [if_pos (by omega)] at g2
        obtain ⟨p1, p2, k, p3, p4⟩ := hrel _ _ _ a6 g2
        exact ⟨g1, p1.symm, p2.symm, a3.resolve_left (by omega), a5.resolve_left (by omega), k, (by rw [p3]; rfl), (hko k p3).2, by rw [if_neg (by omega), if_neg (by omega), p4]; rfl⟩
      by_cases k4 : kd = 4
      · (apply w_fld; rfl; apply w_ld; rfl; exact hc_i 0 rfl rfl; apply w_done0; apply w_block; apply w_sq; apply w_reg; apply w_eql; rfl; rfl; apply w_mvb; rfl; apply w_done0; refine w_ifdF rfl (by omega) ?_; apply w_sq; apply w_reg; apply w_eql; rfl; rfl; apply w_mvb; rfl; apply w_done0; refine w_ifdT rfl (by omega) ?_; apply w_reg; apply w_mvs; rfl; apply w_mvi; rfl)
        refine w_call0 rfl (h2 hb hn1 hbl) (fun r d4 L4 _ ⟨hdd, hL, hr⟩ => ?_)
        subst hdd; subst hL
        obtain ⟨s, z, hr, hso, hsl, hrel⟩ := htx hn1 hr
        subst hr
        (apply w_mvu; rfl; apply w_ext; rfl; rfl; apply w_ext; rfl; rfl; apply w_fld; rfl)
        refine w_stE 0 [.int .i64 kd, .int .i64 0, .int .i64 0, strV s, .slice none 0 0, .slice none 0 0] rfl rfl rfl rfl (Nat.le_of_ble_eq_true rfl) rfl rfl ?_
        (apply w_mvi; rfl; apply w_done0)
        refine ⟨0, 0, s, none, 0, [], z, ⟨rfl, rfl, rfl, rfl, rfl, rfl, trivial⟩, Le.refl _, i64_0, i64_0, hsl, RSl.nil, (by rcases hso with h | ⟨k, h, g1, g2, g3⟩; exact .inl h; exact .inr ⟨k, h, by omega, by omega, by simp [klens]; omega⟩), fun x r hs hx h => ?_, rfl⟩
        obtain ⟨⟨a1, a2, a3, a4, a5, a6, a7⟩, hal⟩ := shp_iff.1 hs
        obtain ⟨g1, g2⟩ := hgood hs h
        rw [if_neg (by omega), if_pos (by omega)] at g2
        obtain ⟨p1, k, p3, p5, p4⟩ := hrel _ _ g2
        have hme := a2.resolve_left (by omega)
        exact ⟨g1, hme.1, hme.2, p1.symm, a5.resolve_left (by omega), k, p3, p5, by rw [if_neg (by omega), if_neg (by omega), p4]; rfl⟩
      by_cases k6 : kd = 6
      · (apply w_fld; rfl; apply w_ld; rfl; exact hc_i 0 rfl rfl; apply w_done0; apply w_block; apply w_sq; apply w_reg; apply w_eql; rfl; rfl; apply w_mvb; rfl; apply w_done0; refine w_ifdF rfl (by omega) ?_; apply w_sq; apply w_reg; apply w_eql; rfl; rfl; apply w_mvb; rfl; apply w_done0; refine w_ifdF rfl (by omega) ?_; apply w_sq; apply w_reg; apply w_eql; rfl; rfl; apply w_mvb; rfl; apply w_done0; refine w_ifdT rfl (by omega) ?_; apply w_sq; apply w_block)
        refine w_loopV (α := List (List UInt8) × Int) (fun x _ => [(0, .slice ba b.length bc), (1, .int .i64 x.2), (2, .int .i64 le), (6, .pointer (some ⟨b6, 0, none⟩)), (7, .int .i64 0), (8, .pointer (some ⟨b8, 0, none⟩))])
          (fun x v h d2 L' => d2 = d ∧ x.1.length ≤ b.length + 1 ∧ (x.2 = -1 ∨ ∃ k : Nat, x.2 = k ∧ n < k ∧ k ≤ b.length ∧ 1 + klens x.1 + n ≤ k) ∧ GRow 1 RStr d2 v x.1 h ∧
            (∀ y r, shp y → depthV y ≤ left + 1 → b.drop n = keyV y ++ r → y.kind = kd ∧ ∃ ls, ∃ k : Nat, y.keys = x.1 ++ ls ∧ x.2 = k ∧ k ≤ b.length ∧ b.drop k = keyKs ls ++ 0 :: (keyVs y.list ++ r)) ∧
            L' = [bx b8 T8 [.int .i64 kd, .int .i64 0, .int .i64 0, strV [], .slice none 0 0, v], bx b6 T6 zVal, h])
          (fun x => ofs b.length x.2) ([], ((n + 1 : Nat) : Int)) (.slice none 0 0) emp ⟨rfl, rfl, rfl, rfl, rfl, rfl, trivial⟩ ⟨rfl, Nat.zero_le _, .inr ⟨n + 1, rfl, by omega, hn1, by simp [klens]; omega⟩, GRow.nil, fun y r hs _ h => by
            obtain ⟨g1, g2⟩ := hgood hs h
            rw [if_neg (by omega), if_neg (by omega), if_pos (by omega)] at g2
            exact ⟨g1, y.keys, n + 1, rfl, rfl, hn1, by rw [g2]; simp⟩, rfl⟩ ?_
        rintro ⟨ks, z⟩ v g ρ d2 L' ⟨hdd, hkl, hko, hgr, hrel, hL⟩
        subst hdd; subst hL
        simp only at hkl hko hgr hrel ⊢
        obtain ⟨ka, kc, rfl⟩ := hgr.val
        have hfz : RSl 1 RStr (join d2 g) (.slice ka ks.length kc) ks := hgr.rsl (R := RStr) mono_str (by omega) (Le.join_left _ _) (Le.join_right _ _)
        have hVs : Vs d2 [bx b8 T8 [.int .i64 kd, .int .i64 0, .int .i64 0, strV [], .slice none 0 0, .slice ka ks.length kc], bx b6 T6 zVal, g] (join d2 g) [bx b8 T8 [.int .i64 kd, .int .i64 0, .int .i64 0, strV [], .slice none 0 0, .slice ka ks.length kc], bx b6 T6 zVal, emp] := (Vs.pick [2, 0, 1] rfl).trans (Vs.freeze.trans (Vs.emp.trans (Vs.pick [1, 2, 0] rfl)))
        have hRV : RVal (join d2 g) [.int .i64 kd, .int .i64 0, .int .i64 0, strV [], .slice none 0 0, .slice ka ks.length kc] (.mk kd 0 0 [] [] ks) := RVal.close (v := .mk kd 0 0 [] [] ks) hi i64_0 i64_0 (by simp) RSl.nil hfz
        have hb2 := RSl.mono (R := RByte) mono_byte hb (Le.join_left d2 g)
        rcases hko with hz | ⟨k, hz, hk1, hk2, hk3⟩
        · subst hz
          apply w_sq; apply w_sq; apply w_reg
          refine w_vs _ _ hVs ?_
          (apply w_mvi; rfl; apply w_geq; rfl; rfl; apply w_mvb; rfl; refine w_gdF rfl (by omega) ?_; apply w_gF; rfl; apply w_gF; rfl; apply w_gF; rfl; apply w_gF; rfl; apply w_pickFb; rfl; rfl; apply w_mvb; rfl; apply w_gF; rfl; apply w_gF; rfl; apply w_gF; rfl; apply w_gF; rfl; apply w_gF; rfl; apply w_pickFb; rfl; rfl; apply w_done0; apply w_ifF; rfl; apply w_exit; apply w_sq; apply w_sq; apply w_reg; apply w_mvi; rfl; apply w_lss; rfl; rfl; apply w_mvb; rfl; refine w_gdT rfl (by omega) ?_; apply w_gF; rfl; apply w_gF; rfl; apply w_gF; rfl; apply w_gF; rfl; apply w_pickTb; rfl; rfl; apply w_mvb; rfl; apply w_gF; rfl; apply w_gF; rfl; apply w_gF; rfl; apply w_gF; rfl; apply w_gF; rfl; apply w_pickTb; rfl; rfl; apply w_done0; apply w_ifT; rfl; apply w_sq; apply w_reg; apply w_ldb 0; rfl; rfl; rfl)
          refine w_stE 1 [.int .i64 kd, .int .i64 0, .int .i64 0, strV [], .slice none 0 0, .slice ka ks.length kc] rfl rfl rfl rfl (Nat.le_of_ble_eq_true rfl) rfl rfl ?_
          (apply w_mvi; rfl; apply w_done0; apply w_ret)
          exact finS (L' := []) [.agg [.int .i64 kd, .int .i64 0, .int .i64 0, strV [], .slice none 0 0, .slice ka ks.length kc].toArray, .int .i64 (-1)] ⟨res_cell 1 rfl rfl rfl, rfl, trivial⟩ (List.nil_sublist _) ⟨rfl, _, _, -1, rfl, hRV, by rw [hdp2]; simp, .inl rfl, fun x r hs hx h => by obtain ⟨_, ls, k, _, h9, _⟩ := hrel x r hs hx h; omega⟩
        subst hz
        by_cases hkl2 : k < b.length
        rotate_left
        · apply w_sq; apply w_sq; apply w_reg
          refine w_vs _ _ hVs ?_
          (apply w_mvi; rfl; apply w_geq; rfl; rfl; apply w_mvb; rfl; refine w_gdT rfl (by omega) ?_; apply w_gT; rfl; apply w_mvi; rfl; apply w_gT; rfl; apply w_mvs; rfl; apply w_gT; rfl; apply w_len; rfl; apply w_gT; rfl; apply w_lss; rfl; rfl; apply w_pickTb; rfl; rfl; apply w_mvb; rfl; refine w_gdF rfl (by omega) ?_; apply w_gF; rfl; apply w_gF; rfl; apply w_gF; rfl; apply w_gF; rfl; apply w_gF; rfl; apply w_pickFb; rfl; rfl; apply w_done0; apply w_ifF; rfl; apply w_exit; apply w_sq; apply w_sq; apply w_reg; apply w_mvi; rfl; apply w_lss; rfl; rfl; apply w_mvb; rfl; refine w_gdF rfl (by omega) ?_; apply w_gT; rfl; apply w_mvi; rfl; apply w_gT; rfl; apply w_mvs; rfl; apply w_gT; rfl; apply w_len; rfl; apply w_gT; rfl; apply w_geq; rfl; rfl; apply w_pickFb; rfl; rfl; apply w_mvb; rfl; refine w_gdT rfl (by omega) ?_; apply w_gF; rfl; apply w_gF; rfl; apply w_gF; rfl; apply w_gF; rfl; apply w_gF; rfl; apply w_pickTb; rfl; rfl; apply w_done0; apply w_ifT; rfl; apply w_sq; apply w_reg; apply w_ldb 0; rfl; rfl; rfl)
          refine w_stE 1 [.int .i64 kd, .int .i64 0, .int .i64 0, strV [], .slice none 0 0, .slice ka ks.length kc] rfl rfl rfl rfl (Nat.le_of_ble_eq_true rfl) rfl rfl ?_
          (apply w_mvi; rfl; apply w_done0; apply w_ret)
          exact finS (L' := []) [.agg [.int .i64 kd, .int .i64 0, .int .i64 0, strV [], .slice none 0 0, .slice ka ks.length kc].toArray, .int .i64 (-1)] ⟨res_cell 1 rfl rfl rfl, rfl, trivial⟩ (List.nil_sublist _) ⟨rfl, _, _, -1, rfl, hRV, by rw [hdp2]; simp, .inl rfl, fun x r hs hx h => by
            obtain ⟨_, ls, k0, _, h8, _, h9⟩ := hrel x r hs hx h
            obtain rfl : k = k0 := by omega
            rw [List.drop_eq_nil_of_le (by omega)] at h9
            simp at h9⟩
        have hdk2 := List.drop_eq_getElem_cons hkl2
        have hbk := b[k].toNat_lt
        by_cases h5 : b[k] = 5
        · have h5' : ((b[k].toNat : Nat) : Int) = 5 := by rw [h5]; rfl
          have hk1' : k + 1 ≤ b.length := hkl2
          (apply w_sq; apply w_sq; apply w_reg; apply w_mvi; rfl; apply w_geq; rfl; rfl; apply w_mvb; rfl; refine w_gdT rfl (by omega) ?_; apply w_gT; rfl; apply w_mvi; rfl; apply w_gT; rfl; apply w_mvs; rfl; apply w_gT; rfl; apply w_len; rfl; apply w_gT; rfl; apply w_lss; rfl; rfl; apply w_pickTb; rfl; rfl; apply w_mvb; rfl; refine w_gdT rfl (by omega) ?_; apply w_gT; rfl; apply w_mvs; rfl; apply w_gT; rfl; apply w_mvi; rfl; apply w_gT; rfl; refine w_idxR (sz := 1) (R := RByte) (by rfl) (by assumption) (by rfl) rfl (by omega) ?_; rintro _ _ _ _ _ rfl; apply w_gT; rfl; apply w_ld; rfl; exact hc_ds0 (by assumption) rfl; apply w_gT; rfl; apply w_eql; rfl; rfl; apply w_pickTb; rfl; rfl; apply w_done0; refine w_ifdT rfl (by omega) ?_; apply w_skip; apply w_block; apply w_sq; apply w_reg; apply w_mvt; rfl; apply w_done0; apply w_sq; apply w_reg; apply w_mvs; rfl; apply w_mvi; rfl; apply w_add; rfl; rfl; omega; omega)
          refine w_call0 rfl (h2 hb hk1' hbl) (fun r d4 L4 _ ⟨hdd, hL, hr⟩ => ?_)
          subst hdd; subst hL
          obtain ⟨s, z, hr, hso, hsl, hrl⟩ := htx hk1' hr
          subst hr
          have hksl : ks.length ≤ klens ks := klens_len ks
          (apply w_mvu; rfl; apply w_ext; rfl; rfl; apply w_ext; rfl; rfl; apply w_mvt; rfl; apply w_mvi; rfl; apply w_done0; apply w_reg; apply w_fld; rfl; apply w_ld; rfl; exact hc_i 0 rfl rfl; apply w_mvt; rfl)
          refine w_bs1 (v0 := strV s) rfl rfl (fun b76 T76 => ?_)
          refine w_appL (R := RStr) 2 rfl rfl hgr rfl (GRow.lit1 (R := RStr) rfl ⟨rfl, by omega⟩) cell1_str (by omega) (by simp; omega) (by simp; omega) (fun v5 h6 o5 => ?_)
          obtain ⟨a5, c5, rfl⟩ := o5.val
          (apply w_fld; rfl)
          refine w_stE 0 [.int .i64 kd, .int .i64 0, .int .i64 0, strV [], .slice none 0 0, .slice a5 (ks ++ [s]).length c5] rfl rfl rfl rfl (Nat.le_of_ble_eq_true rfl) rfl rfl ?_
          (apply w_done0)
          refine ⟨(ks ++ [s], z), _, h6, ?_, ⟨rfl, rfl, rfl, rfl, rfl, rfl, trivial⟩, rfl, by simp; omega, ?_, o5, fun y r hs hx h => ?_, rfl⟩
          · rcases hso with h | ⟨k', h, _⟩
            · subst h; rw [ofs_neg, ofs_nat]; omega
            · subst h; rw [ofs_nat, ofs_nat]; omega
          · rcases hso with h | ⟨k', h, h9⟩
            · exact .inl h
            · exact .inr ⟨k', h, by omega, by omega, by simp only [klens_snoc]; omega⟩
          · obtain ⟨g1, ls, k0, g2, g3, g4, g5⟩ := hrel y r hs hx h
            obtain rfl : k = k0 := by omega
            rw [hdk2, h5] at g5
            cases ls with
            | nil => simp [keyKs] at g5
            | cons t ls =>
              rw [keyKs_cons] at g5
              simp only [List.cons_append, List.cons.injEq, List.append_assoc, true_and] at g5
              obtain ⟨e1, k', e2, e3, e4⟩ := hrl _ _ g5
              exact ⟨g1, ls, k', by rw [g2, e1]; simp, e2, e3, e4⟩
        have h5' : ((b[k].toNat : Nat) : Int) ≠ 5 := fun e => h5 (UInt8.toNat_inj.1 (show b[k].toNat = 5 by omega))
        by_cases h0 : b[k] = 0
        · have h0' : ((b[k].toNat : Nat) : Int) = 0 := by rw [h0]; rfl
          apply w_sq; apply w_sq; apply w_reg
          refine w_vs _ _ hVs ?_
          (apply w_mvi; rfl; apply w_geq; rfl; rfl; apply w_mvb; rfl; refine w_gdT rfl (by omega) ?_; apply w_gT; rfl; apply w_mvi; rfl; apply w_gT; rfl; apply w_mvs; rfl; apply w_gT; rfl; apply w_len; rfl; apply w_gT; rfl; apply w_lss; rfl; rfl; apply w_pickTb; rfl; rfl; apply w_mvb; rfl; refine w_gdT rfl (by omega) ?_; apply w_gT; rfl; apply w_mvs; rfl; apply w_gT; rfl; apply w_mvi; rfl; apply w_gT; rfl; refine w_idxR (sz := 1) (R := RByte) (by rfl) (by assumption) (by rfl) rfl (by omega) ?_; rintro _ _ _ _ _ rfl; apply w_gT; rfl; apply w_ld; rfl; exact hc_ds0 (by assumption) rfl; apply w_gT; rfl; apply w_eql; rfl; rfl; apply w_pickTb; rfl; rfl; apply w_done0; refine w_ifdF rfl (by omega) ?_; apply w_exit; apply w_sq; apply w_sq; apply w_reg; apply w_mvi; rfl; apply w_lss; rfl; rfl; apply w_mvb; rfl; refine w_gdF rfl (by omega) ?_; apply w_gT; rfl; apply w_mvi; rfl; apply w_gT; rfl; apply w_mvs; rfl; apply w_gT; rfl; apply w_len; rfl; apply w_gT; rfl; apply w_geq; rfl; rfl; apply w_pickFb; rfl; rfl; apply w_mvb; rfl; refine w_gdF rfl (by omega) ?_; apply w_gT; rfl; apply w_mvs; rfl; apply w_gT; rfl; apply w_mvi; rfl; apply w_gT; rfl; refine w_idxR (sz := 1) (R := RByte) (by rfl) (by assumption) (by rfl) rfl (by omega) ?_; rintro _ _ _ _ _ rfl; apply w_gT; rfl; apply w_ld; rfl; exact hc_ds0 (by assumption) rfl; apply w_gT; rfl; apply w_neq; rfl; rfl; apply w_pickFb; rfl; rfl; apply w_done0; refine w_ifdF rfl (by omega) ?_; apply w_skip; apply w_reg; apply w_mvi; rfl; apply w_add; rfl; rfl; omega; omega; apply w_mvi; rfl; apply w_done0)
          refine ⟨0, 0, [], ka, kc, ks, ((k + 1 : Nat) : Int), ⟨rfl, rfl, rfl, rfl, rfl, rfl, trivial⟩, Le.join_left _ _, i64_0, i64_0, Nat.zero_le _, hfz, .inr ⟨k + 1, rfl, by omega, hkl2, by simp; omega⟩, fun x r hs hx h => ?_, rfl⟩
          obtain ⟨⟨a1, a2, a3, a4, a5, a6, a7⟩, hal⟩ := shp_iff.1 hs
          obtain ⟨g1, ls, k0, g2, g3, g4, g5⟩ := hrel x r hs hx h
          obtain rfl : k = k0 := by omega
          rw [hdk2, h0] at g5
          have hme := a2.resolve_left (by omega)
          cases ls with
          | nil =>
            simp only [keyKs, List.flatMap_nil, List.nil_append, List.cons.injEq, true_and] at g5
            exact ⟨g1, hme.1, hme.2, a3.resolve_left (by omega), by rw [g2]; simp, k + 1, rfl, hkl2, by rw [if_pos k6]; exact g5⟩
          | cons t ls => rw [keyKs_cons] at g5; simp at g5
        · have h0' : ((b[k].toNat : Nat) : Int) ≠ 0 := fun e => h0 (UInt8.toNat_inj.1 (show b[k].toNat = 0 by omega))
          apply w_sq; apply w_sq; apply w_reg
          refine w_vs _ _ hVs ?_
          (apply w_mvi; rfl; apply w_geq; rfl; rfl; apply w_mvb; rfl; refine w_gdT rfl (by omega) ?_; apply w_gT; rfl; apply w_mvi; rfl; apply w_gT; rfl; apply w_mvs; rfl; apply w_gT; rfl; apply w_len; rfl; apply w_gT; rfl; apply w_lss; rfl; rfl; apply w_pickTb; rfl; rfl; apply w_mvb; rfl; refine w_gdT rfl (by omega) ?_; apply w_gT; rfl; apply w_mvs; rfl; apply w_gT; rfl; apply w_mvi; rfl; apply w_gT; rfl; refine w_idxR (sz := 1) (R := RByte) (by rfl) (by assumption) (by rfl) rfl (by omega) ?_; rintro _ _ _ _ _ rfl; apply w_gT; rfl; apply w_ld; rfl; exact hc_ds0 (by assumption) rfl; apply w_gT; rfl; apply w_eql; rfl; rfl; apply w_pickTb; rfl; rfl; apply w_done0; refine w_ifdF rfl (by omega) ?_; apply w_exit; apply w_sq; apply w_sq; apply w_reg; apply w_mvi; rfl; apply w_lss; rfl; rfl; apply w_mvb; rfl; refine w_gdF rfl (by omega) ?_; apply w_gT; rfl; apply w_mvi; rfl; apply w_gT; rfl; apply w_mvs; rfl; apply w_gT; rfl; apply w_len; rfl; apply w_gT; rfl; apply w_geq; rfl; rfl; apply w_pickFb; rfl; rfl; apply w_mvb; rfl; refine w_gdF rfl (by omega) ?_; apply w_gT; rfl; apply w_mvs; rfl; apply w_gT; rfl; apply w_mvi; rfl; apply w_gT; rfl; refine w_idxR (sz := 1) (R := RByte) (by rfl) (by assumption) (by rfl) rfl (by omega) ?_; rintro _ _ _ _ _ rfl; apply w_gT; rfl; apply w_ld; rfl; exact hc_ds0 (by assumption) rfl; apply w_gT; rfl; apply w_neq; rfl; rfl; apply w_pickFb; rfl; rfl; apply w_done0; refine w_ifdT rfl (by omega) ?_; apply w_sq; apply w_reg; apply w_ldb 0; rfl; rfl; rfl)
          refine w_stE 1 [.int .i64 kd, .int .i64 0, .int .i64 0, strV [], .slice none 0 0, .slice ka ks.length kc] rfl rfl rfl rfl (Nat.le_of_ble_eq_true rfl) rfl rfl ?_
          (apply w_mvi; rfl; apply w_done0; apply w_ret)
          exact finS (L' := []) [.agg [.int .i64 kd, .int .i64 0, .int .i64 0, strV [], .slice none 0 0, .slice ka ks.length kc].toArray, .int .i64 (-1)] ⟨res_cell 1 rfl rfl rfl, rfl, trivial⟩ (List.nil_sublist _) ⟨rfl, _, _, -1, rfl, hRV, by rw [hdp2]; simp, .inl rfl, fun x r hs hx h => by
            obtain ⟨_, ls, k0, _, h8, _, h9⟩ := hrel x r hs hx h
            obtain rfl : k = k0 := by omega
            rw [hdk2] at h9
            cases ls with
            | nil => simp only [keyKs, List.flatMap_nil, List.nil_append, List.cons.injEq] at h9; exact absurd h9.1 h0
            | cons t ls => rw [keyKs_cons] at h9; simp only [List.cons_append, List.cons.injEq] at h9; exact absurd h9.1 h5⟩
      · (apply w_fld; rfl; apply w_ld; rfl; exact hc_i 0 rfl rfl; apply w_done0; apply w_block; apply w_sq; apply w_reg; apply w_eql; rfl; rfl; apply w_mvb; rfl; apply w_done0; refine w_ifdF rfl (by omega) ?_; apply w_sq; apply w_reg; apply w_eql; rfl; rfl; apply w_mvb; rfl; apply w_done0; refine w_ifdF rfl (by omega) ?_; apply w_sq; apply w_reg; apply w_eql; rfl; rfl; apply w_mvb; rfl; apply w_done0; refine w_ifdF rfl (by omega) ?_; apply w_skip)
        refine ⟨0, 0, [], none, 0, [], ((n + 1 : Nat) : Int), ⟨rfl, rfl, rfl, rfl, rfl, rfl, trivial⟩, Le.refl _, i64_0, i64_0, Nat.zero_le _, RSl.nil, .inr ⟨n + 1, rfl, by omega, hn1, by simp [klens]; omega⟩, fun x r hs hx h => ?_, rfl⟩
        obtain ⟨⟨a1, a2, a3, a4, a5, a6, a7⟩, hal⟩ := shp_iff.1 hs
        obtain ⟨g1, g2⟩ := hgood hs h
        rw [if_neg (by omega), if_neg (by omega), if_neg (by omega)] at g2
        have hme := a2.resolve_left (by omega)
        refine ⟨g1, hme.1, hme.2, a3.resolve_left (by omega), a5.resolve_left (by omega), n + 1, rfl, hn1, ?_⟩
        rw [g2, if_neg k6]
        by_cases k5 : kd = 5
        · rw [if_pos (by omega), if_pos k5]
        · rw [if_neg (by omega), if_neg k5]
    rintro ρ d2 L' ⟨m, e, t, ka, kc, ks, z, hsl, hl2, hm, he, htl, hks, hko, hrel, hL⟩
    subst hL
    refine gwp_slots _ hsl ?_
    clear hsl
    have hksn : ks.length ≤ 140737488355328 := RSl.len_le hks
    (apply w_sq; apply w_block)
    refine w_loopV (α := List V × Int) (fun x _ => [(0, .slice ba b.length bc), (1, .int .i64 x.2), (2, .int .i64 le), (6, .pointer (some ⟨b6, 0, none⟩)), (7, .int .i64 0), (8, .pointer (some ⟨b8, 0, none⟩))])
      (fun x v h d3 L' => Le d2 d3 ∧ x.1.length ≤ b.length + 100 ∧ (∀ y ∈ x.1, depthV y ≤ left + 1) ∧ (x.2 = -1 ∨ ∃ k : Nat, x.2 = k ∧ n < k ∧ k ≤ b.length + left ∧ 1 + t.length + klens ks + bulks x.1 + n ≤ k) ∧ GRow 6 RVal d3 v x.1 h ∧
        (∀ y r, shp y → depthV y ≤ left + 1 → b.drop n = keyV y ++ r → ∃ l, ∃ k : Nat, y.list = x.1 ++ l ∧ x.2 = k ∧ k ≤ b.length ∧ b.drop k = keyVs l ++ (if kd = 5 then [0] else []) ++ r) ∧
        L' = [bx b8 T8 [.int .i64 kd, .int .i64 m, .int .i64 e, strV t, v, .slice ka ks.length kc], bx b6 T6 zVal, h])
      (fun x => ofs b.length x.2) ([], z) (.slice none 0 0) emp ⟨rfl, rfl, rfl, rfl, rfl, rfl, trivial⟩ ⟨Le.refl _, Nat.zero_le _, (fun y h => absurd h (by simp)), (by rcases hko with h | ⟨k, h, g1, g2, g3⟩; exact .inl h; exact .inr ⟨k, h, g1, by omega, by simp only [bulks]; omega⟩), GRow.nil, fun y r hs hx h => by
        obtain ⟨⟨a1, a2, a3, a4, a5, a6, a7⟩, hal⟩ := shp_iff.1 hs
        obtain ⟨g1, g2, g3, g4, g5, k, g6, g7, g8⟩ := hrel y r hs hx h
        refine ⟨y.list, k, rfl, g6, g7, ?_⟩
        rw [g8]
        by_cases k6 : kd = 6
        · rw [if_pos k6, if_neg (by omega), List.append_nil]
        · by_cases k5 : kd = 5
          · rw [if_neg k6, if_pos k5, if_pos k5]
          · rw [if_neg k6, if_neg k5, if_neg k5, a4.resolve_left (by omega)]; rfl, rfl⟩ ?_
    rintro ⟨l, z⟩ v g ρ d3 L' ⟨hl3, hll, hld, hko, hgr, hrl, hL⟩
    subst hL
    simp only at hll hld hko hgr hrl ⊢
    obtain ⟨va, vc, rfl⟩ := hgr.val
    have hb3 := RSl.mono (R := RByte) mono_byte hb (hl2.trans hl3)
    have hbj := RSl.mono (R := RByte) mono_byte hb3 (Le.join_left d3 g)
    have hfz : RSl 6 RVal (join d3 g) (.slice va l.length vc) l := hgr.rsl (R := RVal) mono_val (by omega) (Le.join_left _ _) (Le.join_right _ _)
    have hks3 : RSl 1 RStr (join d3 g) (.slice ka ks.length kc) ks := RStrs.mono hks (hl3.trans (Le.join_left _ _))
    have hVs : Vs d3 [bx b8 T8 [.int .i64 kd, .int .i64 m, .int .i64 e, strV t, .slice va l.length vc, .slice ka ks.length kc], bx b6 T6 zVal, g] (join d3 g) [bx b8 T8 [.int .i64 kd, .int .i64 m, .int .i64 e, strV t, .slice va l.length vc, .slice ka ks.length kc], bx b6 T6 zVal] := (Vs.pick [2, 0, 1] rfl).trans Vs.freeze
    have hRV : RVal (join d3 g) [.int .i64 kd, .int .i64 m, .int .i64 e, strV t, .slice va l.length vc, .slice ka ks.length kc] (.mk kd m e t l ks) := RVal.close (v := .mk kd m e t l ks) hi hm he (by simp only [V.text]; omega) hfz hks3
    have hdv : depthV (.mk kd m e t l ks) ≤ left + 1 + 1 := (hdp2 _).2 hld
    have hbv := bulkV_eq (.mk kd m e t l ks)
    simp only [V.text, V.keys, V.list] at hbv
    have hext : ∀ {x r}, shp x → depthV x ≤ left + 1 → b.drop n = keyV x ++ r → x.list = l → V.mk kd m e t l ks = x := fun {x r} hs hx h hl => by
      obtain ⟨g1, g2, g3, g4, g5, _⟩ := hrel x r hs hx h
      exact V.ext g1.symm g2.symm g3.symm g4.symm hl.symm g5.symm
    have hbl2 := bulks_len l
    by_cases k6 : kd = 6
    · rcases hko with hz | ⟨k, hz, hk1, hk2, hk3⟩
      · subst hz
        apply w_sq; apply w_sq; apply w_reg
        refine w_vs _ _ hVs ?_
        (apply w_fld; rfl; apply w_ld; rfl; exact hc_i 0 rfl rfl; apply w_eql; rfl; rfl; apply w_mvb; rfl; refine w_gdT rfl (by omega) ?_; apply w_gT; rfl; apply w_mvi; rfl; apply w_gT; rfl; apply w_geq; rfl; rfl; apply w_pickTb; rfl; rfl; apply w_mvb; rfl; refine w_gdF rfl (by omega) ?_; apply w_gF; rfl; apply w_gF; rfl; apply w_gF; rfl; apply w_gF; rfl; apply w_gF; rfl; apply w_gF; rfl; apply w_gF; rfl; apply w_pickFb; rfl; rfl; apply w_mvb; rfl; apply w_gT; rfl; apply w_fld; rfl; apply w_gT; rfl; apply w_ld; rfl; exact hc_i 0 rfl rfl; apply w_gT; rfl; apply w_eql; rfl; rfl; apply w_gT; rfl; apply w_mvb; rfl; refine w_gdF rfl (by omega) ?_; apply w_gF; rfl; apply w_gF; rfl; apply w_gT; rfl; apply w_pickFb; rfl; rfl; apply w_gT; rfl; apply w_mvb; rfl; apply w_gF; rfl; apply w_gF; rfl; apply w_gF; rfl; apply w_gF; rfl; apply w_gT; rfl; apply w_pickFb; rfl; rfl; apply w_gT; rfl; apply w_mvb; rfl; apply w_gF; rfl; apply w_gF; rfl; apply w_gF; rfl; apply w_gF; rfl; apply w_gF; rfl; apply w_gT; rfl; apply w_pickFb; rfl; rfl; apply w_pickFb; rfl; rfl; apply w_done0; apply w_ifF; rfl; apply w_exit; apply w_sq; apply w_sq; apply w_reg; apply w_fld; rfl; apply w_ld; rfl; exact hc_i 0 rfl rfl; apply w_eql; rfl; rfl; apply w_mvb; rfl; refine w_gdF rfl (by omega) ?_; apply w_gF; rfl; apply w_gF; rfl; apply w_pickFb; rfl; rfl; apply w_done0; apply w_ifF; rfl; apply w_skip; apply w_sq; apply w_reg; apply w_ldb 0; rfl; rfl; rfl; apply w_mvi; rfl)
        refine w_stE 1 [.int .i64 kd, .int .i64 m, .int .i64 e, strV t, .slice va l.length vc, .slice ka ks.length kc] rfl rfl rfl rfl (Nat.le_of_ble_eq_true rfl) rfl rfl ?_
        (apply w_mvi; rfl; apply w_done0; apply w_ret)
        refine finS (L' := []) [.agg [.int .i64 kd, .int .i64 m, .int .i64 e, strV t, .slice va l.length vc, .slice ka ks.length kc].toArray, .int .i64 (-1)] ⟨res_cell 1 rfl rfl rfl, rfl, trivial⟩ (List.nil_sublist _) ⟨rfl, _, _, (-1), rfl, hRV, hdv, .inl rfl, fun x r hs hx h => ?_⟩
        obtain ⟨_, k0, _, h9, _⟩ := hrl x r hs hx h
        omega
      subst hz
      by_cases hlt : l.length < ks.length
      rotate_left
      · apply w_sq; apply w_sq; apply w_reg
        refine w_vs _ _ hVs ?_
        (apply w_fld; rfl; apply w_ld; rfl; exact hc_i 0 rfl rfl; apply w_eql; rfl; rfl; apply w_mvb; rfl; refine w_gdT rfl (by omega) ?_; apply w_gT; rfl; apply w_mvi; rfl; apply w_gT; rfl; apply w_geq; rfl; rfl; apply w_pickTb; rfl; rfl; apply w_mvb; rfl; refine w_gdT rfl (by omega) ?_; apply w_gT; rfl; apply w_fld; rfl; apply w_gT; rfl; apply w_ld; rfl; exact hc_i 0 rfl rfl; apply w_gT; rfl; apply w_len; rfl; apply w_gT; rfl; apply w_fld; rfl; apply w_gT; rfl; apply w_ld; rfl; exact hc_i 0 rfl rfl; apply w_gT; rfl; apply w_len; rfl; apply w_gT; rfl; apply w_lss; rfl; rfl; apply w_pickTb; rfl; rfl; apply w_mvb; rfl; refine w_gdF rfl (by omega) ?_; apply w_gT; rfl; apply w_fld; rfl; apply w_gT; rfl; apply w_ld; rfl; exact hc_i 0 rfl rfl; apply w_gT; rfl; apply w_eql; rfl; rfl; apply w_gT; rfl; apply w_mvb; rfl; refine w_gdF rfl (by omega) ?_; apply w_gF; rfl; apply w_gF; rfl; apply w_gT; rfl; apply w_pickFb; rfl; rfl; apply w_gT; rfl; apply w_mvb; rfl; apply w_gF; rfl; apply w_gF; rfl; apply w_gF; rfl; apply w_gF; rfl; apply w_gT; rfl; apply w_pickFb; rfl; rfl; apply w_gT; rfl; apply w_mvb; rfl; apply w_gF; rfl; apply w_gF; rfl; apply w_gF; rfl; apply w_gF; rfl; apply w_gF; rfl; apply w_gT; rfl; apply w_pickFb; rfl; rfl; apply w_pickFb; rfl; rfl; apply w_done0; apply w_ifF; rfl; apply w_exit; apply w_sq; apply w_sq; apply w_reg; apply w_fld; rfl; apply w_ld; rfl; exact hc_i 0 rfl rfl; apply w_eql; rfl; rfl; apply w_mvb; rfl; refine w_gdF rfl (by omega) ?_; apply w_gF; rfl; apply w_gF; rfl; apply w_pickFb; rfl; rfl; apply w_done0; apply w_ifF; rfl; apply w_skip; apply w_sq; apply w_reg; apply w_ldb 0; rfl; rfl; rfl; apply w_mvi; rfl)
        refine w_stE 1 [.int .i64 kd, .int .i64 m, .int .i64 e, strV t, .slice va l.length vc, .slice ka ks.length kc] rfl rfl rfl rfl (Nat.le_of_ble_eq_true rfl) rfl rfl ?_
        (apply w_mvi; rfl; apply w_done0; apply w_ret)
        refine finS (L' := []) [.agg [.int .i64 kd, .int .i64 m, .int .i64 e, strV t, .slice va l.length vc, .slice ka ks.length kc].toArray, .int .i64 (k : Nat)] ⟨res_cell 1 rfl rfl rfl, rfl, trivial⟩ (List.nil_sublist _) ⟨rfl, _, _, (k : Nat), rfl, hRV, hdv, .inr ⟨k, rfl, hk1, by omega, by omega⟩, fun x r hs hx h => ?_⟩
        obtain ⟨⟨a1, a2, a3, a4, a5, a6, a7⟩, hal⟩ := shp_iff.1 hs
        obtain ⟨g1, _, _, _, g5, _⟩ := hrel x r hs hx h
        obtain ⟨l', k0, q2, q3, q4, q5⟩ := hrl x r hs hx h
        obtain rfl : k = k0 := by omega
        have hlen := a7 (by omega)
        rw [g5, q2, List.length_append] at hlen
        obtain rfl : l' = [] := List.eq_nil_of_length_eq_zero (by omega)
        refine ⟨hext hs hx h (by rw [q2]; simp), k, rfl, q4, ?_⟩
        rw [q5, if_neg (by omega)]; simp [keyVs]
      (apply w_sq; apply w_sq; apply w_reg; apply w_fld; rfl; apply w_ld; rfl; exact hc_i 0 rfl rfl; apply w_eql; rfl; rfl; apply w_mvb; rfl; refine w_gdT rfl (by omega) ?_; apply w_gT; rfl; apply w_mvi; rfl; apply w_gT; rfl; apply w_geq; rfl; rfl; apply w_pickTb; rfl; rfl; apply w_mvb; rfl; refine w_gdT rfl (by omega) ?_; apply w_gT; rfl; apply w_fld; rfl; apply w_gT; rfl; apply w_ld; rfl; exact hc_i 0 rfl rfl; apply w_gT; rfl; apply w_len; rfl; apply w_gT; rfl; apply w_fld; rfl; apply w_gT; rfl; apply w_ld; rfl; exact hc_i 0 rfl rfl; apply w_gT; rfl; apply w_len; rfl; apply w_gT; rfl; apply w_lss; rfl; rfl; apply w_pickTb; rfl; rfl; apply w_mvb; rfl; refine w_gdT rfl (by omega) ?_; apply w_gF; rfl; apply w_gF; rfl; apply w_gF; rfl; apply w_gF; rfl; apply w_gU; rfl; apply w_gU; rfl; apply w_gF; rfl; apply w_gF; rfl; apply w_gU; rfl; apply w_gU; rfl; apply w_gU; rfl; apply w_gU; rfl; apply w_gF; rfl; apply w_gF; rfl; apply w_gU; rfl; apply w_gU; rfl; apply w_gU; rfl; apply w_gU; rfl; apply w_gU; rfl; apply w_gF; rfl; apply w_pickTb; rfl; rfl; apply w_done0; apply w_ifT; rfl; apply w_skip; apply w_block; apply w_sq; apply w_reg; apply w_alo; intro _ _; apply w_done0; apply w_sq; apply w_reg; apply w_mvs; rfl; apply w_mvi; rfl; apply w_mvi; rfl; apply w_sub; rfl; rfl; omega; omega)
      rename_i b10 T10
      refine w_call0 (show [Value.slice _ _ _, Value.int .i64 _, Value.int .i64 (le - 1)] = _ by rw [hle1]) (ih (by omega) hb3 hbl (show k ≤ b.length + 48 by omega)) (fun r d4 L4 hl4 ⟨hL, cs, y, z', hr, hR, hdy, hyo, hyr⟩ => ?_)
      subst hL; subst hr
      (apply w_mvu; rfl; apply w_ext; rfl; rfl; apply w_ext; rfl; rfl)
      refine w_stE 0 cs rfl rfl rfl hR.len (Nat.le_of_ble_eq_true rfl) (cell1_val _ _ _ hR) (patch6 rfl hR.len) ?_
      (apply w_mvi; rfl; apply w_done0; apply w_reg; apply w_fld; rfl; apply w_ld; rfl; exact hc_i 1 rfl rfl)
      refine w_ldb 0 rfl rfl hR.len ?_
      refine w_bsV rfl hR.len (fun b42 T42 => ?_)
      refine w_appL (R := RVal) 3 rfl rfl (GRow.mono (R := RVal) mono_val hgr hl4) rfl (GRow.lit1 hR.len hR) cell1_val (by omega) (by simp; omega) (by simp; omega) (fun v5 h5 o5 => ?_)
      obtain ⟨a5, c5, rfl⟩ := o5.val
      (apply w_fld; rfl)
      refine w_vs d4 [bx b8 T8 [.int .i64 kd, .int .i64 m, .int .i64 e, strV t, .slice va l.length vc, .slice ka ks.length kc], bx b6 T6 zVal, h5] (Vs.drop (.cons _ (.cons_cons _ (.cons_cons _ (.cons_cons _ .slnil))))) ?_
      refine w_stE 0 [.int .i64 kd, .int .i64 m, .int .i64 e, strV t, .slice a5 (l ++ [y]).length c5, .slice ka ks.length kc] rfl rfl rfl rfl (Nat.le_of_ble_eq_true rfl) rfl rfl ?_
      (apply w_done0)
      refine ⟨(l ++ [y], z'), _, h5, ?_, ⟨rfl, rfl, rfl, rfl, rfl, rfl, trivial⟩, hl3.trans hl4, by simp; omega, ?_, ?_, o5, fun x r hs hx h => ?_, rfl⟩
      · rcases hyo with h | ⟨k', h, _⟩
        · subst h; rw [ofs_neg, ofs_nat]; omega
        · subst h; rw [ofs_nat, ofs_nat]; omega
      · intro w hw; rcases List.mem_append.1 hw with h | h
        · exact hld w h
        · rw [List.mem_singleton.1 h]; exact hdy
      · rcases hyo with h | ⟨k', h, h9⟩
        · exact .inl h
        · exact .inr ⟨k', h, by omega, by omega, by simp only [bulks_snoc]; omega⟩
      · obtain ⟨l', k0, g2, g3, g4, g5⟩ := hrl x r hs hx h
        obtain rfl : k = k0 := by omega
        obtain ⟨_, hal⟩ := shp_iff.1 hs
        cases l' with
        | nil => 
          obtain ⟨⟨a1, a2, a3, a4, a5, a6, a7⟩, _⟩ := shp_iff.1 hs
          obtain ⟨g1, _, _, _, g6, _⟩ := hrel x r hs hx h
          have hlen := a7 (by omega)
          rw [g6, g2, List.append_nil] at hlen
          omega
        | cons w l' =>
          have hw : w ∈ x.list := by rw [g2]; simp
          rw [keyVs_cons, List.append_assoc, List.append_assoc, ← List.append_assoc (keyVs l')] at g5
          obtain ⟨e1, k', e2, e3, e4⟩ := hyr w _ (hal w hw) ((hdp x).1 hx w hw) g5
          exact ⟨l', k', by rw [g2, e1]; simp, e2, e3, e4⟩
    by_cases k5 : kd = 5
    · rcases hko with hz | ⟨k, hz, hk1, hk2, hk3⟩
      · subst hz
        apply w_sq; apply w_sq; apply w_reg
        refine w_vs _ _ hVs ?_
        (apply w_fld; rfl; apply w_ld; rfl; exact hc_i 0 rfl rfl; apply w_eql; rfl; rfl; apply w_mvb; rfl; refine w_gdF rfl (by omega) ?_; apply w_gF; rfl; apply w_gF; rfl; apply w_pickFb; rfl; rfl; apply w_mvb; rfl; apply w_gF; rfl; apply w_gF; rfl; apply w_gF; rfl; apply w_gF; rfl; apply w_gF; rfl; apply w_gF; rfl; apply w_gF; rfl; apply w_pickFb; rfl; rfl; apply w_mvb; rfl; apply w_gT; rfl; apply w_fld; rfl; apply w_gT; rfl; apply w_ld; rfl; exact hc_i 0 rfl rfl; apply w_gT; rfl; apply w_eql; rfl; rfl; apply w_gT; rfl; apply w_mvb; rfl; refine w_gdT rfl (by omega) ?_; apply w_gT; rfl; apply w_mvi; rfl; apply w_gT; rfl; apply w_geq; rfl; rfl; apply w_gT; rfl; apply w_pickTb; rfl; rfl; apply w_gT; rfl; apply w_mvb; rfl; refine w_gdF rfl (by omega) ?_; apply w_gF; rfl; apply w_gF; rfl; apply w_gF; rfl; apply w_gF; rfl; apply w_gT; rfl; apply w_pickFb; rfl; rfl; apply w_gT; rfl; apply w_mvb; rfl; apply w_gF; rfl; apply w_gF; rfl; apply w_gF; rfl; apply w_gF; rfl; apply w_gF; rfl; apply w_gT; rfl; apply w_pickFb; rfl; rfl; apply w_pickFb; rfl; rfl; apply w_done0; apply w_ifF; rfl; apply w_exit; apply w_sq; apply w_sq; apply w_reg; apply w_fld; rfl; apply w_ld; rfl; exact hc_i 0 rfl rfl; apply w_eql; rfl; rfl; apply w_mvb; rfl; refine w_gdT rfl (by omega) ?_; apply w_gT; rfl; apply w_mvi; rfl; apply w_gT; rfl; apply w_geq; rfl; rfl; apply w_pickTb; rfl; rfl; apply w_done0; refine w_ifdF rfl (by omega) ?_; apply w_skip; apply w_sq; apply w_reg; apply w_ldb 0; rfl; rfl; rfl; apply w_mvi; rfl)
        refine w_stE 1 [.int .i64 kd, .int .i64 m, .int .i64 e, strV t, .slice va l.length vc, .slice ka ks.length kc] rfl rfl rfl rfl (Nat.le_of_ble_eq_true rfl) rfl rfl ?_
        (apply w_mvi; rfl; apply w_done0; apply w_ret)
        refine finS (L' := []) [.agg [.int .i64 kd, .int .i64 m, .int .i64 e, strV t, .slice va l.length vc, .slice ka ks.length kc].toArray, .int .i64 (-1)] ⟨res_cell 1 rfl rfl rfl, rfl, trivial⟩ (List.nil_sublist _) ⟨rfl, _, _, (-1), rfl, hRV, hdv, .inl rfl, fun x r hs hx h => ?_⟩
        obtain ⟨_, k0, _, h9, _⟩ := hrl x r hs hx h
        omega
      subst hz
      by_cases hkl : k < b.length
      rotate_left
      · apply w_sq; apply w_sq; apply w_reg
        refine w_vs _ _ hVs ?_
        (apply w_fld; rfl; apply w_ld; rfl; exact hc_i 0 rfl rfl; apply w_eql; rfl; rfl; apply w_mvb; rfl; refine w_gdF rfl (by omega) ?_; apply w_gF; rfl; apply w_gF; rfl; apply w_pickFb; rfl; rfl; apply w_mvb; rfl; apply w_gF; rfl; apply w_gF; rfl; apply w_gF; rfl; apply w_gF; rfl; apply w_gF; rfl; apply w_gF; rfl; apply w_gF; rfl; apply w_pickFb; rfl; rfl; apply w_mvb; rfl; apply w_gT; rfl; apply w_fld; rfl; apply w_gT; rfl; apply w_ld; rfl; exact hc_i 0 rfl rfl; apply w_gT; rfl; apply w_eql; rfl; rfl; apply w_gT; rfl; apply w_mvb; rfl; refine w_gdT rfl (by omega) ?_; apply w_gT; rfl; apply w_mvi; rfl; apply w_gT; rfl; apply w_geq; rfl; rfl; apply w_gT; rfl; apply w_pickTb; rfl; rfl; apply w_gT; rfl; apply w_mvb; rfl; refine w_gdT rfl (by omega) ?_; apply w_gT; rfl; apply w_mvi; rfl; apply w_gT; rfl; apply w_mvs; rfl; apply w_gT; rfl; apply w_len; rfl; apply w_gT; rfl; apply w_lss; rfl; rfl; apply w_gT; rfl; apply w_pickTb; rfl; rfl; apply w_gT; rfl; apply w_mvb; rfl; refine w_gdF rfl (by omega) ?_; apply w_gF; rfl; apply w_gF; rfl; apply w_gF; rfl; apply w_gF; rfl; apply w_gF; rfl; apply w_gT; rfl; apply w_pickFb; rfl; rfl; apply w_pickFb; rfl; rfl; apply w_done0; apply w_ifF; rfl; apply w_exit; apply w_sq; apply w_sq; apply w_reg; apply w_fld; rfl; apply w_ld; rfl; exact hc_i 0 rfl rfl; apply w_eql; rfl; rfl; apply w_mvb; rfl; refine w_gdT rfl (by omega) ?_; apply w_gT; rfl; apply w_mvi; rfl; apply w_gT; rfl; apply w_geq; rfl; rfl; apply w_pickTb; rfl; rfl; apply w_done0; refine w_ifdT rfl (by omega) ?_; apply w_reg; apply w_mvi; rfl; apply w_add; rfl; rfl; omega; omega; apply w_mvi; rfl; apply w_done0; apply w_sq; apply w_reg; apply w_ldb 0; rfl; rfl; rfl; apply w_mvi; rfl)
        refine w_stE 1 [.int .i64 kd, .int .i64 m, .int .i64 e, strV t, .slice va l.length vc, .slice ka ks.length kc] rfl rfl rfl rfl (Nat.le_of_ble_eq_true rfl) rfl rfl ?_
        (apply w_mvi; rfl; apply w_done0; apply w_ret)
        refine finS (L' := []) [.agg [.int .i64 kd, .int .i64 m, .int .i64 e, strV t, .slice va l.length vc, .slice ka ks.length kc].toArray, .int .i64 ((k + 1 : Nat) : Int)] ⟨res_cell 1 rfl rfl rfl, rfl, trivial⟩ (List.nil_sublist _) ⟨rfl, _, _, ((k + 1 : Nat) : Int), rfl, hRV, hdv, .inr ⟨k + 1, rfl, by omega, by omega, by omega⟩, fun x r hs hx h => ?_⟩
        obtain ⟨l', k0, q2, q3, q4, q5⟩ := hrl x r hs hx h
        obtain rfl : k = k0 := by omega
        rw [List.drop_eq_nil_of_le (by omega), if_pos k5] at q5
        simp at q5
      have hdk2 := List.drop_eq_getElem_cons hkl
      have hbk := b[k].toNat_lt
      by_cases h0 : b[k] = 0
      · have h0' : ((b[k].toNat : Nat) : Int) = 0 := by rw [h0]; rfl
        apply w_sq; apply w_sq; apply w_reg
        refine w_vs _ _ hVs ?_
        (apply w_fld; rfl; apply w_ld; rfl; exact hc_i 0 rfl rfl; apply w_eql; rfl; rfl; apply w_mvb; rfl; refine w_gdF rfl (by omega) ?_; apply w_gF; rfl; apply w_gF; rfl; apply w_pickFb; rfl; rfl; apply w_mvb; rfl; apply w_gF; rfl; apply w_gF; rfl; apply w_gF; rfl; apply w_gF; rfl; apply w_gF; rfl; apply w_gF; rfl; apply w_gF; rfl; apply w_pickFb; rfl; rfl; apply w_mvb; rfl; apply w_gT; rfl; apply w_fld; rfl; apply w_gT; rfl; apply w_ld; rfl; exact hc_i 0 rfl rfl; apply w_gT; rfl; apply w_eql; rfl; rfl; apply w_gT; rfl; apply w_mvb; rfl; refine w_gdT rfl (by omega) ?_; apply w_gT; rfl; apply w_mvi; rfl; apply w_gT; rfl; apply w_geq; rfl; rfl; apply w_gT; rfl; apply w_pickTb; rfl; rfl; apply w_gT; rfl; apply w_mvb; rfl; refine w_gdT rfl (by omega) ?_; apply w_gT; rfl; apply w_mvi; rfl; apply w_gT; rfl; apply w_mvs; rfl; apply w_gT; rfl; apply w_len; rfl; apply w_gT; rfl; apply w_lss; rfl; rfl; apply w_gT; rfl; apply w_pickTb; rfl; rfl; apply w_gT; rfl; apply w_mvb; rfl; refine w_gdT rfl (by omega) ?_; apply w_gT; rfl; apply w_mvs; rfl; apply w_gT; rfl; apply w_mvi; rfl; apply w_gT; rfl; refine w_idxR (sz := 1) (R := RByte) (by rfl) (by assumption) (by rfl) rfl (by omega) ?_; rintro _ _ _ _ _ rfl; apply w_gT; rfl; apply w_ld; rfl; exact hc_ds0 (by assumption) rfl; apply w_gT; rfl; apply w_neq; rfl; rfl; apply w_gT; rfl; apply w_pickTb; rfl; rfl; apply w_pickFb; rfl; rfl; apply w_done0; refine w_ifdF rfl (by omega) ?_; apply w_exit; apply w_sq; apply w_sq; apply w_reg; apply w_fld; rfl; apply w_ld; rfl; exact hc_i 0 rfl rfl; apply w_eql; rfl; rfl; apply w_mvb; rfl; refine w_gdT rfl (by omega) ?_; apply w_gT; rfl; apply w_mvi; rfl; apply w_gT; rfl; apply w_geq; rfl; rfl; apply w_pickTb; rfl; rfl; apply w_done0; refine w_ifdT rfl (by omega) ?_; apply w_reg; apply w_mvi; rfl; apply w_add; rfl; rfl; omega; omega; apply w_mvi; rfl; apply w_done0; apply w_sq; apply w_reg; apply w_ldb 0; rfl; rfl; rfl; apply w_mvi; rfl)
        refine w_stE 1 [.int .i64 kd, .int .i64 m, .int .i64 e, strV t, .slice va l.length vc, .slice ka ks.length kc] rfl rfl rfl rfl (Nat.le_of_ble_eq_true rfl) rfl rfl ?_
        (apply w_mvi; rfl; apply w_done0; apply w_ret)
        refine finS (L' := []) [.agg [.int .i64 kd, .int .i64 m, .int .i64 e, strV t, .slice va l.length vc, .slice ka ks.length kc].toArray, .int .i64 ((k + 1 : Nat) : Int)] ⟨res_cell 1 rfl rfl rfl, rfl, trivial⟩ (List.nil_sublist _) ⟨rfl, _, _, ((k + 1 : Nat) : Int), rfl, hRV, hdv, .inr ⟨k + 1, rfl, by omega, by omega, by omega⟩, fun x r hs hx h => ?_⟩
        obtain ⟨l', k0, q2, q3, q4, q5⟩ := hrl x r hs hx h
        obtain rfl : k = k0 := by omega
        obtain ⟨_, hal⟩ := shp_iff.1 hs
        rw [hdk2, h0, if_pos k5] at q5
        cases l' with
        | nil =>
          simp only [keyVs, List.nil_append, List.cons_append, List.cons.injEq, true_and] at q5
          exact ⟨hext hs hx h (by rw [q2]; simp), k + 1, rfl, hkl, q5⟩
        | cons w l' =>
          obtain ⟨lw, hw1, hw2⟩ := keyV_head w (shp_iff.1 (hal w (by rw [q2]; simp))).1
          rw [keyVs_cons, hw1] at q5
          simp only [List.cons_append, List.cons.injEq] at q5
          exact absurd q5.1.symm hw2
      have h0' : ((b[k].toNat : Nat) : Int) ≠ 0 := fun e => h0 (UInt8.toNat_inj.1 (show b[k].toNat = 0 by omega))
      (apply w_sq; apply w_sq; apply w_reg; apply w_fld; rfl; apply w_ld; rfl; exact hc_i 0 rfl rfl; apply w_eql; rfl; rfl; apply w_mvb; rfl; refine w_gdF rfl (by omega) ?_; apply w_gF; rfl; apply w_gF; rfl; apply w_pickFb; rfl; rfl; apply w_mvb; rfl; apply w_gF; rfl; apply w_gF; rfl; apply w_gF; rfl; apply w_gF; rfl; apply w_gF; rfl; apply w_gF; rfl; apply w_gF; rfl; apply w_pickFb; rfl; rfl; apply w_mvb; rfl; apply w_gT; rfl; apply w_fld; rfl; apply w_gT; rfl; apply w_ld; rfl; exact hc_i 0 rfl rfl; apply w_gT; rfl; apply w_eql; rfl; rfl; apply w_gT; rfl; apply w_mvb; rfl; refine w_gdT rfl (by omega) ?_; apply w_gT; rfl; apply w_mvi; rfl; apply w_gT; rfl; apply w_geq; rfl; rfl; apply w_gT; rfl; apply w_pickTb; rfl; rfl; apply w_gT; rfl; apply w_mvb; rfl; refine w_gdT rfl (by omega) ?_; apply w_gT; rfl; apply w_mvi; rfl; apply w_gT; rfl; apply w_mvs; rfl; apply w_gT; rfl; apply w_len; rfl; apply w_gT; rfl; apply w_lss; rfl; rfl; apply w_gT; rfl; apply w_pickTb; rfl; rfl; apply w_gT; rfl; apply w_mvb; rfl; refine w_gdT rfl (by omega) ?_; apply w_gT; rfl; apply w_mvs; rfl; apply w_gT; rfl; apply w_mvi; rfl; apply w_gT; rfl; refine w_idxR (sz := 1) (R := RByte) (by rfl) (by assumption) (by rfl) rfl (by omega) ?_; rintro _ _ _ _ _ rfl; apply w_gT; rfl; apply w_ld; rfl; exact hc_ds0 (by assumption) rfl; apply w_gT; rfl; apply w_neq; rfl; rfl; apply w_gT; rfl; apply w_pickTb; rfl; rfl; apply w_pickFb; rfl; rfl; apply w_done0; refine w_ifdT rfl (by omega) ?_; apply w_skip; apply w_block; apply w_sq; apply w_reg; apply w_alo; intro _ _; apply w_done0; apply w_sq; apply w_reg; apply w_mvs; rfl; apply w_mvi; rfl; apply w_mvi; rfl; apply w_sub; rfl; rfl; omega; omega)
      rename_i b10 T10
      refine w_call0 (show [Value.slice _ _ _, Value.int .i64 _, Value.int .i64 (le - 1)] = _ by rw [hle1]) (ih (by omega) hb3 hbl (show k ≤ b.length + 48 by omega)) (fun r d4 L4 hl4 ⟨hL, cs, y, z', hr, hR, hdy, hyo, hyr⟩ => ?_)
      subst hL; subst hr
      (apply w_mvu; rfl; apply w_ext; rfl; rfl; apply w_ext; rfl; rfl)
      refine w_stE 0 cs rfl rfl rfl hR.len (Nat.le_of_ble_eq_true rfl) (cell1_val _ _ _ hR) (patch6 rfl hR.len) ?_
      (apply w_mvi; rfl; apply w_done0; apply w_reg; apply w_fld; rfl; apply w_ld; rfl; exact hc_i 1 rfl rfl)
      refine w_ldb 0 rfl rfl hR.len ?_
      refine w_bsV rfl hR.len (fun b42 T42 => ?_)
      refine w_appL (R := RVal) 3 rfl rfl (GRow.mono (R := RVal) mono_val hgr hl4) rfl (GRow.lit1 hR.len hR) cell1_val (by omega) (by simp; omega) (by simp; omega) (fun v5 h5 o5 => ?_)
      obtain ⟨a5, c5, rfl⟩ := o5.val
      (apply w_fld; rfl)
      refine w_vs d4 [bx b8 T8 [.int .i64 kd, .int .i64 m, .int .i64 e, strV t, .slice va l.length vc, .slice ka ks.length kc], bx b6 T6 zVal, h5] (Vs.drop (.cons _ (.cons_cons _ (.cons_cons _ (.cons_cons _ .slnil))))) ?_
      refine w_stE 0 [.int .i64 kd, .int .i64 m, .int .i64 e, strV t, .slice a5 (l ++ [y]).length c5, .slice ka ks.length kc] rfl rfl rfl rfl (Nat.le_of_ble_eq_true rfl) rfl rfl ?_
      (apply w_done0)
      refine ⟨(l ++ [y], z'), _, h5, ?_, ⟨rfl, rfl, rfl, rfl, rfl, rfl, trivial⟩, hl3.trans hl4, by simp; omega, ?_, ?_, o5, fun x r hs hx h => ?_, rfl⟩
      · rcases hyo with h | ⟨k', h, _⟩
        · subst h; rw [ofs_neg, ofs_nat]; omega
        · subst h; rw [ofs_nat, ofs_nat]; omega
      · intro w hw; rcases List.mem_append.1 hw with h | h
        · exact hld w h
        · rw [List.mem_singleton.1 h]; exact hdy
      · rcases hyo with h | ⟨k', h, h9⟩
        · exact .inl h
        · exact .inr ⟨k', h, by omega, by omega, by simp only [bulks_snoc]; omega⟩
      · obtain ⟨l', k0, g2, g3, g4, g5⟩ := hrl x r hs hx h
        obtain rfl : k = k0 := by omega
        obtain ⟨_, hal⟩ := shp_iff.1 hs
        cases l' with
        | nil => 
          rw [hdk2, if_pos k5] at g5
          simp only [keyVs, List.nil_append, List.cons_append, List.cons.injEq] at g5
          exact absurd g5.1 h0
        | cons w l' =>
          have hw : w ∈ x.list := by rw [g2]; simp
          rw [keyVs_cons, List.append_assoc, List.append_assoc, ← List.append_assoc (keyVs l')] at g5
          obtain ⟨e1, k', e2, e3, e4⟩ := hyr w _ (hal w hw) ((hdp x).1 hx w hw) g5
          exact ⟨l', k', by rw [g2, e1]; simp, e2, e3, e4⟩
    have hfin : ∀ {x r}, shp x → depthV x ≤ left + 1 → b.drop n = keyV x ++ r → V.mk kd m e t l ks = x ∧ ∃ k : Nat, z = k ∧ k ≤ b.length ∧ b.drop k = r := fun {x r} hs hx h => by
      obtain ⟨⟨a1, a2, a3, a4, a5, a6, a7⟩, hal⟩ := shp_iff.1 hs
      obtain ⟨g1, _⟩ := hrel x r hs hx h
      obtain ⟨l', k0, q2, q3, q4, q5⟩ := hrl x r hs hx h
      have hnil := a4.resolve_left (by omega)
      rw [hnil] at q2
      obtain ⟨rfl, rfl⟩ := List.append_eq_nil_iff.1 q2.symm
      refine ⟨hext hs hx h hnil, k0, q3, q4, ?_⟩
      rw [q5, if_neg k5]; simp [keyVs]
    apply w_sq; apply w_sq; apply w_reg
    refine w_vs _ _ hVs ?_
    (apply w_fld; rfl; apply w_ld; rfl; exact hc_i 0 rfl rfl; apply w_eql; rfl; rfl; apply w_mvb; rfl; refine w_gdF rfl (by omega) ?_; apply w_gF; rfl; apply w_gF; rfl; apply w_pickFb; rfl; rfl; apply w_mvb; rfl; apply w_gF; rfl; apply w_gF; rfl; apply w_gF; rfl; apply w_gF; rfl; apply w_gF; rfl; apply w_gF; rfl; apply w_gF; rfl; apply w_pickFb; rfl; rfl; apply w_mvb; rfl; apply w_gT; rfl; apply w_fld; rfl; apply w_gT; rfl; apply w_ld; rfl; exact hc_i 0 rfl rfl; apply w_gT; rfl; apply w_eql; rfl; rfl; apply w_gT; rfl; apply w_mvb; rfl; refine w_gdF rfl (by omega) ?_; apply w_gF; rfl; apply w_gF; rfl; apply w_gT; rfl; apply w_pickFb; rfl; rfl; apply w_gT; rfl; apply w_mvb; rfl; apply w_gF; rfl; apply w_gF; rfl; apply w_gF; rfl; apply w_gF; rfl; apply w_gT; rfl; apply w_pickFb; rfl; rfl; apply w_gT; rfl; apply w_mvb; rfl; apply w_gF; rfl; apply w_gF; rfl; apply w_gF; rfl; apply w_gF; rfl; apply w_gF; rfl; apply w_gT; rfl; apply w_pickFb; rfl; rfl; apply w_pickFb; rfl; rfl; apply w_done0; apply w_ifF; rfl; apply w_exit; apply w_sq; apply w_sq; apply w_reg; apply w_fld; rfl; apply w_ld; rfl; exact hc_i 0 rfl rfl; apply w_eql; rfl; rfl; apply w_mvb; rfl; refine w_gdF rfl (by omega) ?_; apply w_gF; rfl; apply w_gF; rfl; apply w_pickFb; rfl; rfl; apply w_done0; apply w_ifF; rfl; apply w_skip; apply w_sq; apply w_reg; apply w_ldb 0; rfl; rfl; rfl; apply w_mvi; rfl)
    refine w_stE 1 [.int .i64 kd, .int .i64 m, .int .i64 e, strV t, .slice va l.length vc, .slice ka ks.length kc] rfl rfl rfl rfl (Nat.le_of_ble_eq_true rfl) rfl rfl ?_
    (apply w_mvi; rfl; apply w_done0; apply w_ret)
    refine finS (L' := []) [.agg [.int .i64 kd, .int .i64 m, .int .i64 e, strV t, .slice va l.length vc, .slice ka ks.length kc].toArray, .int .i64 z] ⟨res_cell 1 rfl rfl rfl, rfl, trivial⟩ (List.nil_sublist _) ⟨rfl, _, _, z, rfl, hRV, hdv, (by rcases hko with h | ⟨k, h, g1, g2, g3⟩; exact .inl h; exact .inr ⟨k, h, g1, by omega, by omega⟩), fun x r hs hx h => ?_⟩
    exact hfin hs hx h
end Go.Gk.Val
end

section
namespace Go.Gk.Val
open Go Go.Gk Go.Gk.Num
attribute [local irreducible] gwp gws

def RKReadOk (T : PHeap → Prop) (P : Program) (f : FuncId) : Prop := ∀ {d : PHeap} {vb : Value} {b : List UInt8}, T d → RSl 1 RByte d vb b → b.length ≤ 1000000 →
  GCall P f [vb] d [] (Ret fun r d' L' => L' = [] ∧ ((∃ cs x k, rightV x = 0 ∧ b = keyV x ++ b.drop k ∧ k ≤ b.length ∧ r = .tuple #[.agg cs.toArray, .int .i64 (k : Nat), .int .i64 0] ∧ RVal d' cs x) ∨
    ((∀ x r, rightV x = 0 → b ≠ keyV x ++ r) ∧ r = .tuple #[.agg zVal.toArray, .int .i64 0, .int .i64 50])))
theorem RKeyOk.fz {P : Program} {f : FuncId} (h : RKeyOk P f) (x : V) {d : PHeap} {cs : List Value} (hv : RVal d cs x) (hm : mayV x = true) (hl : (keyV x).length ≤ 1000000000) :
    GCall P f [.agg cs.toArray] d [] (Ret fun r d' L' => L' = [] ∧ RBytes d' r (keyV x)) :=
  (h x hv hm hl).monoR fun v d' L' hl ⟨hdd, h', hL, o⟩ => by
    subst hdd; subst hL
    exact ⟨_, [], Vs.freeze, rfl, (o.atB (d' := d')).rsl (R := RByte) mono_byte (by omega) (Le.join_left _ _) (Le.join_right _ _)⟩
def g_thimbleref05_Read (f_thimbleref05_read f_thimbleref03_Right f_thimbleref05_Key : Nat) : GFun :=
 ⟨38, [(.cell 2 (some 6)), (.tmp 3), (.tmp 4)],
 (.seq
 (.reg false (.op false ⟨(some 2), none, (.alo (.agg #[(.int .i64 0), (.int .i64 0), (.int .i64 0), (strV []), (.slice none 0 0), (.slice none 0 0)]))⟩
  (.op false ⟨(some 3), none, (.mv (.const (.int .i64 0)))⟩
  (.op false ⟨(some 4), none, (.mv (.const (.int .i64 0)))⟩ .done))))
 (.seq
 (.reg false (.op false ⟨(some 8), none, (.mv (.tmp 0))⟩
  (.op false ⟨(some 9), none, (.call f_thimbleref05_read [(.tmp 8), (.const (.int .i64 0)), (.const (.int .i64 48))])⟩
  (.op false ⟨(some 7), none, (.mv (.tmp 9))⟩
  (.op false ⟨(some 10), none, (.ext (.tmp 7) 0)⟩
  (.op false ⟨(some 11), none, (.ext (.tmp 7) 1)⟩
  (.op false ⟨(some 5), none, (.alo (.agg #[(.int .i64 0), (.int .i64 0), (.int .i64 0), (strV []), (.slice none 0 0), (.slice none 0 0)]))⟩
  (.op false ⟨none, none, (.st 6 (.tmp 5) (.tmp 10))⟩
  (.op false ⟨(some 6), none, (.mv (.tmp 11))⟩ .done)))))))))
 (.seq (.seq
 (.reg true (.op true ⟨(some 12), none, (.mv (.tmp 6))⟩
  (.op true ⟨(some 13), none, (.bin .lss (.tmp 12) (.const (.int .i64 0)))⟩
  (.op true ⟨(some 14), none, (.mv (.tmp 13))⟩
  (.op true ⟨(some 15), (some (14, false)), (.mv (.tmp 6))⟩
  (.op true ⟨(some 16), (some (14, false)), (.mv (.tmp 0))⟩
  (.op true ⟨(some 17), (some (14, false)), (.len (.tmp 16))⟩
  (.op true ⟨(some 18), (some (14, false)), (.bin .gtr (.tmp 15) (.tmp 17))⟩
  (.op true ⟨(some 19), none, (.pick (.tmp 14) (.const (.bool true)) (.tmp 18))⟩
  (.op true ⟨(some 20), none, (.mv (.tmp 19))⟩
  (.op true ⟨(some 21), (some (20, false)), (.ld (some 6) (.tmp 5))⟩
  (.op false ⟨(some 22), (some (20, false)), (.call f_thimbleref03_Right [(.tmp 21)])⟩
  (.op true ⟨(some 23), (some (20, false)), (.bin .neq (.tmp 22) (.const (.int .i64 0)))⟩
  (.op true ⟨(some 24), none, (.pick (.tmp 20) (.const (.bool true)) (.tmp 23))⟩
  (.op true ⟨(some 25), none, (.mv (.tmp 24))⟩
  (.op true ⟨(some 26), (some (25, false)), (.ld (some 6) (.tmp 5))⟩
  (.op true ⟨(some 29), (some (25, false)), (.mv (.tmp 0))⟩
  (.op true ⟨(some 30), (some (25, false)), (.mv (.tmp 6))⟩
  (.op true ⟨(some 31), (some (25, false)), (.sl 1 (.tmp 29) none (some (.tmp 30)) none)⟩
  (.op true ⟨(some 32), (some (25, false)), (.b2s (.tmp 31))⟩
  (.op false ⟨(some 27), (some (25, false)), (.call f_thimbleref05_Key [(.tmp 26)])⟩
  (.op true ⟨(some 28), (some (25, false)), (.b2s (.tmp 27))⟩
  (.op true ⟨(some 33), (some (25, false)), (.bin .neq (.tmp 28) (.tmp 32))⟩
  (.op true ⟨(some 34), none, (.pick (.tmp 25) (.const (.bool true)) (.tmp 33))⟩ .done)))))))))))))))))))))))) (.cond (.tmp 34)
 (.seq
 (.reg false (.op false ⟨(some 35), none, (.bld [(0, 1), (1, 2), (3, 1), (4, 1), (5, 1)] [(.int .i64 0), (.int .i64 0), (.int .i64 0), (strV []), (.slice none 0 0), (.slice none 0 0)] [])⟩
  (.op false ⟨none, none, (.st 6 (.tmp 2) (.tmp 35))⟩
  (.op false ⟨(some 3), none, (.mv (.const (.int .i64 0)))⟩
  (.op false ⟨(some 4), none, (.mv (.const (.int .i64 50)))⟩ .done))))) .ret) .skip))
 (.seq
 (.reg false (.op false ⟨(some 36), none, (.ld (some 6) (.tmp 5))⟩
  (.op false ⟨(some 37), none, (.mv (.tmp 6))⟩
  (.op false ⟨none, none, (.st 6 (.tmp 2) (.tmp 36))⟩
  (.op false ⟨(some 3), none, (.mv (.tmp 37))⟩
  (.op false ⟨(some 4), none, (.mv (.const (.int .i64 0)))⟩ .done)))))) .ret))))⟩

set_option maxHeartbeats 1000000 in
theorem rkread_ok {T : PHeap → Prop} (hTm : ∀ {d d' : PHeap}, T d → Le d d' → T d') {P : Program} {f f1 f2 f3 : FuncId} (hd : dec P f = some (g_thimbleref05_Read f1 f2 f3)) (h1 : RReadOk P f1) (h2 : RRightOk T P f2) (h3 : RKeyOk P f3) : RKReadOk T P f := by
  intro d vb b ht hb hbl
  refine GCall_of hd (Nat.le_of_ble_eq_true rfl) ?_
  obtain ⟨ba, bc, rfl⟩ := RSl.val hb
  show gwp P _ _ _ _ _
  apply w_sq; apply w_reg
  refine w_alo (fun b2 T2 => ?_)
  (apply w_mvi; rfl; apply w_mvi; rfl; apply w_done0; apply w_sq; apply w_reg; apply w_mvs; rfl)
  refine w_call0 rfl (h1 48 (n := 0) (Nat.le_refl _) hb (by omega) (by omega)) (fun r d3 L3 hl3 ⟨hL, cs, v, z, hr, hR, hdv, hz, hrel⟩ => ?_)
  subst hL; subst hr
  obtain ⟨e0, e1, e2, e3, e4, e5, rfl⟩ := six hR.len
  have hb3 := RSl.mono (R := RByte) mono_byte hb hl3
  have ht3 := hTm ht hl3
  have hgood : ∀ {x r}, rightV x = 0 → b = keyV x ++ r → v = x ∧ ∃ k : Nat, z = k ∧ k ≤ b.length ∧ b.drop k = r := fun {x r} hx h => hrel x r (may_shp x (right_iff.1 hx).1) (right_iff.1 hx).2 h
  (apply w_mvu; rfl; apply w_ext; rfl; rfl; apply w_ext; rfl; rfl; apply w_alo; intro _ _)
  rename_i b5 T5
  refine w_stE 0 [e0, e1, e2, e3, e4, e5] rfl rfl rfl rfl (Nat.le_of_ble_eq_true rfl) (cell1_val _ _ _ hR) rfl ?_
  rcases hz with hz | ⟨k, hz, hk0, hk1, hk2⟩
  · subst hz
    (apply w_mvi; rfl; apply w_done0; apply w_sq; apply w_sq; apply w_drawn; apply w_mvi; rfl; apply w_lss; rfl; rfl; apply w_mvb; rfl; refine w_gdT rfl (by omega) ?_; apply w_gF; rfl; apply w_gF; rfl; apply w_gF; rfl; apply w_gF; rfl; apply w_pickTb; rfl; rfl; apply w_mvb; rfl; apply w_gF; rfl; apply w_gF; rfl; apply w_gF; rfl; apply w_pickTb; rfl; rfl; apply w_mvb; rfl; apply w_gF; rfl; apply w_gF; rfl; apply w_gF; rfl; apply w_gF; rfl; apply w_gF; rfl; apply w_gF; rfl; apply w_gF; rfl; apply w_gF; rfl; apply w_pickTb; rfl; rfl; apply w_done; apply w_ifT; rfl; apply w_sq; apply w_reg; apply w_bvZ)
    refine w_stE 1 zVal rfl rfl rfl rfl (Nat.le_of_ble_eq_true rfl) rfl rfl ?_
    (apply w_mvi; rfl; apply w_mvi; rfl; apply w_done0; apply w_ret)
    exact finS (L' := []) [.agg zVal.toArray, .int .i64 0, .int .i64 50] ⟨res_cell 1 rfl rfl rfl, rfl, rfl, trivial⟩ (List.nil_sublist _) ⟨rfl, .inr ⟨fun x r hx h => by obtain ⟨_, k, h9, _⟩ := hgood hx h; omega, rfl⟩⟩
  subst hz
  by_cases hk : k ≤ b.length
  rotate_left
  · (apply w_mvi; rfl; apply w_done0; apply w_sq; apply w_sq; apply w_drawn; apply w_mvi; rfl; apply w_lss; rfl; rfl; apply w_mvb; rfl; refine w_gdF rfl (by omega) ?_; apply w_gT; rfl; apply w_mvi; rfl; apply w_gT; rfl; apply w_mvs; rfl; apply w_gT; rfl; apply w_len; rfl; apply w_gT; rfl; apply w_gtr; rfl; rfl; apply w_pickFb; rfl; rfl; apply w_mvb; rfl; refine w_gdT rfl (by omega) ?_; apply w_gF; rfl; apply w_gF; rfl; apply w_gF; rfl; apply w_pickTb; rfl; rfl; apply w_mvb; rfl; apply w_gF; rfl; apply w_gF; rfl; apply w_gF; rfl; apply w_gF; rfl; apply w_gF; rfl; apply w_gF; rfl; apply w_gF; rfl; apply w_gF; rfl; apply w_pickTb; rfl; rfl; apply w_done; apply w_ifT; rfl; apply w_sq; apply w_reg; apply w_bvZ)
    refine w_stE 1 zVal rfl rfl rfl rfl (Nat.le_of_ble_eq_true rfl) rfl rfl ?_
    (apply w_mvi; rfl; apply w_mvi; rfl; apply w_done0; apply w_ret)
    exact finS (L' := []) [.agg zVal.toArray, .int .i64 0, .int .i64 50] ⟨res_cell 1 rfl rfl rfl, rfl, rfl, trivial⟩ (List.nil_sublist _) ⟨rfl, .inr ⟨fun x r hx h => by obtain ⟨_, k, h9, _⟩ := hgood hx h; omega, rfl⟩⟩
  have hdv2 : depthV v ≤ 1000000000 := by omega
  (apply w_mvi; rfl; apply w_done0; apply w_sq; apply w_sq; apply w_drawn; apply w_mvi; rfl; apply w_lss; rfl; rfl; apply w_mvb; rfl; refine w_gdF rfl (by omega) ?_; apply w_gT; rfl; apply w_mvi; rfl; apply w_gT; rfl; apply w_mvs; rfl; apply w_gT; rfl; apply w_len; rfl; apply w_gT; rfl; apply w_gtr; rfl; rfl; apply w_pickFb; rfl; rfl; apply w_mvb; rfl; refine w_gdF rfl (by omega) ?_; apply w_gT; rfl; apply w_ldb 0; rfl; rfl; rfl; apply w_gT; rfl)
  refine w_pure rfl (h2 ht3 hR hdv2) ?_
  by_cases hr : rightV v = 0
  rotate_left
  · (apply w_gT; rfl; apply w_neq; rfl; rfl; apply w_pickFb; rfl; rfl; apply w_mvb; rfl; refine w_gdT rfl (by omega) ?_; apply w_gF; rfl; apply w_gF; rfl; apply w_gF; rfl; apply w_gF; rfl; apply w_gF; rfl; apply w_gF; rfl; apply w_gF; rfl; apply w_gF; rfl; apply w_pickTb; rfl; rfl; apply w_done; apply w_ifT; rfl; apply w_sq; apply w_reg; apply w_bvZ)
    refine w_stE 1 zVal rfl rfl rfl rfl (Nat.le_of_ble_eq_true rfl) rfl rfl ?_
    (apply w_mvi; rfl; apply w_mvi; rfl; apply w_done0; apply w_ret)
    exact finS (L' := []) [.agg zVal.toArray, .int .i64 0, .int .i64 50] ⟨res_cell 1 rfl rfl rfl, rfl, rfl, trivial⟩ (List.nil_sublist _) ⟨rfl, .inr ⟨fun x r hx h => by obtain ⟨h9, _⟩ := hgood hx h; rw [h9] at hr; exact hr hx, rfl⟩⟩
  have hkl := keyV_len v (right_iff.1 hr).1
  rw [hr]
  (apply w_gT; rfl; apply w_neq; rfl; rfl; apply w_pickFb; rfl; rfl; apply w_mvb; rfl; refine w_gdF rfl (by omega) ?_; apply w_gT; rfl; apply w_ldb 0; rfl; rfl; rfl; apply w_gT; rfl; apply w_mvs; rfl; apply w_gT; rfl; apply w_mvi; rfl; apply w_gT; rfl)
  refine w_slTo (n := k) rfl hb3 rfl rfl hk (fun v31 r31 => ?_)
  have r31' : RBytes _ v31 _ := r31
  (apply w_gT; rfl; apply w_b2sR; rfl; assumption; apply w_gT; rfl)
  refine w_call0 rfl (h3.fz v hR (right_iff.1 hr).1 (by omega)) (fun r d6 L6 hl6 ⟨hL, o6⟩ => ?_)
  subst hL
  have r31'' : RBytes d6 v31 _ := r31'.mono hl6
  have hR6 := hR.mono hl6
  by_cases he : keyV v = b.take k
  · have he' : ¬ (keyV v ≠ b.take k) := fun h => h he
    (apply w_gT; rfl; apply w_b2sR; rfl; assumption; apply w_gT; rfl; apply w_sne; rfl; rfl; apply w_pickFb; rfl; rfl; apply w_done; refine w_ifdF rfl (by omega) ?_; apply w_skip; apply w_sq; apply w_reg; apply w_ldb 0; rfl; rfl; rfl; apply w_mvi; rfl)
    refine w_stE 1 [e0, e1, e2, e3, e4, e5] rfl rfl rfl rfl (Nat.le_of_ble_eq_true rfl) (cell1_val _ _ _ hR) rfl ?_
    (apply w_mvi; rfl; apply w_mvi; rfl; apply w_done0; apply w_ret)
    exact finS (L' := []) [.agg [e0, e1, e2, e3, e4, e5].toArray, .int .i64 (k : Nat), .int .i64 0] ⟨res_cell 1 rfl rfl rfl, rfl, rfl, trivial⟩ (List.nil_sublist _) ⟨rfl, .inl ⟨_, v, k, hr, by rw [he, List.take_append_drop], hk, rfl, hR6⟩⟩
  · (apply w_gT; rfl; apply w_b2sR; rfl; assumption; apply w_gT; rfl; apply w_sne; rfl; rfl; apply w_pickFb; rfl; rfl; apply w_done; refine w_ifdT rfl (by omega) ?_; apply w_sq; apply w_reg; apply w_bvZ)
    refine w_stE 1 zVal rfl rfl rfl rfl (Nat.le_of_ble_eq_true rfl) rfl rfl ?_
    (apply w_mvi; rfl; apply w_mvi; rfl; apply w_done0; apply w_ret)
    exact finS (L' := []) [.agg zVal.toArray, .int .i64 0, .int .i64 50] ⟨res_cell 1 rfl rfl rfl, rfl, rfl, trivial⟩ (List.nil_sublist _) ⟨rfl, .inr ⟨fun x r hx h => by
      obtain ⟨h9, k', hk', hk2, hk3⟩ := hgood hx h
      obtain rfl : k = k' := by omega
      rw [← h9] at h
      exact he (by rw [← hk3] at h; have := h.symm.trans (List.take_append_drop k b).symm; exact List.append_cancel_right this), rfl⟩⟩
end Go.Gk.Val
end

section
namespace Go.Gk.Val
open Go Go.Gk Go.Gk.Num
attribute [local irreducible] gwp gws

def g_thimblelaw05_KeyReads (f_thimblelaw05_works f_key_Read f_thimbleref05_Read f_thimbleref03_Same : Nat) : GFun :=
 ⟨52, [(.tmp 2)],
 (.seq
 (.reg false (.op false ⟨(some 2), none, (.mv (.const (.bool false)))⟩ .done))
 (.seq (.seq
 (.reg false (.op false ⟨(some 10), none, (.mv (.tmp 0))⟩
  (.op false ⟨(some 11), none, (.len (.tmp 10))⟩
  (.op false ⟨(some 12), none, (.bin .gtr (.tmp 11) (.const (.int .i64 2000)))⟩ .done)))) (.cond (.tmp 12)
 (.seq
 (.reg false (.op false ⟨(some 13), none, (.call f_thimblelaw05_works [])⟩
  (.op false ⟨(some 2), none, (.mv (.tmp 13))⟩ .done))) .ret) .skip))
 (.seq
 (.reg false (.op false ⟨(some 14), none, (.bsl 0 1 [(.int .u8 0)] [])⟩
  (.op false ⟨(some 15), none, (.mv (.tmp 0))⟩
  (.op false ⟨(some 16), none, (.app 1 1 [(.int .u8 0)] (.tmp 14) (.tmp 15))⟩
  (.op false ⟨(some 3), none, (.mv (.tmp 16))⟩ .done)))))
 (.seq
 (.reg false (.op false ⟨(some 18), none, (.mv (.tmp 3))⟩
  (.op false ⟨(some 19), none, (.call f_key_Read [(.tmp 18)])⟩
  (.op false ⟨(some 17), none, (.mv (.tmp 19))⟩
  (.op false ⟨(some 20), none, (.ext (.tmp 17) 0)⟩
  (.op false ⟨(some 21), none, (.ext (.tmp 17) 1)⟩
  (.op false ⟨(some 22), none, (.ext (.tmp 17) 2)⟩
  (.op false ⟨(some 4), none, (.alo (.agg #[(.int .i64 0), (.int .i64 0), (.int .i64 0), (strV []), (.slice none 0 0), (.slice none 0 0)]))⟩
  (.op false ⟨none, none, (.st 6 (.tmp 4) (.tmp 20))⟩
  (.op false ⟨(some 5), none, (.mv (.tmp 21))⟩
  (.op false ⟨(some 6), none, (.mv (.tmp 22))⟩ .done)))))))))))
 (.seq
 (.reg false (.op false ⟨(some 24), none, (.mv (.tmp 0))⟩
  (.op false ⟨(some 25), none, (.call f_thimbleref05_Read [(.tmp 24)])⟩
  (.op false ⟨(some 23), none, (.mv (.tmp 25))⟩
  (.op false ⟨(some 26), none, (.ext (.tmp 23) 0)⟩
  (.op false ⟨(some 27), none, (.ext (.tmp 23) 1)⟩
  (.op false ⟨(some 28), none, (.ext (.tmp 23) 2)⟩
  (.op false ⟨(some 7), none, (.alo (.agg #[(.int .i64 0), (.int .i64 0), (.int .i64 0), (strV []), (.slice none 0 0), (.slice none 0 0)]))⟩
  (.op false ⟨none, none, (.st 6 (.tmp 7) (.tmp 26))⟩
  (.op false ⟨(some 8), none, (.mv (.tmp 27))⟩
  (.op false ⟨(some 9), none, (.mv (.tmp 28))⟩ .done)))))))))))
 (.seq
 (.reg false (.op false ⟨(some 29), none, (.ld (some 6) (.tmp 4))⟩
  (.op false ⟨(some 30), none, (.ld (some 6) (.tmp 7))⟩
  (.op false ⟨(some 31), none, (.call f_thimbleref03_Same [(.tmp 29), (.tmp 30)])⟩
  (.op false ⟨(some 32), none, (.mv (.tmp 31))⟩
  (.op false ⟨(some 33), (some (32, true)), (.mv (.tmp 5))⟩
  (.op false ⟨(some 34), (some (32, true)), (.mv (.tmp 8))⟩
  (.op false ⟨(some 35), (some (32, true)), (.bin .eql (.tmp 33) (.tmp 34))⟩
  (.op false ⟨(some 36), none, (.pick (.tmp 32) (.tmp 35) (.const (.bool false)))⟩
  (.op false ⟨(some 37), none, (.mv (.tmp 36))⟩
  (.op false ⟨(some 38), (some (37, true)), (.mv (.tmp 6))⟩
  (.op false ⟨(some 39), (some (37, true)), (.mv (.tmp 9))⟩
  (.op false ⟨(some 40), (some (37, true)), (.bin .eql (.tmp 38) (.tmp 39))⟩
  (.op false ⟨(some 41), none, (.pick (.tmp 37) (.tmp 40) (.const (.bool false)))⟩
  (.op false ⟨(some 42), none, (.mv (.tmp 41))⟩
  (.op false ⟨(some 43), (some (42, true)), (.mv (.tmp 3))⟩
  (.op false ⟨(some 44), (some (42, true)), (.b2s (.tmp 43))⟩
  (.op false ⟨(some 45), (some (42, true)), (.mv (.tmp 0))⟩
  (.op false ⟨(some 46), (some (42, true)), (.b2s (.tmp 45))⟩
  (.op false ⟨(some 47), (some (42, true)), (.bin .eql (.tmp 44) (.tmp 46))⟩
  (.op false ⟨(some 48), none, (.pick (.tmp 42) (.tmp 47) (.const (.bool false)))⟩
  (.op false ⟨(some 49), none, (.mv (.tmp 48))⟩
  (.op false ⟨(some 50), (some (49, true)), (.call f_thimblelaw05_works [])⟩
  (.op false ⟨(some 51), none, (.pick (.tmp 49) (.tmp 50) (.const (.bool false)))⟩
  (.op false ⟨(some 2), none, (.mv (.tmp 51))⟩ .done))))))))))))))))))))))))) .ret))))))⟩

set_option maxHeartbeats 1000000 in
theorem keyReads_ok {T : PHeap → Prop} (hTm : ∀ {d d' : PHeap}, T d → Le d d' → T d') {P : Program} {f f1 f2 f3 f4 : FuncId} (hd : dec P f = some (g_thimblelaw05_KeyReads f1 f2 f3 f4)) (h1 : KWorksOk T P f1) (h2 : KReadOk T P f2) (h3 : RKReadOk T P f3) (h4 : SameOk P f4) {d : PHeap} {vb : Value} {b : List UInt8} (ht : T d) (hb : RSl 1 RByte d vb b) :
    GPure P f [vb] d (.bool true) := by
  obtain ⟨ba, bc, rfl⟩ := RSl.val hb
  refine GPure.of' hd (Nat.le_of_ble_eq_true rfl) ?_
  show gwp P _ _ _ _ _
  by_cases hbl : b.length > 2000
  · have hbl' : (2000 : Int) < (b.length : Nat) := by omega
    (apply w_sq; apply w_reg; apply w_mvb; rfl; apply w_done0; apply w_sq; apply w_sq; apply w_reg; apply w_mvs; rfl; apply w_len; rfl; apply w_gtr; rfl; rfl; apply w_done0; refine w_ifdT rfl (by omega) ?_; apply w_sq; apply w_reg)
    refine w_pure rfl (h1 ht) ?_
    (apply w_mvb; rfl; apply w_done0; apply w_ret)
    exact finQ rfl
  have hbl' : ¬ (2000 : Int) < (b.length : Nat) := by omega
  (apply w_sq; apply w_reg; apply w_mvb; rfl; apply w_done0; apply w_sq; apply w_sq; apply w_reg; apply w_mvs; rfl; apply w_len; rfl; apply w_gtr; rfl; rfl; apply w_done0; refine w_ifdF rfl (by omega) ?_; apply w_skip; apply w_sq; apply w_reg)
  refine w_bsl (cs := []) (by simp) (by simp [Instr.fill, zrow]) (fun b14 T14 => ?_)
  (apply w_mvs; rfl)
  refine w_appG (R := RByte) (xs := []) 0 rfl rfl (GRow.litB (l := []) rfl rfl (by simp)) rfl (hb.src cell1_byte (by omega) _) (by omega) (by simp; omega) (by simp; omega) (fun v16 h16 o16 => ?_)
  rw [List.nil_append] at o16
  obtain ⟨oa, oc, rfl⟩ := o16.val
  (apply w_mvs; rfl; apply w_done0)
  show gwp P _ _ _ _ _
  apply w_sq; apply w_reg
  refine w_frz (fun d1 hl1 hg1 => ?_)
  have r16 : RSl 1 RByte d1 (.slice oa b.length oc) b := o16.rsl (R := RByte) mono_byte (by omega) hl1 hg1
  have ht1 := hTm ht hl1
  have hb1 := RSl.mono (R := RByte) mono_byte hb hl1
  (apply w_mvs; rfl)
  refine w_call0 rfl (h2 ht1 r16 (by omega)) (fun r d2 L2 hl2 ⟨hL, hr⟩ => ?_)
  subst hL
  have ht2 := hTm ht1 hl2
  have hb2 := RSl.mono (R := RByte) mono_byte hb1 hl2
  have r16b : RBytes d2 (.slice oa b.length oc) b := RBytes.mono r16 hl2
  rcases hr with ⟨cs, x, k, hx, hbx, hk, hr, hR⟩ | ⟨hno, hr⟩
  · subst hr
    obtain ⟨e0, e1, e2, e3, e4, e5, rfl⟩ := six hR.len
    (apply w_mvu; rfl; apply w_ext; rfl; rfl; apply w_ext; rfl; rfl; apply w_ext; rfl; rfl; apply w_alo; intro _ _)
    rename_i b4 T4
    refine w_stE 0 [e0, e1, e2, e3, e4, e5] rfl rfl rfl rfl (Nat.le_of_ble_eq_true rfl) (cell1_val _ _ _ hR) rfl ?_
    (apply w_mvi; rfl; apply w_mvi; rfl; apply w_done0; apply w_sq; apply w_reg; apply w_mvs; rfl)
    refine w_call0 rfl (h3 ht2 hb2 (by omega)) (fun r d3 L3 hl3 ⟨hL, hr⟩ => ?_)
    subst hL
    rcases hr with ⟨cs', y, k', hy, hby, hk', hr, hS⟩ | ⟨hno, hr⟩
    rotate_left
    · exact absurd hbx (hno _ _ hx)
    subst hr
    obtain ⟨rfl, he⟩ := keyV_inj _ (may_shp _ (right_iff.1 hx).1) y _ _ (may_shp _ (right_iff.1 hy).1) (hby.symm.trans hbx)
    obtain rfl : k = k' := by
      have := congrArg List.length he
      simp at this; omega
    obtain ⟨q0, q1, q2, q3, q4, q5, rfl⟩ := six hS.len
    have ht3 := hTm ht2 hl3
    have hb3 : RBytes d3 (.slice ba b.length bc) b := RBytes.mono hb2 hl3
    have r16c := RBytes.mono r16b hl3
    have hs := h4 y y (hR.mono hl3) hS
    rw [(sameV_iff y y).2 rfl] at hs
    (apply w_mvu; rfl; apply w_ext; rfl; rfl; apply w_ext; rfl; rfl; apply w_ext; rfl; rfl; apply w_alo; intro _ _)
    rename_i b7 T7
    refine w_stE 0 [q0, q1, q2, q3, q4, q5] rfl rfl rfl rfl (Nat.le_of_ble_eq_true rfl) (cell1_val _ _ _ hS) rfl ?_
    (apply w_mvi; rfl; apply w_mvi; rfl; apply w_done0; apply w_sq; apply w_reg; apply w_ldb 1; rfl; rfl; rfl; apply w_ldb 0; rfl; rfl; rfl)
    refine w_pure rfl hs ?_
    (apply w_mvb; rfl; apply w_gT; rfl; apply w_mvi; rfl; apply w_gT; rfl; apply w_mvi; rfl; apply w_gT; rfl; apply w_eql; rfl; rfl; apply w_pickTb; rfl; rfl; apply w_mvb; rfl; refine w_gdT rfl (by omega) ?_; apply w_gT; rfl; apply w_mvi; rfl; apply w_gT; rfl; apply w_mvi; rfl; apply w_gT; rfl; apply w_eql; rfl; rfl; apply w_pickTb; rfl; rfl; apply w_mvb; rfl; refine w_gdT rfl (by omega) ?_; apply w_gT; rfl; apply w_mvs; rfl; apply w_gT; rfl; apply w_b2sR; rfl; assumption; apply w_gT; rfl; apply w_mvs; rfl; apply w_gT; rfl; apply w_b2sR; rfl; assumption; apply w_gT; rfl; apply w_seq; rfl; rfl; apply w_pickTb; rfl; rfl; apply w_mvb; rfl; refine w_gdT rfl (by with_reducible rfl) ?_; apply w_gT; rfl)
    refine w_pure rfl (h1 ht3) ?_
    (apply w_pickTb; rfl; rfl; apply w_mvb; rfl; apply w_done0; apply w_ret)
    exact finQ rfl
  · subst hr
    (apply w_mvu; rfl; apply w_ext; rfl; rfl; apply w_ext; rfl; rfl; apply w_ext; rfl; rfl; apply w_alo; intro _ _)
    rename_i b4 T4
    refine w_stE 0 zVal rfl rfl rfl rfl (Nat.le_of_ble_eq_true rfl) rfl rfl ?_
    (apply w_mvi; rfl; apply w_mvi; rfl; apply w_done0; apply w_sq; apply w_reg; apply w_mvs; rfl)
    refine w_call0 rfl (h3 ht2 hb2 (by omega)) (fun r d3 L3 hl3 ⟨hL, hr⟩ => ?_)
    subst hL
    rcases hr with ⟨cs', y, k', hy, hby, hk', hr, hS⟩ | ⟨_, hr⟩
    · exact absurd hby (hno _ _ hy)
    subst hr
    have ht3 := hTm ht2 hl3
    have hb3 : RBytes d3 (.slice ba b.length bc) b := RBytes.mono hb2 hl3
    have r16c := RBytes.mono r16b hl3
    have hs := h4 V.zero V.zero (RVal.zero (d := d3)) RVal.zero
    rw [(sameV_iff V.zero V.zero).2 rfl] at hs
    (apply w_mvu; rfl; apply w_ext; rfl; rfl; apply w_ext; rfl; rfl; apply w_ext; rfl; rfl; apply w_alo; intro _ _)
    rename_i b7 T7
    refine w_stE 0 zVal rfl rfl rfl rfl (Nat.le_of_ble_eq_true rfl) rfl rfl ?_
    (apply w_mvi; rfl; apply w_mvi; rfl; apply w_done0; apply w_sq; apply w_reg; apply w_ldb 1; rfl; rfl; rfl; apply w_ldb 0; rfl; rfl; rfl)
    refine w_pure rfl hs ?_
    (apply w_mvb; rfl; apply w_gT; rfl; apply w_mvi; rfl; apply w_gT; rfl; apply w_mvi; rfl; apply w_gT; rfl; apply w_eql; rfl; rfl; apply w_pickTb; rfl; rfl; apply w_mvb; rfl; refine w_gdT rfl (by omega) ?_; apply w_gT; rfl; apply w_mvi; rfl; apply w_gT; rfl; apply w_mvi; rfl; apply w_gT; rfl; apply w_eql; rfl; rfl; apply w_pickTb; rfl; rfl; apply w_mvb; rfl; refine w_gdT rfl (by omega) ?_; apply w_gT; rfl; apply w_mvs; rfl; apply w_gT; rfl; apply w_b2sR; rfl; assumption; apply w_gT; rfl; apply w_mvs; rfl; apply w_gT; rfl; apply w_b2sR; rfl; assumption; apply w_gT; rfl; apply w_seq; rfl; rfl; apply w_pickTb; rfl; rfl; apply w_mvb; rfl; refine w_gdT rfl (by with_reducible rfl) ?_; apply w_gT; rfl)
    refine w_pure rfl (h1 ht3) ?_
    (apply w_pickTb; rfl; rfl; apply w_mvb; rfl; apply w_done0; apply w_ret)
    exact finQ rfl
end Go.Gk.Val
end
