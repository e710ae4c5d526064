/-
  Our own texts, one behind the other: GkS4 GkS5 GkS6 GkS7 GkS8 GkS9.
-/
import Derived.Test.YtbnoplhkegcllaaDoorPkE
section
/-
  Ways: what stands at the end of one.
-/
namespace Go.Gk.Val
open Go Go.Gk Go.Gk.Utf
attribute [local irreducible] gwp gws

/-! ### which may be -/
def stepB (s : St) : Bool := decide (0 ≤ s.kind ∧ s.kind ≤ 2) && (decide (s.kind ≠ 0) || u8 s.text)
theorem all_false {l : List St} {i : Nat} (h : i < l.length) (hb : stepB l[i] = false) : l.all stepB = false := by
  rw [← Bool.not_eq_true, List.all_eq_true]
  intro ha; rw [ha _ (List.getElem_mem h)] at hb; cases hb
def RWrongOk (T : PHeap → Prop) (P : Program) (f : FuncId) : Prop := ∀ {d : PHeap} {w : Value} {l : List St}, T d → RSl 6 RSt d w l → GPure P f [w] d (.int .i64 (if l.all stepB = true then 0 else 2))
def g_thimbleref08_Wrong (f_thimbleref02_Right : Nat) : GFun :=
 ⟨41, [(.tmp 2)],
 (.seq
 (.reg false (.op false ⟨(some 2), none, (.mv (.const (.int .i64 0)))⟩ .done))
 (.seq (.seq
 (.reg false (.op false ⟨(some 3), none, (.mv (.const (.int .i64 0)))⟩ .done)) (.block 0 (.loop
 (.seq (.seq
 (.reg false (.op false ⟨(some 4), none, (.mv (.tmp 3))⟩
  (.op false ⟨(some 5), none, (.mv (.tmp 0))⟩
  (.op false ⟨(some 6), none, (.len (.tmp 5))⟩
  (.op false ⟨(some 7), none, (.bin .lss (.tmp 4) (.tmp 6))⟩ .done))))) (.cond (.tmp 7) .skip (.exit 0)))
 (.seq (.block 1
 (.seq
 (.reg false (.op false ⟨(some 10), none, (.mv (.tmp 0))⟩
  (.op false ⟨(some 11), none, (.mv (.tmp 3))⟩
  (.op false ⟨(some 12), none, (.idx 6 (.tmp 10) (.tmp 11))⟩
  (.op false ⟨(some 13), none, (.fld 0 (.tmp 12))⟩
  (.op false ⟨(some 14), none, (.ld none (.tmp 13))⟩
  (.op false ⟨(some 15), none, (.bin .lss (.tmp 14) (.const (.int .i64 0)))⟩
  (.op false ⟨(some 16), none, (.mv (.tmp 15))⟩
  (.op false ⟨(some 17), (some (16, false)), (.mv (.tmp 0))⟩
  (.op false ⟨(some 18), (some (16, false)), (.mv (.tmp 3))⟩
  (.op false ⟨(some 19), (some (16, false)), (.idx 6 (.tmp 17) (.tmp 18))⟩
  (.op false ⟨(some 20), (some (16, false)), (.fld 0 (.tmp 19))⟩
  (.op false ⟨(some 21), (some (16, false)), (.ld none (.tmp 20))⟩
  (.op false ⟨(some 22), (some (16, false)), (.bin .gtr (.tmp 21) (.const (.int .i64 2)))⟩
  (.op false ⟨(some 23), none, (.pick (.tmp 16) (.const (.bool true)) (.tmp 22))⟩
  (.op false ⟨(some 24), none, (.mv (.tmp 23))⟩
  (.op false ⟨(some 25), (some (24, false)), (.mv (.tmp 0))⟩
  (.op false ⟨(some 26), (some (24, false)), (.mv (.tmp 3))⟩
  (.op false ⟨(some 27), (some (24, false)), (.idx 6 (.tmp 25) (.tmp 26))⟩
  (.op false ⟨(some 28), (some (24, false)), (.fld 0 (.tmp 27))⟩
  (.op false ⟨(some 29), (some (24, false)), (.ld none (.tmp 28))⟩
  (.op false ⟨(some 30), (some (24, false)), (.bin .eql (.tmp 29) (.const (.int .i64 0)))⟩
  (.op false ⟨(some 31), (some (24, false)), (.mv (.tmp 30))⟩
  (.op false ⟨(some 32), (some (31, true)), (.mv (.tmp 0))⟩
  (.op false ⟨(some 33), (some (31, true)), (.mv (.tmp 3))⟩
  (.op false ⟨(some 34), (some (31, true)), (.idx 6 (.tmp 32) (.tmp 33))⟩
  (.op false ⟨(some 35), (some (31, true)), (.fld 1 (.tmp 34))⟩
  (.op false ⟨(some 36), (some (31, true)), (.ld none (.tmp 35))⟩
  (.op false ⟨(some 37), (some (31, true)), (.call f_thimbleref02_Right [(.tmp 36)])⟩
  (.op false ⟨(some 38), (some (31, true)), (.un .not (.tmp 37))⟩
  (.op false ⟨(some 39), (some (24, false)), (.pick (.tmp 31) (.tmp 38) (.const (.bool false)))⟩
  (.op false ⟨(some 40), none, (.pick (.tmp 24) (.const (.bool true)) (.tmp 39))⟩ .done)))))))))))))))))))))))))))))))) (.cond (.tmp 40)
 (.seq
 (.reg false (.op false ⟨(some 2), none, (.mv (.const (.int .i64 2)))⟩ .done)) .ret) .skip)))
 (.reg false (.op false ⟨(some 8), none, (.mv (.tmp 3))⟩
  (.op false ⟨(some 9), none, (.bin .add (.tmp 8) (.const (.int .i64 1)))⟩
  (.op false ⟨(some 3), none, (.mv (.tmp 9))⟩ .done)))))))))
 (.seq
 (.reg false (.op false ⟨(some 2), none, (.mv (.const (.int .i64 0)))⟩ .done)) .ret)))⟩

theorem rwrong_ok {T : PHeap → Prop} {P : Program} {f f1 : FuncId} (hd : dec P f = some (g_thimbleref08_Wrong f1)) (h1 : QuoteOk T P f1) : RWrongOk T P f := by
  intro d w l ht hw
  have n1 := RSl.len_le hw
  obtain ⟨a, c, rfl⟩ := RSl.val hw
  have hw' := hw
  refine GPure.of' hd (Nat.le_of_ble_eq_true rfl) ?_
  show gwp P _ _ _ _ _
  (apply w_sq; apply w_reg; apply w_mvi; rfl; apply w_done0; apply w_sq; apply w_sq; apply w_reg; apply w_mvi; rfl; apply w_done0; apply w_block)
  refine w_loopN (α := Nat) (fun i => [(0, .slice a l.length c), (3, .int .i64 i)]) (fun _ => []) (fun i => i ≤ l.length ∧ (l.take i).all stepB = true) (fun i => l.length - i) 0 ⟨rfl, rfl, trivial⟩ rfl ⟨Nat.zero_le _, by simp⟩ ?_
  rintro i ρ ⟨hi, hall⟩
  by_cases hc : i < l.length
  · have hnext : stepB l[i] = true → (l.take (i + 1)).all stepB = true := fun h => by rw [List.take_succ_eq_append_getElem hc, List.all_append, hall]; simp [h]
    have hfail : stepB l[i] = false → (2 : Int) = if l.all stepB = true then 0 else 2 := fun h => by rw [if_neg (by rw [all_false hc h]; simp)]
    have hlen : l[i].text.length ≤ 140737488355328 := by
      obtain ⟨_, _, _, _, _, _, _, _, _, _, _, h8⟩ := hw'
      obtain ⟨cs, _, _, _, _, h9, _⟩ := h8 i hc
      exact h9
    by_cases q1 : l[i].kind < 0
    · (apply w_sq; apply w_sq; apply w_reg; apply w_mvi; rfl; apply w_mvs; rfl; apply w_len; rfl; apply w_lss; rfl; rfl; apply w_done0; refine w_ifdT rfl (by omega) ?_; apply w_skip; apply w_sq; apply w_block; apply w_sq; apply w_reg; apply w_mvs; rfl; apply w_mvi; rfl; refine w_idxR (sz := 6) (R := RSt) (by rfl) (by assumption) (by rfl) rfl (by omega) ?_; rintro _ _ _ _ _ ⟨rfl, _, _, _, _⟩; apply w_fld; rfl; apply w_ld; rfl; exact hc_ds (by assumption) rfl; apply w_lss; rfl; rfl; apply w_mvb; rfl; refine w_gdT rfl (by omega) ?_; apply w_gF; rfl; apply w_gF; rfl; apply w_gF; rfl; apply w_gF; rfl; apply w_gF; rfl; apply w_gF; rfl; apply w_pickTb; rfl; rfl; apply w_mvb; rfl; apply w_gF; rfl; apply w_gF; rfl; apply w_gF; rfl; apply w_gF; rfl; apply w_gF; rfl; apply w_gF; rfl; apply w_gF; rfl; apply w_gU; rfl; apply w_gU; rfl; apply w_gU; rfl; apply w_gU; rfl; apply w_gU; rfl; apply w_gU; rfl; apply w_gU; rfl; apply w_gF; rfl; apply w_pickTb; rfl; rfl; apply w_done0; apply w_ifT; rfl; apply w_sq; apply w_reg; apply w_mvi; rfl; apply w_done0; apply w_ret)
      apply finQi; rfl
      exact hfail (by simp only [stepB]; rw [decide_eq_false (by omega)]; rfl)
    by_cases q2 : l[i].kind > 2
    · (apply w_sq; apply w_sq; apply w_reg; apply w_mvi; rfl; apply w_mvs; rfl; apply w_len; rfl; apply w_lss; rfl; rfl; apply w_done0; refine w_ifdT rfl (by omega) ?_; apply w_skip; apply w_sq; apply w_block; apply w_sq; apply w_reg; apply w_mvs; rfl; apply w_mvi; rfl; refine w_idxR (sz := 6) (R := RSt) (by rfl) (by assumption) (by rfl) rfl (by omega) ?_; rintro _ _ _ _ _ ⟨rfl, _, _, _, _⟩; apply w_fld; rfl; apply w_ld; rfl; exact hc_ds (by assumption) rfl; apply w_lss; rfl; rfl; apply w_mvb; rfl; refine w_gdF rfl (by omega) ?_; apply w_gT; rfl; apply w_mvs; rfl; apply w_gT; rfl; apply w_mvi; rfl; apply w_gT; rfl; refine w_idxR (sz := 6) (R := RSt) (by rfl) (by assumption) (by rfl) rfl (by omega) ?_; rintro _ _ _ _ _ ⟨rfl, _, _, _, _⟩; apply w_gT; rfl; apply w_fld; rfl; apply w_gT; rfl; apply w_ld; rfl; exact hc_ds (by assumption) rfl; apply w_gT; rfl; apply w_gtr; rfl; rfl; apply w_pickFb; rfl; rfl; apply w_mvb; rfl; refine w_gdT rfl (by omega) ?_; apply w_gF; rfl; apply w_gF; rfl; apply w_gF; rfl; apply w_gF; rfl; apply w_gF; rfl; apply w_gF; rfl; apply w_gF; rfl; apply w_gU; rfl; apply w_gU; rfl; apply w_gU; rfl; apply w_gU; rfl; apply w_gU; rfl; apply w_gU; rfl; apply w_gU; rfl; apply w_gF; rfl; apply w_pickTb; rfl; rfl; apply w_done0; apply w_ifT; rfl; apply w_sq; apply w_reg; apply w_mvi; rfl; apply w_done0; apply w_ret)
      apply finQi; rfl
      exact hfail (by simp only [stepB]; rw [decide_eq_false (by omega)]; rfl)
    have hk : decide (0 ≤ l[i].kind ∧ l[i].kind ≤ 2) = true := decide_eq_true (by omega)
    by_cases q3 : l[i].kind = 0
    · (apply w_sq; apply w_sq; apply w_reg; apply w_mvi; rfl; apply w_mvs; rfl; apply w_len; rfl; apply w_lss; rfl; rfl; apply w_done0; refine w_ifdT rfl (by omega) ?_; apply w_skip; apply w_sq; apply w_block; apply w_sq; apply w_reg; apply w_mvs; rfl; apply w_mvi; rfl; refine w_idxR (sz := 6) (R := RSt) (by rfl) (by assumption) (by rfl) rfl (by omega) ?_; rintro _ _ _ _ _ ⟨rfl, _, _, _, _⟩; apply w_fld; rfl; apply w_ld; rfl; exact hc_ds (by assumption) rfl; apply w_lss; rfl; rfl; apply w_mvb; rfl; refine w_gdF rfl (by omega) ?_; apply w_gT; rfl; apply w_mvs; rfl; apply w_gT; rfl; apply w_mvi; rfl; apply w_gT; rfl; refine w_idxR (sz := 6) (R := RSt) (by rfl) (by assumption) (by rfl) rfl (by omega) ?_; rintro _ _ _ _ _ ⟨rfl, _, _, _, _⟩; apply w_gT; rfl; apply w_fld; rfl; apply w_gT; rfl; apply w_ld; rfl; exact hc_ds (by assumption) rfl; apply w_gT; rfl; apply w_gtr; rfl; rfl; apply w_pickFb; rfl; rfl; apply w_mvb; rfl; refine w_gdF rfl (by omega) ?_; apply w_gT; rfl; apply w_mvs; rfl; apply w_gT; rfl; apply w_mvi; rfl; apply w_gT; rfl; refine w_idxR (sz := 6) (R := RSt) (by rfl) (by assumption) (by rfl) rfl (by omega) ?_; rintro _ _ _ _ _ ⟨rfl, _, _, _, _⟩; apply w_gT; rfl; apply w_fld; rfl; apply w_gT; rfl; apply w_ld; rfl; exact hc_ds (by assumption) rfl; apply w_gT; rfl; apply w_eql; rfl; rfl; apply w_gT; rfl; apply w_mvb; rfl; refine w_gdT rfl (by omega) ?_; apply w_gT; rfl; apply w_mvs; rfl; apply w_gT; rfl; apply w_mvi; rfl; apply w_gT; rfl; refine w_idxR (sz := 6) (R := RSt) (by rfl) (by assumption) (by rfl) rfl (by omega) ?_; rintro _ _ _ _ _ ⟨rfl, _, _, _, _⟩; apply w_gT; rfl; apply w_fld; rfl; apply w_gT; rfl; apply w_ld; rfl; exact hc_ds (by assumption) rfl; apply w_gT; rfl)
      refine w_pure rfl (h1 ht hlen) ?_
      cases hu : u8 l[i].text with
      | true =>
        (apply w_gT; rfl; apply w_not; rfl; apply w_gT; rfl; apply w_pickTb; rfl; rfl; apply w_pickFb; rfl; rfl; apply w_done0; apply w_ifF; rfl; apply w_skip; apply w_reg; apply w_mvi; rfl; apply w_add; rfl; rfl; omega; omega; apply w_mvi; rfl; apply w_done0)
        exact ⟨i + 1, by omega, ⟨rfl, int_eq (by omega), trivial⟩, rfl, rfl, hc, hnext (by simp only [stepB, hk, hu]; simp)⟩
      | false =>
        (apply w_gT; rfl; apply w_not; rfl; apply w_gT; rfl; apply w_pickTb; rfl; rfl; apply w_pickFb; rfl; rfl; apply w_done0; apply w_ifT; rfl; apply w_sq; apply w_reg; apply w_mvi; rfl; apply w_done0; apply w_ret)
        apply finQi; rfl
        exact hfail (by simp only [stepB, hk, hu]; simp [q3])
    · (apply w_sq; apply w_sq; apply w_reg; apply w_mvi; rfl; apply w_mvs; rfl; apply w_len; rfl; apply w_lss; rfl; rfl; apply w_done0; refine w_ifdT rfl (by omega) ?_; apply w_skip; apply w_sq; apply w_block; apply w_sq; apply w_reg; apply w_mvs; rfl; apply w_mvi; rfl; refine w_idxR (sz := 6) (R := RSt) (by rfl) (by assumption) (by rfl) rfl (by omega) ?_; rintro _ _ _ _ _ ⟨rfl, _, _, _, _⟩; apply w_fld; rfl; apply w_ld; rfl; exact hc_ds (by assumption) rfl; apply w_lss; rfl; rfl; apply w_mvb; rfl; refine w_gdF rfl (by omega) ?_; apply w_gT; rfl; apply w_mvs; rfl; apply w_gT; rfl; apply w_mvi; rfl; apply w_gT; rfl; refine w_idxR (sz := 6) (R := RSt) (by rfl) (by assumption) (by rfl) rfl (by omega) ?_; rintro _ _ _ _ _ ⟨rfl, _, _, _, _⟩; apply w_gT; rfl; apply w_fld; rfl; apply w_gT; rfl; apply w_ld; rfl; exact hc_ds (by assumption) rfl; apply w_gT; rfl; apply w_gtr; rfl; rfl; apply w_pickFb; rfl; rfl; apply w_mvb; rfl; refine w_gdF rfl (by omega) ?_; apply w_gT; rfl; apply w_mvs; rfl; apply w_gT; rfl; apply w_mvi; rfl; apply w_gT; rfl; refine w_idxR (sz := 6) (R := RSt) (by rfl) (by assumption) (by rfl) rfl (by omega) ?_; rintro _ _ _ _ _ ⟨rfl, _, _, _, _⟩; apply w_gT; rfl; apply w_fld; rfl; apply w_gT; rfl; apply w_ld; rfl; exact hc_ds (by assumption) rfl; apply w_gT; rfl; apply w_eql; rfl; rfl; apply w_gT; rfl; apply w_mvb; rfl; refine w_gdF rfl (by omega) ?_; apply w_gF; rfl; apply w_gF; rfl; apply w_gF; rfl; apply w_gF; rfl; apply w_gF; rfl; apply w_gF; rfl; apply w_gF; rfl; apply w_gT; rfl; apply w_pickFb; rfl; rfl; apply w_pickFb; rfl; rfl; apply w_done0; apply w_ifF; rfl; apply w_skip; apply w_reg; apply w_mvi; rfl; apply w_add; rfl; rfl; omega; omega; apply w_mvi; rfl; apply w_done0)
      exact ⟨i + 1, by omega, ⟨rfl, int_eq (by omega), trivial⟩, rfl, rfl, hc, hnext (by simp only [stepB, hk]; simp [q3])⟩
  · obtain rfl : i = l.length := by omega
    rw [List.take_length] at hall
    (apply w_sq; apply w_sq; apply w_reg; apply w_mvi; rfl; apply w_mvs; rfl; apply w_len; rfl; apply w_lss; rfl; rfl; apply w_done0; refine w_ifdF rfl (by omega) ?_; apply w_exit; apply w_sq; apply w_reg; apply w_mvi; rfl; apply w_done0; apply w_ret)
    apply finQi; rfl
    rw [if_pos hall]
def wrongF (v : V) (l : List St) : Int := if rightV v ≠ 0 then rightV v else if l.all stepB = true then 0 else 2
def WrongOk (T : PHeap → Prop) (P : Program) (f : FuncId) : Prop := ∀ {d : PHeap} {cs : List Value} {w : Value} {v : V} {l : List St}, T d → RVal d cs v → RSl 6 RSt d w l → GPure P f [.agg cs.toArray, w] d (.int .i64 (wrongF v l))
def g_steps_wrong (f_value_Right f_quote_Right : Nat) : GFun :=
 ⟨39, [(.tmp 4)],
 (.seq
 (.reg false (.op false ⟨(some 2), none, (.box (.tmp 0))⟩
  (.op false ⟨(some 4), none, (.mv (.const (.int .i64 0)))⟩ .done)))
 (.seq (.seq
 (.reg false (.op false ⟨(some 8), none, (.ld (some 6) (.tmp 2))⟩
  (.op false ⟨(some 9), none, (.call f_value_Right [(.tmp 8)])⟩
  (.op false ⟨(some 5), none, (.mv (.tmp 9))⟩ .done))))
 (.seq
 (.reg false (.op false ⟨(some 10), none, (.mv (.tmp 5))⟩
  (.op false ⟨(some 11), none, (.bin .neq (.tmp 10) (.const (.int .i64 0)))⟩ .done))) (.cond (.tmp 11)
 (.seq
 (.reg false (.op false ⟨(some 12), none, (.mv (.tmp 5))⟩
  (.op false ⟨(some 4), none, (.mv (.tmp 12))⟩ .done))) .ret) .skip)))
 (.seq (.seq
 (.reg false (.op false ⟨(some 13), none, (.mv (.tmp 1))⟩
  (.op false ⟨(some 14), none, (.len (.tmp 13))⟩
  (.op false ⟨(some 15), none, (.mv (.const (.int .i64 0)))⟩ .done)))) (.block 0 (.loop
 (.seq
 (.reg false (.op false ⟨(some 16), none, (.bin .lss (.tmp 15) (.tmp 14))⟩ .done))
 (.seq (.cond (.tmp 16) .skip (.exit 0))
 (.seq (.block 1
 (.seq
 (.reg false (.op false ⟨(some 17), none, (.idx 6 (.tmp 13) (.tmp 15))⟩
  (.op false ⟨(some 18), none, (.ld (some 6) (.tmp 17))⟩
  (.op false ⟨(some 7), none, (.alo (.agg #[(.int .i64 0), (strV []), (.int .i64 0), (.int .i64 0), (.bool false), (.bool false)]))⟩
  (.op false ⟨none, none, (.st 6 (.tmp 7) (.tmp 18))⟩ .done)))))
 (.seq
 (.reg false (.op false ⟨(some 19), none, (.fld 0 (.tmp 7))⟩
  (.op false ⟨(some 20), none, (.ld none (.tmp 19))⟩
  (.op false ⟨(some 21), none, (.bin .lss (.tmp 20) (.const (.int .i64 0)))⟩
  (.op false ⟨(some 22), none, (.mv (.tmp 21))⟩
  (.op false ⟨(some 23), (some (22, false)), (.fld 0 (.tmp 7))⟩
  (.op false ⟨(some 24), (some (22, false)), (.ld none (.tmp 23))⟩
  (.op false ⟨(some 25), (some (22, false)), (.bin .gtr (.tmp 24) (.const (.int .i64 2)))⟩
  (.op false ⟨(some 26), none, (.pick (.tmp 22) (.const (.bool true)) (.tmp 25))⟩
  (.op false ⟨(some 27), none, (.mv (.tmp 26))⟩
  (.op false ⟨(some 28), (some (27, false)), (.fld 0 (.tmp 7))⟩
  (.op false ⟨(some 29), (some (27, false)), (.ld none (.tmp 28))⟩
  (.op false ⟨(some 30), (some (27, false)), (.bin .eql (.tmp 29) (.const (.int .i64 0)))⟩
  (.op false ⟨(some 31), (some (27, false)), (.mv (.tmp 30))⟩
  (.op false ⟨(some 32), (some (31, true)), (.fld 1 (.tmp 7))⟩
  (.op false ⟨(some 33), (some (31, true)), (.ld none (.tmp 32))⟩
  (.op false ⟨(some 34), (some (31, true)), (.call f_quote_Right [(.tmp 33)])⟩
  (.op false ⟨(some 35), (some (31, true)), (.un .not (.tmp 34))⟩
  (.op false ⟨(some 36), (some (27, false)), (.pick (.tmp 31) (.tmp 35) (.const (.bool false)))⟩
  (.op false ⟨(some 37), none, (.pick (.tmp 27) (.const (.bool true)) (.tmp 36))⟩ .done)))))))))))))))))))) (.cond (.tmp 37)
 (.seq
 (.reg false (.op false ⟨(some 4), none, (.mv (.const (.int .i64 2)))⟩ .done)) .ret) .skip))))
 (.reg false (.op false ⟨(some 38), none, (.bin .add (.tmp 15) (.const (.int .i64 1)))⟩
  (.op false ⟨(some 15), none, (.mv (.tmp 38))⟩ .done)))))))))
 (.seq
 (.reg false (.op false ⟨(some 4), none, (.mv (.const (.int .i64 0)))⟩ .done)) .ret))))⟩

theorem wrong_ok {T : PHeap → Prop} {P : Program} {f f1 f2 : FuncId} (hd : dec P f = some (g_steps_wrong f1 f2)) (h1 : RightOk T P f1) (h2 : QuoteOk T P f2) : WrongOk T P f := by
  intro d cs w v l ht hv hw
  have n1 := RSl.len_le hw
  obtain ⟨a, c, rfl⟩ := RSl.val hw
  have hw' := hw
  refine GPure.of' hd (Nat.le_of_ble_eq_true rfl) ?_
  have hv0 := hv
  obtain ⟨lv, kv, rfl, ik, im, ie, it, hl, hks⟩ := hv.open
  show gwp P _ _ _ _ _
  apply w_sq; apply w_reg
  refine w_boxa (l := [.int .i64 v.kind, .int .i64 v.m, .int .i64 v.e, strV v.text, lv, kv]) rfl (fun b2 T2 => ?_)
  (apply w_mvi; rfl; apply w_done0; apply w_sq; apply w_sq; apply w_reg; apply w_ldb 0; rfl; rfl; rfl)
  refine w_pure rfl (h1 ht hv0) ?_
  by_cases h0 : rightV v ≠ 0
  · (apply w_mvi; rfl; apply w_done0; apply w_sq; apply w_reg; apply w_mvi; rfl; apply w_neq; rfl; rfl; apply w_done0; refine w_ifdT rfl (by omega) ?_; apply w_sq; apply w_reg; apply w_mvi; rfl; apply w_mvi; rfl; apply w_done0; apply w_ret)
    apply finQi; rfl
    rw [wrongF, if_pos h0]
  rw [wrongF, if_neg h0]
  (apply w_mvi; rfl; apply w_done0; apply w_sq; apply w_reg; apply w_mvi; rfl; apply w_neq; rfl; rfl; apply w_done0; refine w_ifdF rfl (by omega) ?_; apply w_skip; apply w_sq; apply w_sq; apply w_reg; apply w_mvs; rfl; apply w_len; rfl; apply w_mvi; rfl; apply w_done0; apply w_block)
  refine w_loopS (α := Nat) (fun i => [(13, .slice a l.length c), (14, .int .i64 l.length), (15, .int .i64 i)]) (fun i d' L' => d' = d ∧ i ≤ l.length ∧ (l.take i).all stepB = true) (fun i => l.length - i) 0 ⟨rfl, rfl, rfl, trivial⟩ ⟨rfl, Nat.zero_le _, by simp⟩ ?_
  rintro i ρ d' L' ⟨hdd, hi, hall⟩
  subst hdd
  by_cases hc : i < l.length
  · have hnext : stepB l[i] = true → (l.take (i + 1)).all stepB = true := fun h => by rw [List.take_succ_eq_append_getElem hc, List.all_append, hall]; simp [h]
    have hfail : stepB l[i] = false → (2 : Int) = if l.all stepB = true then 0 else 2 := fun h => by rw [if_neg (by rw [all_false hc h]; simp)]
    (apply w_sq; apply w_reg; apply w_lss; rfl; rfl; apply w_done0; apply w_sq; refine w_ifdT rfl (by omega) ?_; apply w_skip; apply w_sq; apply w_block; apply w_sq; apply w_reg; refine w_idxR (sz := 6) (R := RSt) (by rfl) (by assumption) (by rfl) rfl (by omega) ?_; rintro _ _ _ _ _ ⟨rfl, _, _, _, _⟩; apply w_ldd; rfl; assumption; rfl; apply w_alo; intro _ _)
    rename_i hcs hD ik' hlen is id b7 T7
    refine w_stE 0 [.int .i64 l[i].kind, strV l[i].text, .int .i64 l[i].src, .int .i64 l[i].dst, .bool l[i].hf, .bool l[i].ht] rfl rfl rfl rfl (Nat.le_of_ble_eq_true rfl) rfl rfl ?_
    by_cases q1 : l[i].kind < 0
    · (apply w_done0; apply w_sq; apply w_reg; apply w_fld; rfl; apply w_ld; rfl; exact hc_i 0 rfl rfl; apply w_lss; rfl; rfl; apply w_mvb; rfl; refine w_gdT rfl (by omega) ?_; apply w_gF; rfl; apply w_gF; rfl; apply w_gF; rfl; apply w_pickTb; rfl; rfl; apply w_mvb; rfl; apply w_gF; rfl; apply w_gF; rfl; apply w_gF; rfl; apply w_gF; rfl; apply w_gU; rfl; apply w_gU; rfl; apply w_gU; rfl; apply w_gU; rfl; apply w_gF; rfl; apply w_pickTb; rfl; rfl; apply w_done0; apply w_ifT; rfl; apply w_sq; apply w_reg; apply w_mvi; rfl; apply w_done0; apply w_ret)
      apply finQi; rfl
      exact hfail (by simp only [stepB]; rw [decide_eq_false (by omega)]; rfl)
    by_cases q2 : l[i].kind > 2
    · (apply w_done0; apply w_sq; apply w_reg; apply w_fld; rfl; apply w_ld; rfl; exact hc_i 0 rfl rfl; apply w_lss; rfl; rfl; apply w_mvb; rfl; refine w_gdF rfl (by omega) ?_; apply w_gT; rfl; apply w_fld; rfl; apply w_gT; rfl; apply w_ld; rfl; exact hc_i 0 rfl rfl; apply w_gT; rfl; apply w_gtr; rfl; rfl; apply w_pickFb; rfl; rfl; apply w_mvb; rfl; refine w_gdT rfl (by omega) ?_; apply w_gF; rfl; apply w_gF; rfl; apply w_gF; rfl; apply w_gF; rfl; apply w_gU; rfl; apply w_gU; rfl; apply w_gU; rfl; apply w_gU; rfl; apply w_gF; rfl; apply w_pickTb; rfl; rfl; apply w_done0; apply w_ifT; rfl; apply w_sq; apply w_reg; apply w_mvi; rfl; apply w_done0; apply w_ret)
      apply finQi; rfl
      exact hfail (by simp only [stepB]; rw [decide_eq_false (by omega)]; rfl)
    have hk : decide (0 ≤ l[i].kind ∧ l[i].kind ≤ 2) = true := decide_eq_true (by omega)
    by_cases q3 : l[i].kind = 0
    · (apply w_done0; apply w_sq; apply w_reg; apply w_fld; rfl; apply w_ld; rfl; exact hc_i 0 rfl rfl; apply w_lss; rfl; rfl; apply w_mvb; rfl; refine w_gdF rfl (by omega) ?_; apply w_gT; rfl; apply w_fld; rfl; apply w_gT; rfl; apply w_ld; rfl; exact hc_i 0 rfl rfl; apply w_gT; rfl; apply w_gtr; rfl; rfl; apply w_pickFb; rfl; rfl; apply w_mvb; rfl; refine w_gdF rfl (by omega) ?_; apply w_gT; rfl; apply w_fld; rfl; apply w_gT; rfl; apply w_ld; rfl; exact hc_i 0 rfl rfl; apply w_gT; rfl; apply w_eql; rfl; rfl; apply w_gT; rfl; apply w_mvb; rfl; refine w_gdT rfl (by omega) ?_; apply w_gT; rfl; apply w_fld; rfl; apply w_gT; rfl; apply w_ld; rfl; exact hc_i 0 rfl rfl; apply w_gT; rfl)
      refine w_pure rfl (h2 ht hlen) ?_
      cases hu : u8 l[i].text with
      | true =>
        (apply w_gT; rfl; apply w_not; rfl; apply w_gT; rfl; apply w_pickTb; rfl; rfl; apply w_pickFb; rfl; rfl; apply w_done0; apply w_ifF; rfl; apply w_skip; apply w_reg; apply w_add; rfl; rfl; omega; omega; apply w_mvi; rfl; apply w_done0)
        exact ⟨i + 1, by omega, ⟨rfl, rfl, int_eq (by omega), trivial⟩, rfl, hc, hnext (by simp only [stepB, hk, hu]; simp)⟩
      | false =>
        (apply w_gT; rfl; apply w_not; rfl; apply w_gT; rfl; apply w_pickTb; rfl; rfl; apply w_pickFb; rfl; rfl; apply w_done0; apply w_ifT; rfl; apply w_sq; apply w_reg; apply w_mvi; rfl; apply w_done0; apply w_ret)
        apply finQi; rfl
        exact hfail (by simp only [stepB, hk, hu]; simp [q3])
    · (apply w_done0; apply w_sq; apply w_reg; apply w_fld; rfl; apply w_ld; rfl; exact hc_i 0 rfl rfl; apply w_lss; rfl; rfl; apply w_mvb; rfl; refine w_gdF rfl (by omega) ?_; apply w_gT; rfl; apply w_fld; rfl; apply w_gT; rfl; apply w_ld; rfl; exact hc_i 0 rfl rfl; apply w_gT; rfl; apply w_gtr; rfl; rfl; apply w_pickFb; rfl; rfl; apply w_mvb; rfl; refine w_gdF rfl (by omega) ?_; apply w_gT; rfl; apply w_fld; rfl; apply w_gT; rfl; apply w_ld; rfl; exact hc_i 0 rfl rfl; apply w_gT; rfl; apply w_eql; rfl; rfl; apply w_gT; rfl; apply w_mvb; rfl; refine w_gdF rfl (by omega) ?_; apply w_gF; rfl; apply w_gF; rfl; apply w_gF; rfl; apply w_gF; rfl; apply w_gT; rfl; apply w_pickFb; rfl; rfl; apply w_pickFb; rfl; rfl; apply w_done0; apply w_ifF; rfl; apply w_skip; apply w_reg; apply w_add; rfl; rfl; omega; omega; apply w_mvi; rfl; apply w_done0)
      exact ⟨i + 1, by omega, ⟨rfl, rfl, int_eq (by omega), trivial⟩, rfl, hc, hnext (by simp only [stepB, hk]; simp [q3])⟩
  · obtain rfl : i = l.length := by omega
    rw [List.take_length] at hall
    (apply w_sq; apply w_reg; apply w_lss; rfl; rfl; apply w_done0; apply w_sq; refine w_ifdF rfl (by omega) ?_; apply w_exit; apply w_sq; apply w_reg; apply w_mvi; rfl; apply w_done0; apply w_ret)
    apply finQi; rfl
    rw [if_pos hall]

/-! ### the walk of a way -/
def walkF : V → List St → V × Int
  | v, [] => (v, 0)
  | v, s :: l => if (intoF v s).2 ≠ 0 then (V.zero, (intoF v s).2) else walkF (intoF v s).1 l
def getF (v : V) (l : List St) : V × Int := if wrongF v l ≠ 0 then (V.zero, wrongF v l) else walkF v l
/-- It may be, and is not great. -/
def Gd (v : V) : Prop := mayV v = true ∧ txtV v ≤ 1000000000
theorem txt_pos (v : V) : 1 ≤ txtV v := by have := txtV_eq v; omega
theorem gd_zero : Gd V.zero := ⟨by decide, by decide⟩
theorem txts_drop : ∀ (l : List V) (n : Nat), txts (l.drop n) ≤ txts l
  | l, 0 => by simp
  | [], n + 1 => by simp
  | x :: l, n + 1 => by have := txts_drop l n; simp only [List.drop_succ_cons, txts]; omega
theorem txts_take : ∀ (l : List V) (n : Nat), txts (l.take n) ≤ txts l
  | l, 0 => by simp [txts]
  | [], n + 1 => by simp
  | x :: l, n + 1 => by have := txts_take l n; simp only [List.take_succ_cons, txts]; omega
theorem gd_mem {v x : V} (h : Gd v) (hx : x ∈ v.list) : Gd x := by
  obtain ⟨h1, h2⟩ := h
  rw [mayV_eq, Bool.and_eq_true, List.all_eq_true] at h1
  have h3 := txtV_eq v
  have h4 := txts_mem hx
  exact ⟨h1.2 x hx, by omega⟩
theorem gd_getD {v : V} (h : Gd v) (i : Nat) : Gd (v.list.getD i V.zero) := by
  by_cases hi : i < v.list.length
  · rw [show v.list.getD i V.zero = v.list[i] by simp [hi]]; exact gd_mem h (List.getElem_mem hi)
  · rw [show v.list.getD i V.zero = V.zero by simp [hi]]; exact gd_zero
theorem gd_one {v : V} (h : Gd v) : oneB v = true := by have := h.1; rw [mayV_eq, Bool.and_eq_true] at this; exact this.1
theorem gd_text {v : V} (h : Gd v) : v.text.length ≤ 1000000000 := by have := txtV_eq v; have := h.2; omega
theorem into_gd {v : V} (h : Gd v) (s : St) : Gd (intoF v s).1 := by
  have h3 := txtV_eq v
  unfold intoF
  split
  · exact gd_zero
  split
  · simp only
    split
    · exact gd_getD h _
    · exact gd_zero
  split
  · simp only [nthV]
    split
    · exact gd_getD h _
    · exact gd_zero
  split
  · refine ⟨?_, ?_⟩
    · rw [mayV_eq, Bool.and_eq_true, List.all_eq_true]
      refine ⟨by simp [oneB, bareB, V.kind, V.m, V.e, V.text, V.list, V.keys, numRight, u8, Lib.validD_nil, rising, riseN], fun x hx => ?_⟩
      exact (gd_mem h (List.mem_of_mem_drop (List.mem_of_mem_take hx))).1
    · rw [txtV_eq]
      have h5 := txts_take (v.list.drop (endsF s v.list.length).1.toNat) ((endsF s v.list.length).2.toNat - (endsF s v.list.length).1.toNat)
      have h6 := txts_drop v.list (endsF s v.list.length).1.toNat
      have h7 := h.2
      show 1 + 0 + 0 + txts (midL v.list (endsF s v.list.length)) ≤ 1000000000
      simp only [midL]
      omega
  split
  · refine ⟨?_, ?_⟩
    · rw [mayV_eq, Bool.and_eq_true, List.all_eq_true]
      refine ⟨?_, fun x hx => by cases hx⟩
      have := part_valid (one_u8 (gd_one h)) (endsF s (chs v.text).length).1.toNat ((endsF s (chs v.text).length).2.toNat - (endsF s (chs v.text).length).1.toNat)
      simp [oneB, bareB, V.kind, V.m, V.e, V.text, V.list, V.keys, numRight, u8, midL, this, rising, riseN]
    · rw [txtV_eq]
      have h5 := part_len (l := v.text) (endsF s (chs v.text).length).1.toNat ((endsF s (chs v.text).length).2.toNat - (endsF s (chs v.text).length).1.toNat)
      have h7 := h.2
      show 1 + (midL (chs v.text) (endsF s (chs v.text).length)).flatten.length + 0 + 0 ≤ 1000000000
      simp only [midL]
      omega
  · exact gd_zero
theorem right_gd {v : V} (h : rightV v = 0) (hb : txtV v ≤ 1000000000) : Gd v := by
  unfold rightV at h
  split at h
  · split at h
    · exact ⟨by assumption, hb⟩
    · cases h
  · cases h
theorem wrong_right {v : V} {l : List St} (h : wrongF v l = 0) : rightV v = 0 := by
  unfold wrongF at h
  split at h
  · exact h
  · rename_i h2; simpa using h2

section
variable {ρ : Env} {d : PHeap} {L : List PHeap}
theorem finOE {b t u : Nat} {T : TypeId} {cs : List Value} {w : V} {e : Int} {h : PHeap} (i : Nat) (e4 : ρ t = .pointer (some ⟨b, 0, none⟩)) (hi : L[i]? = some (bx b T cs)) (e5 : ρ u = .int .i64 e) (hw : OVal cs w h) (hs : Vs d L d [h]) :
    retPost [.cell t (some 6), .tmp u] (Ret fun r _ L' => ∃ cs' h, r = .tuple #[.agg cs'.toArray, .int .i64 e] ∧ L' = [h] ∧ OVal cs' w h) ρ d L :=
  finV (L' := [h]) [.agg cs.toArray, .int .i64 e] ⟨res_cell i e4 hi hw.cells.1, res_tmp e5, trivial⟩ hs ⟨cs, h, rfl, rfl, hw⟩
theorem vs_zero : Vs d L d [joinL [emp, emp]] :=
  (Vs.emp.trans (Vs.emp.trans (Vs.packL (L := [emp, emp]) (L0 := L)))).trans (Vs.drop ((List.nil_sublist _).cons_cons _))
end
def GetOk (T : PHeap → Prop) (P : Program) (f : FuncId) : Prop := ∀ {d : PHeap} {cs : List Value} {w : Value} {v : V} {l : List St}, T d → RVal d cs v → RSl 6 RSt d w l → txtV v ≤ 1000000000 →
  GCall P f [.agg cs.toArray, w] d [] (Ret fun r d' L' => d' = d ∧ ∃ cs' h, r = .tuple #[.agg cs'.toArray, .int .i64 (getF v l).2] ∧ L' = [h] ∧ OVal cs' (getF v l).1 h)
def g_steps_Get (f_steps_wrong f_steps_into f_value_Copy : Nat) : GFun :=
 ⟨38, [(.cell 4 (some 6)), (.tmp 5)],
 (.seq
 (.reg false (.op false ⟨(some 2), none, (.box (.tmp 0))⟩
  (.op false ⟨(some 4), none, (.alo (.agg #[(.int .i64 0), (.int .i64 0), (.int .i64 0), (strV []), (.slice none 0 0), (.slice none 0 0)]))⟩
  (.op false ⟨(some 5), none, (.mv (.const (.int .i64 0)))⟩ .done))))
 (.seq (.seq
 (.reg false (.op false ⟨(some 11), none, (.ld (some 6) (.tmp 2))⟩
  (.op false ⟨(some 12), none, (.mv (.tmp 1))⟩
  (.op false ⟨(some 13), none, (.call f_steps_wrong [(.tmp 11), (.tmp 12)])⟩
  (.op false ⟨(some 6), none, (.mv (.tmp 13))⟩ .done)))))
 (.seq
 (.reg false (.op false ⟨(some 14), none, (.mv (.tmp 6))⟩
  (.op false ⟨(some 15), none, (.bin .neq (.tmp 14) (.const (.int .i64 0)))⟩ .done))) (.cond (.tmp 15)
 (.seq
 (.reg false (.op false ⟨(some 16), none, (.bld [(0, 1), (1, 2), (3, 1), (4, 1), (5, 1)] [(.int .i64 0), (.int .i64 0), (.int .i64 0), (strV []), (.slice none 0 0), (.slice none 0 0)] [])⟩
  (.op false ⟨(some 17), none, (.mv (.tmp 6))⟩
  (.op false ⟨none, none, (.st 6 (.tmp 4) (.tmp 16))⟩
  (.op false ⟨(some 5), none, (.mv (.tmp 17))⟩ .done))))) .ret) .skip)))
 (.seq (.seq
 (.reg false (.op false ⟨(some 18), none, (.mv (.tmp 1))⟩
  (.op false ⟨(some 19), none, (.len (.tmp 18))⟩
  (.op false ⟨(some 20), none, (.mv (.const (.int .i64 0)))⟩ .done)))) (.block 0 (.loop
 (.seq
 (.reg false (.op false ⟨(some 21), none, (.bin .lss (.tmp 20) (.tmp 19))⟩ .done))
 (.seq (.cond (.tmp 21) .skip (.exit 0))
 (.seq (.block 1
 (.seq
 (.reg false (.op false ⟨(some 22), none, (.idx 6 (.tmp 18) (.tmp 20))⟩
  (.op false ⟨(some 23), none, (.ld (some 6) (.tmp 22))⟩
  (.op false ⟨(some 8), none, (.alo (.agg #[(.int .i64 0), (strV []), (.int .i64 0), (.int .i64 0), (.bool false), (.bool false)]))⟩
  (.op false ⟨none, none, (.st 6 (.tmp 8) (.tmp 23))⟩ .done)))))
 (.seq
 (.reg false (.op false ⟨(some 25), none, (.ld (some 6) (.tmp 2))⟩
  (.op false ⟨(some 26), none, (.ld (some 6) (.tmp 8))⟩
  (.op false ⟨(some 27), none, (.call f_steps_into [(.tmp 25), (.tmp 26)])⟩
  (.op false ⟨(some 24), none, (.mv (.tmp 27))⟩
  (.op false ⟨(some 28), none, (.ext (.tmp 24) 0)⟩
  (.op false ⟨(some 29), none, (.ext (.tmp 24) 1)⟩
  (.op false ⟨(some 9), none, (.alo (.agg #[(.int .i64 0), (.int .i64 0), (.int .i64 0), (strV []), (.slice none 0 0), (.slice none 0 0)]))⟩
  (.op false ⟨none, none, (.st 6 (.tmp 9) (.tmp 28))⟩
  (.op false ⟨(some 10), none, (.mv (.tmp 29))⟩ .done))))))))))
 (.seq (.seq
 (.reg false (.op false ⟨(some 30), none, (.mv (.tmp 10))⟩
  (.op false ⟨(some 31), none, (.bin .neq (.tmp 30) (.const (.int .i64 0)))⟩ .done))) (.cond (.tmp 31)
 (.seq
 (.reg false (.op false ⟨(some 32), none, (.bld [(0, 1), (1, 2), (3, 1), (4, 1), (5, 1)] [(.int .i64 0), (.int .i64 0), (.int .i64 0), (strV []), (.slice none 0 0), (.slice none 0 0)] [])⟩
  (.op false ⟨(some 33), none, (.mv (.tmp 10))⟩
  (.op false ⟨none, none, (.st 6 (.tmp 4) (.tmp 32))⟩
  (.op false ⟨(some 5), none, (.mv (.tmp 33))⟩ .done))))) .ret) .skip))
 (.reg false (.op false ⟨(some 34), none, (.ld (some 6) (.tmp 9))⟩
  (.op false ⟨none, none, (.st 6 (.tmp 2) (.tmp 34))⟩ .done)))))))
 (.reg false (.op false ⟨(some 35), none, (.bin .add (.tmp 20) (.const (.int .i64 1)))⟩
  (.op false ⟨(some 20), none, (.mv (.tmp 35))⟩ .done)))))))))
 (.seq
 (.reg false (.op false ⟨(some 36), none, (.ld (some 6) (.tmp 2))⟩
  (.op false ⟨(some 37), none, (.call f_value_Copy [(.tmp 36)])⟩
  (.op false ⟨none, none, (.st 6 (.tmp 4) (.tmp 37))⟩
  (.op false ⟨(some 5), none, (.mv (.const (.int .i64 0)))⟩ .done))))) .ret))))⟩

set_option maxHeartbeats 1000000 in
theorem get_ok {T : PHeap → Prop} {P : Program} {f f1 f2 f3 : FuncId} (hd : dec P f = some (g_steps_Get f1 f2 f3)) (h1 : WrongOk T P f1) (h2 : IntoOk P f2) (h3 : VCopyOk P f3) : GetOk T P f := by
  intro d cs w v l ht hv hw hb
  have n1 := RSl.len_le hw
  obtain ⟨a, c, rfl⟩ := RSl.val hw
  have hw' := hw
  refine GCall.forget (Q := fun r L' => ∃ cs' h, r = .tuple #[.agg cs'.toArray, .int .i64 (getF v l).2] ∧ L' = [h] ∧ OVal cs' (getF v l).1 h) ?_
  refine GCall_of hd (Nat.le_of_ble_eq_true rfl) ?_
  have hv0 := hv
  obtain ⟨lv, kv, rfl, ik, im, ie, it, hl, hks⟩ := hv.open
  show gwp P _ _ _ _ _
  apply w_sq; apply w_reg
  refine w_boxa (l := [.int .i64 v.kind, .int .i64 v.m, .int .i64 v.e, strV v.text, lv, kv]) rfl (fun b2 T2 => ?_)
  (apply w_alo; intro _ _; apply w_mvi; rfl; apply w_done0; apply w_sq; apply w_sq; apply w_reg; apply w_ldb 1; rfl; rfl; rfl; apply w_mvs; rfl)
  rename_i b4 T4
  refine w_pure rfl (h1 ht hv0 hw) ?_
  by_cases h0 : wrongF v l ≠ 0
  · rw [getF, if_pos h0]
    (apply w_mvi; rfl; apply w_done0; apply w_sq; apply w_reg; apply w_mvi; rfl; apply w_neq; rfl; rfl; apply w_done0; refine w_ifdT rfl (by omega) ?_; apply w_sq; apply w_reg; apply w_bvZ; apply w_mvi; rfl)
    refine w_stE 0 [.int .i64 0, .int .i64 0, .int .i64 0, strV [], .slice none 0 0, .slice none 0 0] rfl rfl rfl rfl (Nat.le_of_ble_eq_true rfl) rfl rfl ?_
    (apply w_mvi; rfl; apply w_done0; apply w_ret)
    exact finOE 0 rfl rfl rfl OVal.zero vs_zero
  rw [getF, if_neg h0]
  have h0' : wrongF v l = 0 := by omega
  have hgd := right_gd (wrong_right h0') hb
  (apply w_mvi; rfl; apply w_done0; apply w_sq; apply w_reg; apply w_mvi; rfl; apply w_neq; rfl; rfl; apply w_done0; refine w_ifdF rfl (by omega) ?_; apply w_skip; apply w_sq; apply w_sq; apply w_reg; apply w_mvs; rfl; apply w_len; rfl; apply w_mvi; rfl; apply w_done0; apply w_block)
  refine w_loopS (α := Nat) (fun i => [(2, .pointer (some ⟨b2, 0, none⟩)), (4, .pointer (some ⟨b4, 0, none⟩)), (18, .slice a l.length c), (19, .int .i64 l.length), (20, .int .i64 i)])
    (fun i d' L' => d' = d ∧ i ≤ l.length ∧ ∃ vi c0 c1 c2 c3 c4 c5, RVal d [c0, c1, c2, c3, c4, c5] vi ∧ Gd vi ∧ walkF vi (l.drop i) = walkF v l ∧ L' = [bx b4 T4 [.int .i64 0, .int .i64 0, .int .i64 0, strV [], .slice none 0 0, .slice none 0 0], bx b2 T2 [c0, c1, c2, c3, c4, c5]])
    (fun i => l.length - i) 0 ⟨rfl, rfl, rfl, rfl, rfl, trivial⟩ ⟨rfl, Nat.zero_le _, v, _, _, _, _, _, _, hv0, hgd, rfl, rfl⟩ ?_
  rintro i ρ d' L' ⟨hdd, hi, vi, c0, c1, c2, c3, c4, c5, hvi, hgi, hwk, hL⟩
  subst hdd; subst hL
  by_cases hc : i < l.length
  · rw [List.drop_eq_getElem_cons hc, walkF] at hwk
    (apply w_sq; apply w_reg; apply w_lss; rfl; rfl; apply w_done0; apply w_sq; refine w_ifdT rfl (by omega) ?_; apply w_skip; apply w_sq; apply w_block; apply w_sq; apply w_reg; refine w_idxR (sz := 6) (R := RSt) (by rfl) (by assumption) (by rfl) rfl (by omega) ?_; rintro _ _ _ _ _ ⟨rfl, _, _, _, _⟩; apply w_ldd; rfl; assumption; rfl; apply w_alo; intro _ _)
    rename_i hcs hD ik' hlen is id b8 T8
    refine w_stE 0 [.int .i64 l[i].kind, strV l[i].text, .int .i64 l[i].src, .int .i64 l[i].dst, .bool l[i].hf, .bool l[i].ht] rfl rfl rfl rfl (Nat.le_of_ble_eq_true rfl) rfl rfl ?_
    (apply w_done0; apply w_sq; apply w_reg; apply w_ldb 2; rfl; rfl; rfl; apply w_ldb 0; rfl; rfl; rfl)
    refine w_call0 rfl (h2 hvi (gd_one hgi) (gd_text hgi) ⟨rfl, ik', hlen, is, id⟩) (fun r d3 L3 _ ⟨hdd, hL, cs', hr, hR'⟩ => ?_)
    subst hdd; subst hL; subst hr
    obtain ⟨e0, e1, e2, e3, e4, e5, rfl⟩ := six hR'.len
    (apply w_mvu; rfl; apply w_ext; rfl; rfl; apply w_ext; rfl; rfl; apply w_alo; intro _ _)
    rename_i b9 T9
    refine w_stE 0 [e0, e1, e2, e3, e4, e5] rfl rfl rfl rfl (Nat.le_of_ble_eq_true rfl) (cell1_val _ _ _ hR') rfl ?_
    by_cases he : (intoF vi l[i]).2 ≠ 0
    · rw [if_pos he] at hwk
      rw [← hwk]
      (apply w_mvi; rfl; apply w_done0; apply w_sq; apply w_sq; apply w_reg; apply w_mvi; rfl; apply w_neq; rfl; rfl; apply w_done0; refine w_ifdT rfl (by omega) ?_; apply w_sq; apply w_reg; apply w_bvZ; apply w_mvi; rfl)
      refine w_stE 2 [.int .i64 0, .int .i64 0, .int .i64 0, strV [], .slice none 0 0, .slice none 0 0] rfl rfl rfl rfl (Nat.le_of_ble_eq_true rfl) rfl rfl ?_
      (apply w_mvi; rfl; apply w_done0; apply w_ret)
      exact finOE 2 rfl rfl rfl OVal.zero vs_zero
    · rw [if_neg he] at hwk
      (apply w_mvi; rfl; apply w_done0; apply w_sq; apply w_sq; apply w_reg; apply w_mvi; rfl; apply w_neq; rfl; rfl; apply w_done0; refine w_ifdF rfl (by omega) ?_; apply w_skip; apply w_reg; apply w_ldb 0; rfl; rfl; rfl)
      refine w_vs _ [bx b4 T4 [.int .i64 0, .int .i64 0, .int .i64 0, strV [], .slice none 0 0, .slice none 0 0], bx b2 T2 [c0, c1, c2, c3, c4, c5]] (Vs.drop (((List.Sublist.refl _).cons _).cons _)) ?_
      refine w_stE 1 [e0, e1, e2, e3, e4, e5] rfl rfl rfl rfl (Nat.le_of_ble_eq_true rfl) (cell1_val _ _ _ hR') rfl ?_
      (apply w_done0; apply w_reg; apply w_add; rfl; rfl; omega; omega; apply w_mvi; rfl; apply w_done0)
      exact ⟨i + 1, by omega, ⟨rfl, rfl, rfl, rfl, int_eq (by omega), trivial⟩, rfl, hc, _, _, _, _, _, _, _, hR', into_gd hgi _, hwk, rfl⟩
  · obtain rfl : i = l.length := by omega
    rw [List.drop_length, walkF] at hwk
    rw [← hwk]
    (apply w_sq; apply w_reg; apply w_lss; rfl; rfl; apply w_done0; apply w_sq; refine w_ifdF rfl (by omega) ?_; apply w_exit; apply w_sq; apply w_reg; apply w_ldb 1; rfl; rfl; rfl)
    refine w_call0 rfl (h3 vi hvi (by have := cnt_txt vi; have := hgi.2; omega)) (fun r d3 L3 _ ⟨hdd, cs', g, hr, hL, ho⟩ => ?_)
    subst hdd; subst hL; subst hr
    obtain ⟨e0, e1, e2, e3, e4, e5, rfl⟩ := six ho.cells.1
    refine w_stE 1 [e0, e1, e2, e3, e4, e5] rfl rfl rfl rfl (Nat.le_of_ble_eq_true rfl) ho.cells.2 rfl ?_
    (apply w_mvi; rfl; apply w_done0; apply w_ret)
    exact finOE 1 rfl rfl rfl ho (Vs.drop ((List.nil_sublist _).cons_cons _))
end Go.Gk.Val
end

section
/-
  Ways: the reference's end of one; a key that is set.
-/
namespace Go.Gk.Val
open Go Go.Gk Go.Gk.Utf
attribute [local irreducible] gwp gws

def RGetOk (T : PHeap → Prop) (P : Program) (f : FuncId) : Prop := ∀ {d : PHeap} {cs : List Value} {w : Value} {v : V} {l : List St}, T d → RVal d cs v → RSl 6 RSt d w l → txtV v ≤ 1000000000 →
  GCall P f [.agg cs.toArray, w] d [] (Ret fun r d' L' => d' = d ∧ L' = [] ∧ ∃ cs', r = .tuple #[.agg cs'.toArray, .int .i64 (getF v l).2] ∧ RVal d cs' (getF v l).1)
def g_thimbleref08_Get (f_thimbleref03_Right f_thimbleref08_Wrong f_thimbleref08_One : Nat) : GFun :=
 ⟨38, [(.cell 4 (some 6)), (.tmp 5)],
 (.seq
 (.reg false (.op false ⟨(some 2), none, (.box (.tmp 0))⟩
  (.op false ⟨(some 4), none, (.alo (.agg #[(.int .i64 0), (.int .i64 0), (.int .i64 0), (strV []), (.slice none 0 0), (.slice none 0 0)]))⟩
  (.op false ⟨(some 5), none, (.mv (.const (.int .i64 0)))⟩ .done))))
 (.seq
 (.reg false (.op false ⟨(some 8), none, (.ld (some 6) (.tmp 2))⟩
  (.op false ⟨(some 9), none, (.call f_thimbleref03_Right [(.tmp 8)])⟩
  (.op false ⟨(some 6), none, (.mv (.tmp 9))⟩ .done))))
 (.seq (.seq
 (.reg false (.op false ⟨(some 10), none, (.mv (.tmp 6))⟩
  (.op false ⟨(some 11), none, (.bin .eql (.tmp 10) (.const (.int .i64 0)))⟩ .done))) (.cond (.tmp 11)
 (.reg false (.op false ⟨(some 12), none, (.mv (.tmp 1))⟩
  (.op false ⟨(some 13), none, (.call f_thimbleref08_Wrong [(.tmp 12)])⟩
  (.op false ⟨(some 6), none, (.mv (.tmp 13))⟩ .done)))) .skip))
 (.seq (.seq
 (.reg false (.op false ⟨(some 7), none, (.mv (.const (.int .i64 0)))⟩ .done)) (.block 0 (.loop
 (.seq (.seq
 (.reg false (.op false ⟨(some 14), none, (.mv (.tmp 7))⟩
  (.op false ⟨(some 15), none, (.mv (.tmp 1))⟩
  (.op false ⟨(some 16), none, (.len (.tmp 15))⟩
  (.op false ⟨(some 17), none, (.bin .lss (.tmp 14) (.tmp 16))⟩
  (.op false ⟨(some 18), none, (.mv (.tmp 17))⟩
  (.op false ⟨(some 19), (some (18, true)), (.mv (.tmp 6))⟩
  (.op false ⟨(some 20), (some (18, true)), (.bin .eql (.tmp 19) (.const (.int .i64 0)))⟩
  (.op false ⟨(some 21), none, (.pick (.tmp 18) (.tmp 20) (.const (.bool false)))⟩ .done))))))))) (.cond (.tmp 21) .skip (.exit 0)))
 (.seq (.block 1
 (.reg true (.op true ⟨(some 26), none, (.mv (.tmp 1))⟩
  (.op true ⟨(some 27), none, (.mv (.tmp 7))⟩
  (.op true ⟨(some 28), none, (.idx 6 (.tmp 26) (.tmp 27))⟩
  (.op true ⟨(some 29), none, (.ld (some 6) (.tmp 28))⟩
  (.op false ⟨(some 25), none, (.ld (some 6) (.tmp 2))⟩
  (.op false ⟨(some 30), none, (.call f_thimbleref08_One [(.tmp 25), (.tmp 29)])⟩
  (.op true ⟨(some 24), none, (.mv (.tmp 30))⟩
  (.op true ⟨(some 31), none, (.ext (.tmp 24) 0)⟩
  (.op true ⟨(some 32), none, (.ext (.tmp 24) 1)⟩
  (.op false ⟨none, none, (.st 6 (.tmp 2) (.tmp 31))⟩
  (.op true ⟨(some 6), none, (.mv (.tmp 32))⟩ .done)))))))))))))
 (.reg false (.op false ⟨(some 22), none, (.mv (.tmp 7))⟩
  (.op false ⟨(some 23), none, (.bin .add (.tmp 22) (.const (.int .i64 1)))⟩
  (.op false ⟨(some 7), none, (.mv (.tmp 23))⟩ .done)))))))))
 (.seq (.seq
 (.reg false (.op false ⟨(some 33), none, (.mv (.tmp 6))⟩
  (.op false ⟨(some 34), none, (.bin .neq (.tmp 33) (.const (.int .i64 0)))⟩ .done))) (.cond (.tmp 34)
 (.seq
 (.reg false (.op false ⟨(some 35), none, (.bld [(0, 1), (1, 2), (3, 1), (4, 1), (5, 1)] [(.int .i64 0), (.int .i64 0), (.int .i64 0), (strV []), (.slice none 0 0), (.slice none 0 0)] [])⟩
  (.op false ⟨(some 36), none, (.mv (.tmp 6))⟩
  (.op false ⟨none, none, (.st 6 (.tmp 4) (.tmp 35))⟩
  (.op false ⟨(some 5), none, (.mv (.tmp 36))⟩ .done))))) .ret) .skip))
 (.seq
 (.reg false (.op false ⟨(some 37), none, (.ld (some 6) (.tmp 2))⟩
  (.op false ⟨none, none, (.st 6 (.tmp 4) (.tmp 37))⟩
  (.op false ⟨(some 5), none, (.mv (.const (.int .i64 0)))⟩ .done)))) .ret))))))⟩

set_option maxHeartbeats 1000000 in
theorem rget_ok {T : PHeap → Prop} {P : Program} {f f1 f2 f3 : FuncId} (hd : dec P f = some (g_thimbleref08_Get f1 f2 f3)) (h1 : RRightOk T P f1) (h2 : RWrongOk T P f2) (h3 : IntoOk P f3) : RGetOk T P f := by
  intro d cs w v l ht hv hw hb
  have n1 := RSl.len_le hw
  obtain ⟨a, c, rfl⟩ := RSl.val hw
  have hw' := hw
  refine GCall.forget (Q := fun r L' => L' = [] ∧ ∃ cs', r = .tuple #[.agg cs'.toArray, .int .i64 (getF v l).2] ∧ RVal d cs' (getF v l).1) ?_
  refine GCall_of hd (Nat.le_of_ble_eq_true rfl) ?_
  have hv0 := hv
  have hdep := depth_txt v
  obtain ⟨lv, kv, rfl, ik, im, ie, it, hl, hks⟩ := hv.open
  show gwp P _ _ _ _ _
  apply w_sq; apply w_reg
  refine w_boxa (l := [.int .i64 v.kind, .int .i64 v.m, .int .i64 v.e, strV v.text, lv, kv]) rfl (fun b2 T2 => ?_)
  (apply w_alo; intro _ _; apply w_mvi; rfl; apply w_done0)
  rename_i b4 T4
  apply w_sq; apply w_reg
  (apply w_ldb 1; rfl; rfl; rfl)
  refine w_pure rfl (h1 ht hv0 (by omega)) ?_
  (apply w_mvi; rfl; apply w_done0)
  refine w_mid (fun ρ d' L' => d' = d ∧ SlotsAre ρ [(1, .slice a l.length c), (2, .pointer (some ⟨b2, 0, none⟩)), (4, .pointer (some ⟨b4, 0, none⟩)), (6, .int .i64 (wrongF v l))] ∧
    L' = [bx b4 T4 [.int .i64 0, .int .i64 0, .int .i64 0, strV [], .slice none 0 0, .slice none 0 0], bx b2 T2 [.int .i64 v.kind, .int .i64 v.m, .int .i64 v.e, strV v.text, lv, kv]]) ?_ ?_
  · by_cases h0 : rightV v = 0
    · (apply w_sq; apply w_reg; apply w_mvi; rfl; apply w_eql; rfl; rfl; apply w_done0; refine w_ifdT rfl (by omega) ?_; apply w_reg; apply w_mvs; rfl)
      refine w_pure rfl (h2 ht hw) ?_
      (apply w_mvi; rfl; apply w_done0)
      exact ⟨rfl, ⟨rfl, rfl, rfl, int_eq (by simp [wrongF, h0]), trivial⟩, rfl⟩
    · (apply w_sq; apply w_reg; apply w_mvi; rfl; apply w_eql; rfl; rfl; apply w_done0; refine w_ifdF rfl (by omega) ?_; apply w_skip)
      exact ⟨rfl, ⟨rfl, rfl, rfl, int_eq (by simp [wrongF, h0]), trivial⟩, rfl⟩
  rintro ρ d' L' ⟨hdd, hsl, hL⟩
  subst hdd; subst hL
  refine gwp_slots _ hsl ?_
  clear hsl
  have hgd : wrongF v l = 0 → Gd v := fun h => right_gd (wrong_right h) hb
  (apply w_sq; apply w_sq; apply w_reg; apply w_mvi; rfl; apply w_done0; apply w_block)
  refine w_loopS (α := Nat × Int) (fun x => [(1, .slice a l.length c), (2, .pointer (some ⟨b2, 0, none⟩)), (4, .pointer (some ⟨b4, 0, none⟩)), (6, .int .i64 x.2), (7, .int .i64 x.1)])
    (fun x dd L' => dd = d' ∧ x.1 ≤ l.length ∧ ∃ vi c0 c1 c2 c3 c4 c5, RVal d' [c0, c1, c2, c3, c4, c5] vi ∧ (x.2 = 0 → Gd vi ∧ walkF vi (l.drop x.1) = getF v l) ∧ (x.2 ≠ 0 → getF v l = (V.zero, x.2)) ∧ L' = [bx b4 T4 [.int .i64 0, .int .i64 0, .int .i64 0, strV [], .slice none 0 0, .slice none 0 0], bx b2 T2 [c0, c1, c2, c3, c4, c5]])
    (fun x => l.length - x.1) (0, wrongF v l) ⟨rfl, rfl, rfl, rfl, rfl, trivial⟩ ⟨rfl, Nat.zero_le _, v, _, _, _, _, _, _, hv0, fun h => ⟨hgd h, by simp only at h; rw [getF, if_neg (by simp [h])]; rfl⟩, fun h => by rw [getF, if_pos h], rfl⟩ ?_
  rintro ⟨i, e⟩ ρ d2 L' ⟨hdd, hi, vi, c0, c1, c2, c3, c4, c5, hvi, hz, hnz, hL⟩
  subst hdd; subst hL
  simp only at hi hz hnz
  by_cases he : e = 0
  · obtain ⟨hgi, hwk⟩ := hz he
    subst he
    by_cases hc : i < l.length
    · rw [List.drop_eq_getElem_cons hc, walkF] at hwk
      (apply w_sq; apply w_sq; apply w_reg; apply w_mvi; rfl; apply w_mvs; rfl; apply w_len; rfl; apply w_lss; rfl; rfl; apply w_mvb; rfl; refine w_gdT rfl (by omega) ?_; apply w_gT; rfl; apply w_mvi; rfl; apply w_gT; rfl; apply w_eql; rfl; rfl; apply w_pickTb; rfl; rfl; apply w_done0; refine w_ifdT rfl (by omega) ?_; apply w_skip; apply w_sq; apply w_block)
      refine w_drawnA [] _ rfl ?_
      (apply w_mvs; rfl; apply w_mvi; rfl; refine w_idxR (sz := 6) (R := RSt) (by rfl) (by assumption) (by rfl) rfl (by omega) ?_; rintro _ _ _ _ _ ⟨rfl, _, _, _, _⟩; apply w_ldd; rfl; assumption; rfl; apply w_ldb 1; rfl; rfl; rfl)
      rename_i hcs hD ik' hlen is id
      refine w_call0 rfl (h3 hvi (gd_one hgi) (gd_text hgi) ⟨rfl, ik', hlen, is, id⟩) (fun r d3 L3 _ ⟨hdd, hL, cs', hr, hR'⟩ => ?_)
      subst hdd; subst hL; subst hr
      obtain ⟨e0, e1, e2, e3, e4, e5, rfl⟩ := six hR'.len
      (apply w_mvu; rfl; apply w_ext; rfl; rfl; apply w_ext; rfl; rfl)
      refine w_stE 1 [e0, e1, e2, e3, e4, e5] rfl rfl rfl rfl (Nat.le_of_ble_eq_true rfl) (cell1_val _ _ _ hR') rfl ?_
      (apply w_mvi; rfl; apply w_done0; apply w_reg; apply w_mvi; rfl; apply w_add; rfl; rfl; omega; omega; apply w_mvi; rfl; apply w_done0)
      refine ⟨(i + 1, (intoF vi l[i]).2), by simp only; omega, ⟨rfl, rfl, rfl, rfl, rfl, trivial⟩, rfl, hc, _, _, _, _, _, _, _, hR', fun h => ?_, fun h => ?_, rfl⟩
      · simp only at h
        rw [if_neg (by simp [h])] at hwk
        exact ⟨into_gd hgi _, hwk⟩
      · simp only at h
        rw [if_pos h] at hwk
        exact hwk.symm
    · obtain rfl : i = l.length := by omega
      rw [List.drop_length, walkF] at hwk
      rw [← hwk]
      (apply w_sq; apply w_sq; apply w_reg; apply w_mvi; rfl; apply w_mvs; rfl; apply w_len; rfl; apply w_lss; rfl; rfl; apply w_mvb; rfl; refine w_gdF rfl (by omega) ?_; apply w_gF; rfl; apply w_gF; rfl; apply w_pickFb; rfl; rfl; apply w_done0; apply w_ifF; rfl; apply w_exit; apply w_sq; apply w_sq; apply w_reg; apply w_mvi; rfl; apply w_neq; rfl; rfl; apply w_done0; refine w_ifdF rfl (by omega) ?_; apply w_skip; apply w_sq; apply w_reg; apply w_ldb 1; rfl; rfl; rfl)
      refine w_stE 0 [c0, c1, c2, c3, c4, c5] rfl rfl rfl rfl (Nat.le_of_ble_eq_true rfl) (cell1_val _ _ _ hvi) rfl ?_
      (apply w_mvi; rfl; apply w_done0; apply w_ret)
      exact finVE 0 rfl rfl rfl hvi
  · rw [hnz he]
    by_cases hc : i < l.length
    · (apply w_sq; apply w_sq; apply w_reg; apply w_mvi; rfl; apply w_mvs; rfl; apply w_len; rfl; apply w_lss; rfl; rfl; apply w_mvb; rfl; refine w_gdT rfl (by omega) ?_; apply w_gT; rfl; apply w_mvi; rfl; apply w_gT; rfl; apply w_eql; rfl; rfl; apply w_pickTb; rfl; rfl; apply w_done0; refine w_ifdF rfl (by omega) ?_; apply w_exit; apply w_sq; apply w_sq; apply w_reg; apply w_mvi; rfl; apply w_neq; rfl; rfl; apply w_done0; refine w_ifdT rfl (by omega) ?_; apply w_sq; apply w_reg; apply w_bvZ; apply w_mvi; rfl)
      refine w_stE 0 [.int .i64 0, .int .i64 0, .int .i64 0, strV [], .slice none 0 0, .slice none 0 0] rfl rfl rfl rfl (Nat.le_of_ble_eq_true rfl) rfl rfl ?_
      (apply w_mvi; rfl; apply w_done0; apply w_ret)
      exact finVE 0 rfl rfl rfl RVal.zero
    · (apply w_sq; apply w_sq; apply w_reg; apply w_mvi; rfl; apply w_mvs; rfl; apply w_len; rfl; apply w_lss; rfl; rfl; apply w_mvb; rfl; refine w_gdF rfl (by omega) ?_; apply w_gF; rfl; apply w_gF; rfl; apply w_pickFb; rfl; rfl; apply w_done0; apply w_ifF; rfl; apply w_exit; apply w_sq; apply w_sq; apply w_reg; apply w_mvi; rfl; apply w_neq; rfl; rfl; apply w_done0; refine w_ifdT rfl (by omega) ?_; apply w_sq; apply w_reg; apply w_bvZ; apply w_mvi; rfl)
      refine w_stE 0 [.int .i64 0, .int .i64 0, .int .i64 0, strV [], .slice none 0 0, .slice none 0 0] rfl rfl rfl rfl (Nat.le_of_ble_eq_true rfl) rfl rfl ?_
      (apply w_mvi; rfl; apply w_done0; apply w_ret)
      exact finVE 0 rfl rfl rfl RVal.zero

/-! ### a key is set -/
def toK (ks : List (List UInt8)) (k : List UInt8) : Nat := if k ∈ ks then lowK ks k + 1 else lowK ks k
theorem toK_le {ks : List (List UInt8)} (h : rising ks = true) (k : List UInt8) : lowK ks k ≤ toK ks k ∧ toK ks k ≤ ks.length := by
  have := lowK_le ks k
  unfold toK
  split
  · rename_i hm
    obtain ⟨h1, _⟩ := (mem_iff h).1 hm
    omega
  · omega
def keyedF (v : V) (k : List UInt8) (y : V) : V := .mk 6 0 0 [] (v.list.take (lowK v.keys k) ++ [y] ++ v.list.drop (toK v.keys k)) (v.keys.take (lowK v.keys k) ++ [k] ++ v.keys.drop (toK v.keys k))
def KeyedOk (P : Program) (f : FuncId) : Prop := ∀ {d : PHeap} {cs es : List Value} {v y : V} {k : List UInt8}, RVal d cs v → rising v.keys = true → v.keys.length = v.list.length → v.keys.length ≤ 1000000000 → k.length ≤ 140737488355328 → RVal d es y →
  GCall P f [.agg cs.toArray, strV k, .agg es.toArray] d [] (Ret fun r d' L' => L' = [] ∧ ∃ cs', r = .agg cs'.toArray ∧ RVal d' cs' (keyedF v k y))
theorem finVD {ρ : Env} {d : PHeap} {L : List PHeap} {b t : Nat} {T : TypeId} {cs : List Value} {w : V} (i : Nat) (e4 : ρ t = .pointer (some ⟨b, 0, none⟩)) (hi : L[i]? = some (bx b T cs)) (hw : RVal d cs w) :
    retPost [.cell t (some 6)] (Ret fun r d' L' => L' = [] ∧ ∃ cs', r = .agg cs'.toArray ∧ RVal d' cs' w) ρ d L :=
  finS (L' := []) [.agg cs.toArray] ⟨res_cell i e4 hi (RVal.len hw), trivial⟩ (List.nil_sublist _) ⟨rfl, cs, rfl, hw⟩
def g_steps_keyed (f_slices_BinarySearch_string_string f_steps_cut_string f_steps_cut_api_Value : Nat) : GFun :=
 ⟨36, [(.cell 6 (some 6))],
 (.seq
 (.reg false (.op false ⟨(some 3), none, (.box (.tmp 0))⟩
  (.op false ⟨(some 5), none, (.box (.tmp 2))⟩
  (.op false ⟨(some 6), none, (.alo (.agg #[(.int .i64 0), (.int .i64 0), (.int .i64 0), (strV []), (.slice none 0 0), (.slice none 0 0)]))⟩ .done))))
 (.seq
 (.reg false (.op false ⟨(some 11), none, (.fld 5 (.tmp 3))⟩
  (.op false ⟨(some 12), none, (.ld none (.tmp 11))⟩
  (.op false ⟨(some 13), none, (.mv (.tmp 1))⟩
  (.op false ⟨(some 14), none, (.call f_slices_BinarySearch_string_string [(.tmp 12), (.tmp 13)])⟩
  (.op false ⟨(some 10), none, (.mv (.tmp 14))⟩
  (.op false ⟨(some 15), none, (.ext (.tmp 10) 0)⟩
  (.op false ⟨(some 16), none, (.ext (.tmp 10) 1)⟩
  (.op false ⟨(some 7), none, (.mv (.tmp 15))⟩
  (.op false ⟨(some 8), none, (.mv (.tmp 16))⟩ .done))))))))))
 (.seq
 (.reg false (.op false ⟨(some 17), none, (.mv (.tmp 7))⟩
  (.op false ⟨(some 9), none, (.mv (.tmp 17))⟩ .done)))
 (.seq (.seq
 (.reg false (.op false ⟨(some 18), none, (.mv (.tmp 8))⟩ .done)) (.cond (.tmp 18)
 (.reg false (.op false ⟨(some 19), none, (.mv (.tmp 9))⟩
  (.op false ⟨(some 20), none, (.bin .add (.tmp 19) (.const (.int .i64 1)))⟩
  (.op false ⟨(some 9), none, (.mv (.tmp 20))⟩ .done)))) .skip))
 (.seq
 (.reg true (.op true ⟨(some 21), none, (.fld 5 (.tmp 3))⟩
  (.op true ⟨(some 22), none, (.ld none (.tmp 21))⟩
  (.op true ⟨(some 23), none, (.mv (.tmp 7))⟩
  (.op true ⟨(some 24), none, (.mv (.tmp 9))⟩
  (.op true ⟨(some 25), none, (.mv (.tmp 1))⟩
  (.op true ⟨(some 28), none, (.fld 4 (.tmp 3))⟩
  (.op true ⟨(some 29), none, (.ld none (.tmp 28))⟩
  (.op true ⟨(some 30), none, (.mv (.tmp 7))⟩
  (.op true ⟨(some 31), none, (.mv (.tmp 9))⟩
  (.op true ⟨(some 32), none, (.ld (some 6) (.tmp 5))⟩
  (.alt ⟨(some 26), none, (.bsl 1 1 [(strV [])] [(0, (.tmp 25))])⟩
  (.alt ⟨(some 27), none, (.call f_steps_cut_string [(.tmp 22), (.tmp 23), (.tmp 24), (.tmp 26)])⟩
  (.op false ⟨(some 33), none, (.bsl 1 6 [(.int .i64 0), (.int .i64 0), (.int .i64 0), (strV []), (.slice none 0 0), (.slice none 0 0)] [(0, (.tmp 32))])⟩
  (.op false ⟨(some 34), none, (.call f_steps_cut_api_Value [(.tmp 29), (.tmp 30), (.tmp 31), (.tmp 33)])⟩
  (.op true ⟨(some 35), none, (.bld [(0, 1), (1, 2), (3, 1), (4, 1), (5, 1)] [(.int .i64 0), (.int .i64 0), (.int .i64 0), (strV []), (.slice none 0 0), (.slice none 0 0)] [(0, (.const (.int .i64 6))), (4, (.tmp 27)), (3, (.tmp 34))])⟩
  (.bar (.op false ⟨none, none, (.st 6 (.tmp 6) (.tmp 35))⟩ .done))))) (.op false ⟨(some 33), none, (.bsl 1 6 [(.int .i64 0), (.int .i64 0), (.int .i64 0), (strV []), (.slice none 0 0), (.slice none 0 0)] [(0, (.tmp 32))])⟩
  (.op false ⟨(some 27), none, (.call f_steps_cut_string [(.tmp 22), (.tmp 23), (.tmp 24), (.tmp 26)])⟩
  (.op false ⟨(some 34), none, (.call f_steps_cut_api_Value [(.tmp 29), (.tmp 30), (.tmp 31), (.tmp 33)])⟩
  (.op true ⟨(some 35), none, (.bld [(0, 1), (1, 2), (3, 1), (4, 1), (5, 1)] [(.int .i64 0), (.int .i64 0), (.int .i64 0), (strV []), (.slice none 0 0), (.slice none 0 0)] [(0, (.const (.int .i64 6))), (4, (.tmp 27)), (3, (.tmp 34))])⟩
  (.bar (.op false ⟨none, none, (.st 6 (.tmp 6) (.tmp 35))⟩ .done))))))) (.op false ⟨(some 33), none, (.bsl 1 6 [(.int .i64 0), (.int .i64 0), (.int .i64 0), (strV []), (.slice none 0 0), (.slice none 0 0)] [(0, (.tmp 32))])⟩
  (.op false ⟨(some 26), none, (.bsl 1 1 [(strV [])] [(0, (.tmp 25))])⟩
  (.op false ⟨(some 27), none, (.call f_steps_cut_string [(.tmp 22), (.tmp 23), (.tmp 24), (.tmp 26)])⟩
  (.op false ⟨(some 34), none, (.call f_steps_cut_api_Value [(.tmp 29), (.tmp 30), (.tmp 31), (.tmp 33)])⟩
  (.op true ⟨(some 35), none, (.bld [(0, 1), (1, 2), (3, 1), (4, 1), (5, 1)] [(.int .i64 0), (.int .i64 0), (.int .i64 0), (strV []), (.slice none 0 0), (.slice none 0 0)] [(0, (.const (.int .i64 6))), (4, (.tmp 27)), (3, (.tmp 34))])⟩
  (.bar (.op false ⟨none, none, (.st 6 (.tmp 6) (.tmp 35))⟩ .done))))))))))))))))))) .ret)))))⟩

set_option maxHeartbeats 1000000 in
theorem keyed_ok {P : Program} {f f1 f2 f3 : FuncId} (hd : dec P f = some (g_steps_keyed f1 f2 f3)) (h1 : SearchOk P f1) (h2 : CutOk 1 RStr P f2) (h3 : CutOk 6 RVal P f3) : KeyedOk P f := by
  intro d cs es v y k hv hr hlen hb hk hy
  refine GCall_of hd (Nat.le_of_ble_eq_true rfl) ?_
  have htk := toK_le hr k
  obtain ⟨lv, kv, rfl, ik, im, ie, it, hl, hks⟩ := hv.open
  obtain ⟨la, lc, rfl⟩ := RSl.val hl
  obtain ⟨ka, kc, rfl⟩ := RSl.val hks
  obtain ⟨y0, y1, y2, y3, y4, y5, rfl⟩ := six hy.len
  show gwp P _ _ _ _ _
  apply w_sq; apply w_reg
  refine w_boxa (l := [.int .i64 v.kind, .int .i64 v.m, .int .i64 v.e, strV v.text, .slice la v.list.length lc, .slice ka v.keys.length kc]) rfl (fun b3 T3 => ?_)
  refine w_boxa (l := [y0, y1, y2, y3, y4, y5]) rfl (fun b5 T5 => ?_)
  (apply w_alo; intro _ _; apply w_done0)
  rename_i b6 T6
  apply w_sq; apply w_reg
  (apply w_fld; rfl; apply w_ld; rfl; exact hc_i 2 rfl rfl; apply w_mvt; rfl)
  refine w_pure rfl (h1 hks hr) ?_
  (apply w_mvu; rfl; apply w_ext; rfl; rfl; apply w_ext; rfl; rfl; apply w_mvi; rfl; apply w_mvb; rfl; apply w_done0)
  apply w_sq; apply w_reg
  (apply w_mvi; rfl; apply w_mvi; rfl; apply w_done0)
  refine w_mid (fun ρ d' L' => d' = d ∧ SlotsAre ρ [(1, strV k), (3, .pointer (some ⟨b3, 0, none⟩)), (5, .pointer (some ⟨b5, 0, none⟩)), (6, .pointer (some ⟨b6, 0, none⟩)), (7, .int .i64 (lowK v.keys k : Nat)), (9, .int .i64 (toK v.keys k : Nat))] ∧
    L' = [bx b6 T6 [.int .i64 0, .int .i64 0, .int .i64 0, strV [], .slice none 0 0, .slice none 0 0], bx b5 T5 [y0, y1, y2, y3, y4, y5], bx b3 T3 [.int .i64 v.kind, .int .i64 v.m, .int .i64 v.e, strV v.text, .slice la v.list.length lc, .slice ka v.keys.length kc]]) ?_ ?_
  · have n2 := RSl.len_le hks
    have hlk := lowK_le v.keys k
    by_cases hm : k ∈ v.keys
    · (apply w_sq; apply w_reg; apply w_mvb; rfl; apply w_done0; refine w_ifdT rfl (by omega) ?_; apply w_reg; apply w_mvi; rfl; apply w_add; rfl; rfl; omega; omega; apply w_mvi; rfl; apply w_done0)
      exact ⟨rfl, ⟨rfl, rfl, rfl, rfl, rfl, int_eq (by simp [toK, hm]), trivial⟩, rfl⟩
    · (apply w_sq; apply w_reg; apply w_mvb; rfl; apply w_done0; refine w_ifdF rfl (by omega) ?_; apply w_skip)
      exact ⟨rfl, ⟨rfl, rfl, rfl, rfl, rfl, int_eq (by simp [toK, hm]), trivial⟩, rfl⟩
  rintro ρ d' L' ⟨hdd, hsl, hL⟩
  subst hdd; subst hL
  refine gwp_slots _ hsl ?_
  clear hsl
  generalize hlo : lowK v.keys k = lo at *
  generalize hto : toK v.keys k = tq at *
  have hF : keyedF v k y = .mk 6 0 0 [] (v.list.take lo ++ [y] ++ v.list.drop tq) (v.keys.take lo ++ [k] ++ v.keys.drop tq) := by rw [keyedF, hlo, hto]
  rw [hF]
  have kone : ∀ {d : PHeap} {b : Nat} {T : TypeId}, Le (bx b T [strV k]) d → RSl 1 RStr d (.slice (some ⟨b, 0, none⟩) 1 1) [k] := fun h => (GRow.lit1 (sz := 1) (R := RStr) (d := emp) rfl ⟨rfl, hk⟩).rsl (R := RStr) mono_str (by omega) (fun _ _ h => h.elim) h
  have yone : ∀ {d d2 : PHeap} {b : Nat} {T : TypeId}, RVal d [y0, y1, y2, y3, y4, y5] y → Le d d2 → Le (bx b T [y0, y1, y2, y3, y4, y5]) d2 → RSl 6 RVal d2 (.slice (some ⟨b, 0, none⟩) 1 1) [y] := fun h hl hg => (GRow.lit1 (sz := 6) (R := RVal) rfl h).rsl (R := RVal) mono_val (by omega) hl hg
  apply w_sq
  refine w_drawn ?_
  (apply w_fld; rfl; apply w_ld; rfl; exact hc_i 2 rfl rfl; apply w_mvi; rfl; apply w_mvi; rfl; apply w_mvt; rfl; apply w_fld; rfl; apply w_ld; rfl; exact hc_i 2 rfl rfl; apply w_mvi; rfl; apply w_mvi; rfl; apply w_ldb 1; rfl; rfl; rfl)
  refine w_alt ?_ ?_
  · refine w_bs1 (v0 := strV k) rfl rfl (fun b26 T26 => ?_)
    refine w_alt ?_ ?_
    · refine w_frz (fun d1 hl1 hg1 => ?_)
      refine w_call0 rfl (h2 (RStrs.mono hks hl1) (kone hg1) htk.1 htk.2 (by simp; omega)) (fun r d2 L2 hl2 ⟨hL, hr2⟩ => ?_)
      subst hL
      obtain ⟨ra, rc, rfl⟩ := RSl.val hr2
      refine w_bsV rfl rfl (fun b33 T33 => ?_)
      refine w_frz (fun d3 hl3 hg3 => ?_)
      refine w_call0 rfl (h3 (RVals.mono hl ((hl1.trans hl2).trans hl3)) (yone (RVal.mono (hl1.trans hl2) hy) hl3 hg3) htk.1 (by omega) (by simp; omega)) (fun r d4 L4 hl4 ⟨hL, hr4⟩ => ?_)
      subst hL
      obtain ⟨sa, sc, rfl⟩ := RSl.val hr4
      (apply w_bvM; rfl; rfl; rfl; apply w_bar)
      refine w_stE 0 [.int .i64 6, .int .i64 0, .int .i64 0, strV [], .slice sa _ sc, .slice ra _ rc] rfl rfl rfl rfl (Nat.le_of_ble_eq_true rfl) rfl rfl ?_
      (apply w_done0; apply w_ret)
      exact finVD 0 rfl rfl (RVal.close (v := .mk 6 0 0 [] (v.list.take lo ++ [y] ++ v.list.drop tq) (v.keys.take lo ++ [k] ++ v.keys.drop tq)) i64_6 i64_0 i64_0 (by simp) hr4 (RStrs.mono hr2 (hl3.trans hl4)))
    · refine w_frz (fun d1 hl1 hg1 => ?_)
      refine w_bsV rfl rfl (fun b33 T33 => ?_)
      refine w_frz (fun d2 hl2 hg2 => ?_)
      refine w_call0 rfl (h2 (RStrs.mono hks (hl1.trans hl2)) (RStrs.mono (kone hg1) hl2) htk.1 htk.2 (by simp; omega)) (fun r d3 L2 hl3 ⟨hL, hr2⟩ => ?_)
      subst hL
      obtain ⟨ra, rc, rfl⟩ := RSl.val hr2
      refine w_call0 rfl (h3 (RVals.mono hl ((hl1.trans hl2).trans hl3)) (RVals.mono (yone (RVal.mono hl1 hy) hl2 hg2) hl3) htk.1 (by omega) (by simp; omega)) (fun r d4 L4 hl4 ⟨hL, hr4⟩ => ?_)
      subst hL
      obtain ⟨sa, sc, rfl⟩ := RSl.val hr4
      (apply w_bvM; rfl; rfl; rfl; apply w_bar)
      refine w_stE 0 [.int .i64 6, .int .i64 0, .int .i64 0, strV [], .slice sa _ sc, .slice ra _ rc] rfl rfl rfl rfl (Nat.le_of_ble_eq_true rfl) rfl rfl ?_
      (apply w_done0; apply w_ret)
      exact finVD 0 rfl rfl (RVal.close (v := .mk 6 0 0 [] (v.list.take lo ++ [y] ++ v.list.drop tq) (v.keys.take lo ++ [k] ++ v.keys.drop tq)) i64_6 i64_0 i64_0 (by simp) hr4 (RStrs.mono hr2 hl4))
  · refine w_bsV rfl rfl (fun b33 T33 => ?_)
    refine w_frz (fun d1 hl1 hg1 => ?_)
    refine w_bs1 (v0 := strV k) rfl rfl (fun b26 T26 => ?_)
    refine w_frz (fun d2 hl2 hg2 => ?_)
    refine w_call0 rfl (h2 (RStrs.mono hks (hl1.trans hl2)) (kone hg2) htk.1 htk.2 (by simp; omega)) (fun r d3 L2 hl3 ⟨hL, hr2⟩ => ?_)
    subst hL
    obtain ⟨ra, rc, rfl⟩ := RSl.val hr2
    refine w_call0 rfl (h3 (RVals.mono hl ((hl1.trans hl2).trans hl3)) (RVals.mono (yone hy hl1 hg1) (hl2.trans hl3)) htk.1 (by omega) (by simp; omega)) (fun r d4 L4 hl4 ⟨hL, hr4⟩ => ?_)
    subst hL
    obtain ⟨sa, sc, rfl⟩ := RSl.val hr4
    (apply w_bvM; rfl; rfl; rfl; apply w_bar)
    refine w_stE 0 [.int .i64 6, .int .i64 0, .int .i64 0, strV [], .slice sa _ sc, .slice ra _ rc] rfl rfl rfl rfl (Nat.le_of_ble_eq_true rfl) rfl rfl ?_
    (apply w_done0; apply w_ret)
    exact finVD 0 rfl rfl (RVal.close (v := .mk 6 0 0 [] (v.list.take lo ++ [y] ++ v.list.drop tq) (v.keys.take lo ++ [k] ++ v.keys.drop tq)) i64_6 i64_0 i64_0 (by simp) hr4 (RStrs.mono hr2 hl4))
end Go.Gk.Val
end

section
/-
  Ways: something is set.
-/
namespace Go.Gk.Val
open Go Go.Gk Go.Gk.Utf
attribute [local irreducible] gwp gws

theorem chunk_z {n i : Nat} (hi : i < n) : chunk (zrow z6 (n * 6)) i 6 = z6 := by
  have hl : (zrow z6 (n * 6)).length = n * 6 := by simp [zrow]
  apply List.ext_getElem?
  intro j
  by_cases hj : j < 6
  · rw [chunk, List.getElem?_take_of_lt hj, List.getElem?_drop, zrow, List.getElem?_map, List.getElem?_range (by omega)]
    have e : (i * 6 + j) % z6.length = j := by show (i * 6 + j) % 6 = j; omega
    simp only [Option.map_some, e]
    obtain rfl | rfl | rfl | rfl | rfl | rfl : j = 0 ∨ j = 1 ∨ j = 2 ∨ j = 3 ∨ j = 4 ∨ j = 5 := by omega
    all_goals rfl
  · rw [List.getElem?_eq_none (by rw [chunk_len hl hi]; omega), List.getElem?_eq_none (by simp [z6]; omega)]
theorem rsl_zeros {d : PHeap} {b n : Nat} {T : TypeId} (hn : n ≤ 140737488355328) (h : Le (bx b T (zrow z6 (n * 6))) d) : RSl 6 RVal d (.slice (some ⟨b, 0, none⟩) n n) (List.replicate n V.zero) := by
  have o : ORow 6 (.slice (some ⟨b, 0, none⟩) n n) n (zrow z6 (n * 6)) (bx b T (zrow z6 (n * 6))) := ORow.lit (by simp [zrow]) hn
  refine o.rsl h (by simp) (by omega) (fun i hi => ?_)
  show RVal d (chunk (zrow z6 (n * 6)) i 6) _
  rw [chunk_z (by simpa using hi), List.getElem_replicate]; exact RVal.zero
theorem one_lens {v : V} (h : oneB v = true) (hk : v.kind = 0 ∨ v.kind = 6) : v.keys.length = v.list.length := by
  rcases hk with hk | hk
  · have hb : bareB v = true := by simp [oneB] at h; exact h.1.1.1.1
    obtain ⟨k, m, e, t, l, ks⟩ := v
    have hk : k = 0 := hk
    subst hk
    simp [bareB, V.kind, V.m, V.e, V.text, V.list, V.keys] at hb
    simp [V.keys, V.list, hb]
  · exact one_keys h hk
def padL (l : List V) (n : Nat) : List V := l ++ List.replicate (n - l.length) V.zero
def setF (v : V) (s : St) (y : V) : V × Int :=
  if s.kind = 0 ∧ (v.kind = 0 ∨ v.kind = 6) then (keyedF v s.text y, 0)
  else if s.kind = 1 ∧ (v.kind = 0 ∨ v.kind = 5) then
    (if placeF s.src v.list.length < 0 ∨ 4095 < placeF s.src v.list.length then (V.zero, 4)
    else (.mk 5 0 0 [] ((padL v.list ((placeF s.src v.list.length).toNat + 1)).take (placeF s.src v.list.length).toNat ++ [y] ++ (padL v.list ((placeF s.src v.list.length).toNat + 1)).drop ((placeF s.src v.list.length).toNat + 1)) [], 0))
  else if s.kind = 2 ∧ (v.kind = 0 ∨ v.kind = 5) ∧ y.kind = 5 then (.mk 5 0 0 [] (v.list.take (endsF s v.list.length).1.toNat ++ y.list ++ v.list.drop (endsF s v.list.length).2.toNat) [], 0)
  else (V.zero, 80)
def SetOk (P : Program) (f : FuncId) : Prop := ∀ {d : PHeap} {cs ds es : List Value} {v y : V} {s : St}, RVal d cs v → oneB v = true → RSt d ds s → RVal d es y → cntV v + cntV y ≤ 900000000 →
  GCall P f [.agg cs.toArray, .agg ds.toArray, .agg es.toArray] d [] (Ret fun r d' L' => L' = [] ∧ ∃ cs', r = .tuple #[.agg cs'.toArray, .int .i64 (setF v s y).2] ∧ RVal d' cs' (setF v s y).1)
def g_steps_set (f_steps_keyed f_steps_place f_steps_cut_api_Value f_steps_ends : Nat) : GFun :=
 ⟨118, [(.cell 6 (some 6)), (.tmp 7)],
 (.seq
 (.reg false (.op false ⟨(some 3), none, (.box (.tmp 0))⟩
  (.op false ⟨(some 4), none, (.box (.tmp 1))⟩
  (.op false ⟨(some 5), none, (.box (.tmp 2))⟩
  (.op false ⟨(some 6), none, (.alo (.agg #[(.int .i64 0), (.int .i64 0), (.int .i64 0), (strV []), (.slice none 0 0), (.slice none 0 0)]))⟩
  (.op false ⟨(some 7), none, (.mv (.const (.int .i64 0)))⟩ .done))))))
 (.seq
 (.reg false (.op false ⟨(some 14), none, (.fld 0 (.tmp 3))⟩
  (.op false ⟨(some 15), none, (.ld none (.tmp 14))⟩
  (.op false ⟨(some 16), none, (.bin .eql (.tmp 15) (.const (.int .i64 0)))⟩
  (.op false ⟨(some 8), none, (.mv (.tmp 16))⟩ .done)))))
 (.seq (.block 0
 (.seq
 (.reg false (.op false ⟨(some 18), none, (.fld 0 (.tmp 4))⟩
  (.op false ⟨(some 19), none, (.ld none (.tmp 18))⟩
  (.op false ⟨(some 20), none, (.bin .eql (.tmp 19) (.const (.int .i64 0)))⟩
  (.op false ⟨(some 21), none, (.mv (.tmp 20))⟩
  (.op false ⟨(some 22), (some (21, true)), (.mv (.tmp 8))⟩
  (.op false ⟨(some 23), (some (21, true)), (.mv (.tmp 22))⟩
  (.op false ⟨(some 24), (some (23, false)), (.fld 0 (.tmp 3))⟩
  (.op false ⟨(some 25), (some (23, false)), (.ld none (.tmp 24))⟩
  (.op false ⟨(some 26), (some (23, false)), (.bin .eql (.tmp 25) (.const (.int .i64 6)))⟩
  (.op false ⟨(some 27), (some (21, true)), (.pick (.tmp 23) (.const (.bool true)) (.tmp 26))⟩
  (.op false ⟨(some 28), none, (.pick (.tmp 21) (.tmp 27) (.const (.bool false)))⟩
  (.op false ⟨(some 17), none, (.mv (.tmp 28))⟩ .done))))))))))))) (.cond (.tmp 17)
 (.seq
 (.reg false (.op false ⟨(some 29), none, (.ld (some 6) (.tmp 3))⟩
  (.op false ⟨(some 30), none, (.fld 1 (.tmp 4))⟩
  (.op false ⟨(some 31), none, (.ld none (.tmp 30))⟩
  (.op false ⟨(some 32), none, (.ld (some 6) (.tmp 5))⟩
  (.op false ⟨(some 33), none, (.call f_steps_keyed [(.tmp 29), (.tmp 31), (.tmp 32)])⟩
  (.op false ⟨none, none, (.st 6 (.tmp 6) (.tmp 33))⟩
  (.op false ⟨(some 7), none, (.mv (.const (.int .i64 0)))⟩ .done)))))))) .ret)
 (.seq
 (.reg false (.op false ⟨(some 35), none, (.fld 0 (.tmp 4))⟩
  (.op false ⟨(some 36), none, (.ld none (.tmp 35))⟩
  (.op false ⟨(some 37), none, (.bin .eql (.tmp 36) (.const (.int .i64 1)))⟩
  (.op false ⟨(some 38), none, (.mv (.tmp 37))⟩
  (.op false ⟨(some 39), (some (38, true)), (.mv (.tmp 8))⟩
  (.op false ⟨(some 40), (some (38, true)), (.mv (.tmp 39))⟩
  (.op false ⟨(some 41), (some (40, false)), (.fld 0 (.tmp 3))⟩
  (.op false ⟨(some 42), (some (40, false)), (.ld none (.tmp 41))⟩
  (.op false ⟨(some 43), (some (40, false)), (.bin .eql (.tmp 42) (.const (.int .i64 5)))⟩
  (.op false ⟨(some 44), (some (38, true)), (.pick (.tmp 40) (.const (.bool true)) (.tmp 43))⟩
  (.op false ⟨(some 45), none, (.pick (.tmp 38) (.tmp 44) (.const (.bool false)))⟩
  (.op false ⟨(some 34), none, (.mv (.tmp 45))⟩ .done))))))))))))) (.cond (.tmp 34)
 (.seq
 (.reg false (.op false ⟨(some 46), none, (.fld 2 (.tmp 4))⟩
  (.op false ⟨(some 47), none, (.ld none (.tmp 46))⟩
  (.op false ⟨(some 48), none, (.fld 4 (.tmp 3))⟩
  (.op false ⟨(some 49), none, (.ld none (.tmp 48))⟩
  (.op false ⟨(some 50), none, (.len (.tmp 49))⟩
  (.op false ⟨(some 51), none, (.call f_steps_place [(.tmp 47), (.tmp 50)])⟩
  (.op false ⟨(some 9), none, (.mv (.tmp 51))⟩ .done))))))))
 (.seq (.seq
 (.reg false (.op false ⟨(some 52), none, (.mv (.tmp 9))⟩
  (.op false ⟨(some 53), none, (.bin .lss (.tmp 52) (.const (.int .i64 0)))⟩
  (.op false ⟨(some 54), none, (.mv (.tmp 53))⟩
  (.op false ⟨(some 55), (some (54, false)), (.mv (.tmp 9))⟩
  (.op false ⟨(some 56), (some (54, false)), (.bin .gtr (.tmp 55) (.const (.int .i64 4095)))⟩
  (.op false ⟨(some 57), none, (.pick (.tmp 54) (.const (.bool true)) (.tmp 56))⟩ .done))))))) (.cond (.tmp 57)
 (.seq
 (.reg false (.op false ⟨(some 58), none, (.bld [(0, 1), (1, 2), (3, 1), (4, 1), (5, 1)] [(.int .i64 0), (.int .i64 0), (.int .i64 0), (strV []), (.slice none 0 0), (.slice none 0 0)] [])⟩
  (.op false ⟨none, none, (.st 6 (.tmp 6) (.tmp 58))⟩
  (.op false ⟨(some 7), none, (.mv (.const (.int .i64 4)))⟩ .done)))) .ret) .skip))
 (.seq
 (.reg false (.op false ⟨(some 59), none, (.fld 4 (.tmp 3))⟩
  (.op false ⟨(some 60), none, (.ld none (.tmp 59))⟩
  (.op false ⟨(some 10), none, (.mv (.tmp 60))⟩ .done))))
 (.seq (.seq
 (.reg false (.op false ⟨(some 61), none, (.mv (.tmp 9))⟩
  (.op false ⟨(some 62), none, (.bin .add (.tmp 61) (.const (.int .i64 1)))⟩
  (.op false ⟨(some 63), none, (.mv (.tmp 10))⟩
  (.op false ⟨(some 64), none, (.len (.tmp 63))⟩
  (.op false ⟨(some 65), none, (.bin .sub (.tmp 62) (.tmp 64))⟩
  (.op false ⟨(some 11), none, (.mv (.tmp 65))⟩ .done)))))))
 (.seq
 (.reg false (.op false ⟨(some 66), none, (.mv (.tmp 11))⟩
  (.op false ⟨(some 67), none, (.bin .gtr (.tmp 66) (.const (.int .i64 0)))⟩ .done))) (.cond (.tmp 67)
 (.reg false (.op false ⟨(some 68), none, (.mv (.tmp 10))⟩
  (.op false ⟨(some 69), none, (.mv (.tmp 10))⟩
  (.op false ⟨(some 70), none, (.len (.tmp 69))⟩
  (.op false ⟨(some 71), none, (.mv (.tmp 10))⟩
  (.op false ⟨(some 72), none, (.len (.tmp 71))⟩
  (.op false ⟨(some 73), none, (.mv (.tmp 11))⟩
  (.op false ⟨(some 74), none, (.mks 6 88 [(.int .i64 0), (.int .i64 0), (.int .i64 0), (strV []), (.slice none 0 0), (.slice none 0 0)] (.tmp 73) (.tmp 73))⟩
  (.op false ⟨(some 75), none, (.call f_steps_cut_api_Value [(.tmp 68), (.tmp 70), (.tmp 72), (.tmp 74)])⟩
  (.op false ⟨(some 10), none, (.mv (.tmp 75))⟩ .done)))))))))) .skip)))
 (.seq
 (.reg false (.op false ⟨(some 76), none, (.mv (.tmp 10))⟩
  (.op false ⟨(some 77), none, (.mv (.tmp 9))⟩
  (.op false ⟨(some 78), none, (.mv (.tmp 9))⟩
  (.op false ⟨(some 79), none, (.bin .add (.tmp 78) (.const (.int .i64 1)))⟩
  (.op false ⟨(some 80), none, (.ld (some 6) (.tmp 5))⟩
  (.op false ⟨(some 81), none, (.bsl 1 6 [(.int .i64 0), (.int .i64 0), (.int .i64 0), (strV []), (.slice none 0 0), (.slice none 0 0)] [(0, (.tmp 80))])⟩
  (.op false ⟨(some 82), none, (.call f_steps_cut_api_Value [(.tmp 76), (.tmp 77), (.tmp 79), (.tmp 81)])⟩
  (.op false ⟨(some 83), none, (.bld [(0, 1), (1, 2), (3, 1), (4, 1), (5, 1)] [(.int .i64 0), (.int .i64 0), (.int .i64 0), (strV []), (.slice none 0 0), (.slice none 0 0)] [(0, (.const (.int .i64 5))), (3, (.tmp 82))])⟩
  (.op false ⟨none, none, (.st 6 (.tmp 6) (.tmp 83))⟩
  (.op false ⟨(some 7), none, (.mv (.const (.int .i64 0)))⟩ .done))))))))))) .ret)))))
 (.seq
 (.reg false (.op false ⟨(some 85), none, (.fld 0 (.tmp 4))⟩
  (.op false ⟨(some 86), none, (.ld none (.tmp 85))⟩
  (.op false ⟨(some 87), none, (.bin .eql (.tmp 86) (.const (.int .i64 2)))⟩
  (.op false ⟨(some 88), none, (.mv (.tmp 87))⟩
  (.op false ⟨(some 89), (some (88, true)), (.mv (.tmp 8))⟩
  (.op false ⟨(some 90), (some (88, true)), (.mv (.tmp 89))⟩
  (.op false ⟨(some 91), (some (90, false)), (.fld 0 (.tmp 3))⟩
  (.op false ⟨(some 92), (some (90, false)), (.ld none (.tmp 91))⟩
  (.op false ⟨(some 93), (some (90, false)), (.bin .eql (.tmp 92) (.const (.int .i64 5)))⟩
  (.op false ⟨(some 94), (some (88, true)), (.pick (.tmp 90) (.const (.bool true)) (.tmp 93))⟩
  (.op false ⟨(some 95), none, (.pick (.tmp 88) (.tmp 94) (.const (.bool false)))⟩
  (.op false ⟨(some 96), none, (.mv (.tmp 95))⟩
  (.op false ⟨(some 97), (some (96, true)), (.fld 0 (.tmp 5))⟩
  (.op false ⟨(some 98), (some (96, true)), (.ld none (.tmp 97))⟩
  (.op false ⟨(some 99), (some (96, true)), (.bin .eql (.tmp 98) (.const (.int .i64 5)))⟩
  (.op false ⟨(some 100), none, (.pick (.tmp 96) (.tmp 99) (.const (.bool false)))⟩
  (.op false ⟨(some 84), none, (.mv (.tmp 100))⟩ .done)))))))))))))))))) (.cond (.tmp 84)
 (.seq
 (.reg false (.op false ⟨(some 102), none, (.ld (some 6) (.tmp 4))⟩
  (.op false ⟨(some 103), none, (.fld 4 (.tmp 3))⟩
  (.op false ⟨(some 104), none, (.ld none (.tmp 103))⟩
  (.op false ⟨(some 105), none, (.len (.tmp 104))⟩
  (.op false ⟨(some 106), none, (.call f_steps_ends [(.tmp 102), (.tmp 105)])⟩
  (.op false ⟨(some 101), none, (.mv (.tmp 106))⟩
  (.op false ⟨(some 107), none, (.ext (.tmp 101) 0)⟩
  (.op false ⟨(some 108), none, (.ext (.tmp 101) 1)⟩
  (.op false ⟨(some 12), none, (.mv (.tmp 107))⟩
  (.op false ⟨(some 13), none, (.mv (.tmp 108))⟩ .done)))))))))))
 (.seq
 (.reg false (.op false ⟨(some 109), none, (.fld 4 (.tmp 3))⟩
  (.op false ⟨(some 110), none, (.ld none (.tmp 109))⟩
  (.op false ⟨(some 111), none, (.mv (.tmp 12))⟩
  (.op false ⟨(some 112), none, (.mv (.tmp 13))⟩
  (.op false ⟨(some 113), none, (.fld 4 (.tmp 5))⟩
  (.op false ⟨(some 114), none, (.ld none (.tmp 113))⟩
  (.op false ⟨(some 115), none, (.call f_steps_cut_api_Value [(.tmp 110), (.tmp 111), (.tmp 112), (.tmp 114)])⟩
  (.op false ⟨(some 116), none, (.bld [(0, 1), (1, 2), (3, 1), (4, 1), (5, 1)] [(.int .i64 0), (.int .i64 0), (.int .i64 0), (strV []), (.slice none 0 0), (.slice none 0 0)] [(0, (.const (.int .i64 5))), (3, (.tmp 115))])⟩
  (.op false ⟨none, none, (.st 6 (.tmp 6) (.tmp 116))⟩
  (.op false ⟨(some 7), none, (.mv (.const (.int .i64 0)))⟩ .done))))))))))) .ret)) .skip)))))))
 (.seq
 (.reg false (.op false ⟨(some 117), none, (.bld [(0, 1), (1, 2), (3, 1), (4, 1), (5, 1)] [(.int .i64 0), (.int .i64 0), (.int .i64 0), (strV []), (.slice none 0 0), (.slice none 0 0)] [])⟩
  (.op false ⟨none, none, (.st 6 (.tmp 6) (.tmp 117))⟩
  (.op false ⟨(some 7), none, (.mv (.const (.int .i64 80)))⟩ .done)))) .ret))))⟩

set_option maxHeartbeats 2000000 in
theorem set_ok {P : Program} {f f1 f2 f3 f4 : FuncId} (hd : dec P f = some (g_steps_set f1 f2 f3 f4)) (h1 : KeyedOk P f1) (h2 : PlaceOk P f2) (h3 : CutOk 6 RVal P f3) (h4 : EndsOk P f4) : SetOk P f := by
  intro d cs ds es v y s hv hone hs hy hb
  refine GCall_of hd (Nat.le_of_ble_eq_true rfl) ?_
  have hr := one_rising hone
  have b1 := cnt_list (v := v)
  have b2' := cnt_keys (v := v)
  have b3' := cnt_list (v := y)
  obtain ⟨w, e, hF⟩ : ∃ w e, setF v s y = (w, e) := ⟨_, _, rfl⟩
  rw [hF]
  have hs' := hs
  obtain ⟨hds, ik', it', is, id⟩ := hs'
  subst hds
  have hv0 := hv
  have hy0 := hy
  obtain ⟨lv, kv, rfl, ik, im, ie, it, hl, hks⟩ := hv.open
  obtain ⟨la, lc, rfl⟩ := RSl.val hl
  have hl' : RSl 6 RVal d (.slice la v.list.length lc) v.list := hl
  obtain ⟨yl, yk, rfl, yik, _, _, _, yhl, _⟩ := hy.open
  obtain ⟨ya, yc, rfl⟩ := RSl.val yhl
  have yone : ∀ {d d2 : PHeap} {b : Nat} {T : TypeId}, RVal d [.int .i64 y.kind, .int .i64 y.m, .int .i64 y.e, strV y.text, .slice ya y.list.length yc, yk] y → Le d d2 → Le (bx b T [.int .i64 y.kind, .int .i64 y.m, .int .i64 y.e, strV y.text, .slice ya y.list.length yc, yk]) d2 → RSl 6 RVal d2 (.slice (some ⟨b, 0, none⟩) 1 1) [y] :=
    fun h hl hg => (GRow.lit1 (sz := 6) (R := RVal) rfl h).rsl (R := RVal) mono_val (by omega) hl hg
  show gwp P _ _ _ _ _
  apply w_sq; apply w_reg
  refine w_boxa (l := [.int .i64 v.kind, .int .i64 v.m, .int .i64 v.e, strV v.text, .slice la v.list.length lc, kv]) rfl (fun b3 T3 => ?_)
  refine w_boxa (l := [.int .i64 s.kind, strV s.text, .int .i64 s.src, .int .i64 s.dst, .bool s.hf, .bool s.ht]) rfl (fun b4 T4 => ?_)
  refine w_boxa (l := [.int .i64 y.kind, .int .i64 y.m, .int .i64 y.e, strV y.text, .slice ya y.list.length yc, yk]) rfl (fun b5 T5 => ?_)
  (apply w_alo; intro _ _; apply w_mvi; rfl; apply w_done0)
  rename_i b6 T6
  by_cases s0 : s.kind = 0
  · by_cases hk : v.kind = 0 ∨ v.kind = 6
    · rw [setF, if_pos ⟨s0, hk⟩] at hF; cases hF
      have hlens := one_lens hone hk
      by_cases k0 : v.kind = 0
      · (apply w_sq; apply w_reg; apply w_fld; rfl; apply w_ld; rfl; exact hc_i 3 rfl rfl; apply w_eql; rfl; rfl; apply w_mvb; rfl; apply w_done0; apply w_sq; apply w_block; apply w_sq; apply w_reg; apply w_fld; rfl; apply w_ld; rfl; exact hc_i 2 rfl rfl; apply w_eql; rfl; rfl; apply w_mvb; rfl; refine w_gdT rfl (by omega) ?_; apply w_gT; rfl; apply w_mvb; rfl; apply w_gT; rfl; apply w_mvb; rfl; refine w_gdT rfl (by omega) ?_; apply w_gF; rfl; apply w_gF; rfl; apply w_gF; rfl; apply w_gT; rfl; apply w_pickTb; rfl; rfl; apply w_pickTb; rfl; rfl; apply w_mvb; rfl; apply w_done0; apply w_ifT; rfl; apply w_sq; apply w_reg; apply w_ldb 3; rfl; rfl; rfl; apply w_fld; rfl; apply w_ld; rfl; exact hc_i 2 rfl rfl; apply w_ldb 1; rfl; rfl; rfl)
        refine w_call0 rfl (h1 hv0 hr hlens (by omega) it' hy0) (fun r d2 L2 hl2 ⟨hL, cs', hr', hR'⟩ => ?_)
        subst hL; subst hr'
        obtain ⟨e0, e1, e2, e3, e4, e5, rfl⟩ := six hR'.len
        refine w_stE 0 [e0, e1, e2, e3, e4, e5] rfl rfl rfl rfl (Nat.le_of_ble_eq_true rfl) (cell1_val _ _ _ hR') rfl ?_
        (apply w_mvi; rfl; apply w_done0; apply w_ret)
        exact finVDE 0 rfl rfl rfl hR'
      by_cases k6 : v.kind ≠ 0
      · (apply w_sq; apply w_reg; apply w_fld; rfl; apply w_ld; rfl; exact hc_i 3 rfl rfl; apply w_eql; rfl; rfl; apply w_mvb; rfl; apply w_done0; apply w_sq; apply w_block; apply w_sq; apply w_reg; apply w_fld; rfl; apply w_ld; rfl; exact hc_i 2 rfl rfl; apply w_eql; rfl; rfl; apply w_mvb; rfl; refine w_gdT rfl (by omega) ?_; apply w_gT; rfl; apply w_mvb; rfl; apply w_gT; rfl; apply w_mvb; rfl; refine w_gdF rfl (by omega) ?_; apply w_gT; rfl; apply w_fld; rfl; apply w_gT; rfl; apply w_ld; rfl; exact hc_i 3 rfl rfl; apply w_gT; rfl; apply w_eql; rfl; rfl; apply w_gT; rfl; apply w_pickFb; rfl; rfl; apply w_pickTb; rfl; rfl; apply w_mvb; rfl; apply w_done0; refine w_ifdT rfl (by omega) ?_; apply w_sq; apply w_reg; apply w_ldb 3; rfl; rfl; rfl; apply w_fld; rfl; apply w_ld; rfl; exact hc_i 2 rfl rfl; apply w_ldb 1; rfl; rfl; rfl)
        refine w_call0 rfl (h1 hv0 hr hlens (by omega) it' hy0) (fun r d2 L2 hl2 ⟨hL, cs', hr', hR'⟩ => ?_)
        subst hL; subst hr'
        obtain ⟨e0, e1, e2, e3, e4, e5, rfl⟩ := six hR'.len
        refine w_stE 0 [e0, e1, e2, e3, e4, e5] rfl rfl rfl rfl (Nat.le_of_ble_eq_true rfl) (cell1_val _ _ _ hR') rfl ?_
        (apply w_mvi; rfl; apply w_done0; apply w_ret)
        exact finVDE 0 rfl rfl rfl hR'
      omega
    · rw [setF, if_neg (fun h => hk h.2), if_neg (fun h => by omega), if_neg (fun h => by omega)] at hF; cases hF
      (apply w_sq; apply w_reg; apply w_fld; rfl; apply w_ld; rfl; exact hc_i 3 rfl rfl; apply w_eql; rfl; rfl; apply w_mvb; rfl; apply w_done0; apply w_sq; apply w_block; apply w_sq; apply w_reg; apply w_fld; rfl; apply w_ld; rfl; exact hc_i 2 rfl rfl; apply w_eql; rfl; rfl; apply w_mvb; rfl; refine w_gdT rfl (by omega) ?_; apply w_gT; rfl; apply w_mvb; rfl; apply w_gT; rfl; apply w_mvb; rfl; refine w_gdF rfl (by omega) ?_; apply w_gT; rfl; apply w_fld; rfl; apply w_gT; rfl; apply w_ld; rfl; exact hc_i 3 rfl rfl; apply w_gT; rfl; apply w_eql; rfl; rfl; apply w_gT; rfl; apply w_pickFb; rfl; rfl; apply w_pickTb; rfl; rfl; apply w_mvb; rfl; apply w_done0; refine w_ifdF rfl (by omega) ?_; apply w_sq; apply w_reg; apply w_fld; rfl; apply w_ld; rfl; exact hc_i 2 rfl rfl; apply w_eql; rfl; rfl; apply w_mvb; rfl; refine w_gdF rfl (by omega) ?_; apply w_gF; rfl; apply w_gF; rfl; apply w_gU; rfl; apply w_gU; rfl; apply w_gU; rfl; apply w_gF; rfl; apply w_pickFb; rfl; rfl; apply w_mvb; rfl; apply w_done0; apply w_ifF; rfl; apply w_sq; apply w_reg; apply w_fld; rfl; apply w_ld; rfl; exact hc_i 2 rfl rfl; apply w_eql; rfl; rfl; apply w_mvb; rfl; refine w_gdF rfl (by omega) ?_; apply w_gF; rfl; apply w_gF; rfl; apply w_gU; rfl; apply w_gU; rfl; apply w_gU; rfl; apply w_gF; rfl; apply w_pickFb; rfl; rfl; apply w_mvb; rfl; apply w_gF; rfl; apply w_gF; rfl; apply w_gF; rfl; apply w_pickFb; rfl; rfl; apply w_mvb; rfl; apply w_done0; apply w_ifF; rfl; apply w_skip; apply w_sq; apply w_reg; apply w_bvZ)
      refine w_stE 0 [.int .i64 0, .int .i64 0, .int .i64 0, strV [], .slice none 0 0, .slice none 0 0] rfl rfl rfl rfl (Nat.le_of_ble_eq_true rfl) rfl rfl ?_
      (apply w_mvi; rfl; apply w_done0; apply w_ret)
      exact finVDE 0 rfl rfl rfl RVal.zero
  by_cases s1 : s.kind = 1
  · by_cases hk : v.kind = 0 ∨ v.kind = 5
    · rw [setF, if_neg (fun h => s0 h.1), if_pos ⟨s1, hk⟩] at hF
      obtain ⟨p, hp⟩ : ∃ p, placeF s.src v.list.length = p := ⟨_, rfl⟩
      rw [hp] at hF
      by_cases k0 : v.kind = 0
      · (apply w_sq; apply w_reg; apply w_fld; rfl; apply w_ld; rfl; exact hc_i 3 rfl rfl; apply w_eql; rfl; rfl; apply w_mvb; rfl; apply w_done0; apply w_sq; apply w_block; apply w_sq; apply w_reg; apply w_fld; rfl; apply w_ld; rfl; exact hc_i 2 rfl rfl; apply w_eql; rfl; rfl; apply w_mvb; rfl; refine w_gdF rfl (by omega) ?_; apply w_gF; rfl; apply w_gF; rfl; apply w_gU; rfl; apply w_gU; rfl; apply w_gU; rfl; apply w_gF; rfl; apply w_pickFb; rfl; rfl; apply w_mvb; rfl; apply w_done0; apply w_ifF; rfl; apply w_sq; apply w_reg; apply w_fld; rfl; apply w_ld; rfl; exact hc_i 2 rfl rfl; apply w_eql; rfl; rfl; apply w_mvb; rfl; refine w_gdT rfl (by omega) ?_; apply w_gT; rfl; apply w_mvb; rfl; apply w_gT; rfl; apply w_mvb; rfl; refine w_gdT rfl (by omega) ?_; apply w_gF; rfl; apply w_gF; rfl; apply w_gF; rfl; apply w_gT; rfl; apply w_pickTb; rfl; rfl; apply w_pickTb; rfl; rfl; apply w_mvb; rfl; apply w_done0; apply w_ifT; rfl; apply w_sq; apply w_reg; apply w_fld; rfl; apply w_ld; rfl; exact hc_i 2 rfl rfl; apply w_fld; rfl; apply w_ld; rfl; exact hc_i 3 rfl rfl; apply w_len; rfl)
        refine w_pure rfl (h2 is (by omega) (by omega)) ?_
        rw [hp]
        by_cases q0 : p < 0
        · rw [if_pos (.inl q0)] at hF; cases hF
          (apply w_mvi; rfl; apply w_done0; apply w_sq; apply w_sq; apply w_reg; apply w_mvi; rfl; apply w_lss; rfl; rfl; apply w_mvb; rfl; refine w_gdT rfl (by omega) ?_; apply w_gF; rfl; apply w_gF; rfl; apply w_pickTb; rfl; rfl; apply w_done0; apply w_ifT; rfl; apply w_sq; apply w_reg; apply w_bvZ)
          refine w_stE 0 [.int .i64 0, .int .i64 0, .int .i64 0, strV [], .slice none 0 0, .slice none 0 0] rfl rfl rfl rfl (Nat.le_of_ble_eq_true rfl) rfl rfl ?_
          (apply w_mvi; rfl; apply w_done0; apply w_ret)
          exact finVDE 0 rfl rfl rfl RVal.zero
        by_cases q1 : p > 4095
        · rw [if_pos (.inr q1)] at hF; cases hF
          (apply w_mvi; rfl; apply w_done0; apply w_sq; apply w_sq; apply w_reg; apply w_mvi; rfl; apply w_lss; rfl; rfl; apply w_mvb; rfl; refine w_gdF rfl (by omega) ?_; apply w_gT; rfl; apply w_mvi; rfl; apply w_gT; rfl; apply w_gtr; rfl; rfl; apply w_pickFb; rfl; rfl; apply w_done0; refine w_ifdT rfl (by omega) ?_; apply w_sq; apply w_reg; apply w_bvZ)
          refine w_stE 0 [.int .i64 0, .int .i64 0, .int .i64 0, strV [], .slice none 0 0, .slice none 0 0] rfl rfl rfl rfl (Nat.le_of_ble_eq_true rfl) rfl rfl ?_
          (apply w_mvi; rfl; apply w_done0; apply w_ret)
          exact finVDE 0 rfl rfl rfl RVal.zero
        rw [if_neg (fun h => by omega)] at hF; cases hF
        obtain ⟨n, rfl⟩ : ∃ n : Nat, p = (n : Int) := ⟨p.toNat, by omega⟩
        simp only [Int.toNat_natCast]
        have hpl : (padL v.list (n + 1)).length = v.list.length + (n + 1 - v.list.length) := by simp [padL]
        by_cases q2 : v.list.length < n + 1
        · (apply w_mvi; rfl; apply w_done0; apply w_sq; apply w_sq; apply w_reg; apply w_mvi; rfl; apply w_lss; rfl; rfl; apply w_mvb; rfl; refine w_gdF rfl (by omega) ?_; apply w_gT; rfl; apply w_mvi; rfl; apply w_gT; rfl; apply w_gtr; rfl; rfl; apply w_pickFb; rfl; rfl; apply w_done0; refine w_ifdF rfl (by omega) ?_; apply w_skip; apply w_sq; apply w_reg; apply w_fld; rfl; apply w_ld; rfl; exact hc_i 3 rfl rfl; apply w_mvs; rfl; apply w_done0; apply w_sq; apply w_sq; apply w_reg; apply w_mvi; rfl; apply w_add; rfl; rfl; omega; omega; apply w_mvs; rfl; apply w_len; rfl; apply w_sub; rfl; rfl; omega; omega; apply w_mvi; rfl; apply w_done0; apply w_sq; apply w_reg; apply w_mvi; rfl; apply w_gtr; rfl; rfl; apply w_done0; refine w_ifdT rfl (by omega) ?_; apply w_reg; apply w_mvs; rfl; apply w_mvs; rfl; apply w_len; rfl; apply w_mvs; rfl; apply w_len; rfl; apply w_mvi; rfl)
          refine w_mks (n := n + 1 - v.list.length) (c := n + 1 - v.list.length) (int_eq (by omega)) (int_eq (by omega)) (Nat.le_refl _) (by omega) (by omega) (fun b74 T74 => ?_)
          refine w_frz (fun d1 hl1 hg1 => ?_)
          have hz := rsl_zeros (by omega) hg1
          refine w_call0 rfl (h3 (RVals.mono hl hl1) hz (Nat.le_refl _) (Nat.le_refl _) (by simp; omega)) (fun r d2 L2 hl2 ⟨hL, hr2⟩ => ?_)
          subst hL
          have hr3 : RSl 6 RVal d2 r (padL v.list (n + 1)) := by rw [List.take_length, List.drop_length, List.append_nil] at hr2; exact hr2
          obtain ⟨ra, rc, rfl⟩ := RSl.val hr3
          (apply w_mvs; rfl; apply w_done0; apply w_sq; apply w_reg; apply w_mvs; rfl; apply w_mvi; rfl; apply w_mvi; rfl; apply w_add; rfl; rfl; omega; omega; apply w_ldb 1; rfl; rfl; rfl)
          refine w_bsV rfl rfl (fun b81 T81 => ?_)
          refine w_frz (fun d3 hl3 hg3 => ?_)
          refine w_call0 rfl (h3 (i := n) (j := n + 1) (RVals.mono hr3 hl3) (yone (RVal.mono (hl1.trans hl2) hy0) hl3 hg3) (by omega) (by omega) (by simp only [List.length_singleton]; omega)) (fun r d4 L4 hl4 ⟨hL, hr4⟩ => ?_)
          subst hL
          obtain ⟨sa, sc, rfl⟩ := RSl.val hr4
          (apply w_bvKL; rfl; rfl)
          refine w_stE 0 [.int .i64 5, .int .i64 0, .int .i64 0, strV [], .slice sa _ sc, .slice none 0 0] rfl rfl rfl rfl (Nat.le_of_ble_eq_true rfl) rfl rfl ?_
          (apply w_mvi; rfl; apply w_done0; apply w_ret)
          exact finVDE 0 rfl rfl rfl (RVal.close (v := .mk 5 0 0 [] ((padL v.list (n + 1)).take n ++ [y] ++ (padL v.list (n + 1)).drop (n + 1)) []) i64_5 i64_0 i64_0 (by simp) hr4 RSl.nil)
        · have hpe : padL v.list (n + 1) = v.list := by simp [padL, show n + 1 - v.list.length = 0 by omega]
          rw [hpe]
          (apply w_mvi; rfl; apply w_done0; apply w_sq; apply w_sq; apply w_reg; apply w_mvi; rfl; apply w_lss; rfl; rfl; apply w_mvb; rfl; refine w_gdF rfl (by omega) ?_; apply w_gT; rfl; apply w_mvi; rfl; apply w_gT; rfl; apply w_gtr; rfl; rfl; apply w_pickFb; rfl; rfl; apply w_done0; refine w_ifdF rfl (by omega) ?_; apply w_skip; apply w_sq; apply w_reg; apply w_fld; rfl; apply w_ld; rfl; exact hc_i 3 rfl rfl; apply w_mvs; rfl; apply w_done0; apply w_sq; apply w_sq; apply w_reg; apply w_mvi; rfl; apply w_add; rfl; rfl; omega; omega; apply w_mvs; rfl; apply w_len; rfl; apply w_sub; rfl; rfl; omega; omega; apply w_mvi; rfl; apply w_done0; apply w_sq; apply w_reg; apply w_mvi; rfl; apply w_gtr; rfl; rfl; apply w_done0; refine w_ifdF rfl (by omega) ?_; apply w_skip; apply w_sq; apply w_reg; apply w_mvs; rfl; apply w_mvi; rfl; apply w_mvi; rfl; apply w_add; rfl; rfl; omega; omega; apply w_ldb 1; rfl; rfl; rfl)
          refine w_bsV rfl rfl (fun b81 T81 => ?_)
          refine w_frz (fun d3 hl3 hg3 => ?_)
          refine w_call0 rfl (h3 (i := n) (j := n + 1) (RVals.mono hl hl3) (yone hy0 hl3 hg3) (by omega) (by omega) (by simp only [List.length_singleton]; omega)) (fun r d4 L4 hl4 ⟨hL, hr4⟩ => ?_)
          subst hL
          obtain ⟨sa, sc, rfl⟩ := RSl.val hr4
          (apply w_bvKL; rfl; rfl)
          refine w_stE 0 [.int .i64 5, .int .i64 0, .int .i64 0, strV [], .slice sa _ sc, .slice none 0 0] rfl rfl rfl rfl (Nat.le_of_ble_eq_true rfl) rfl rfl ?_
          (apply w_mvi; rfl; apply w_done0; apply w_ret)
          exact finVDE 0 rfl rfl rfl (RVal.close (v := .mk 5 0 0 [] (v.list.take n ++ [y] ++ v.list.drop (n + 1)) []) i64_5 i64_0 i64_0 (by simp) hr4 RSl.nil)
      by_cases k6 : v.kind ≠ 0
      · (apply w_sq; apply w_reg; apply w_fld; rfl; apply w_ld; rfl; exact hc_i 3 rfl rfl; apply w_eql; rfl; rfl; apply w_mvb; rfl; apply w_done0; apply w_sq; apply w_block; apply w_sq; apply w_reg; apply w_fld; rfl; apply w_ld; rfl; exact hc_i 2 rfl rfl; apply w_eql; rfl; rfl; apply w_mvb; rfl; refine w_gdF rfl (by omega) ?_; apply w_gF; rfl; apply w_gF; rfl; apply w_gU; rfl; apply w_gU; rfl; apply w_gU; rfl; apply w_gF; rfl; apply w_pickFb; rfl; rfl; apply w_mvb; rfl; apply w_done0; apply w_ifF; rfl; apply w_sq; apply w_reg; apply w_fld; rfl; apply w_ld; rfl; exact hc_i 2 rfl rfl; apply w_eql; rfl; rfl; apply w_mvb; rfl; refine w_gdT rfl (by omega) ?_; apply w_gT; rfl; apply w_mvb; rfl; apply w_gT; rfl; apply w_mvb; rfl; refine w_gdF rfl (by omega) ?_; apply w_gT; rfl; apply w_fld; rfl; apply w_gT; rfl; apply w_ld; rfl; exact hc_i 3 rfl rfl; apply w_gT; rfl; apply w_eql; rfl; rfl; apply w_gT; rfl; apply w_pickFb; rfl; rfl; apply w_pickTb; rfl; rfl; apply w_mvb; rfl; apply w_done0; refine w_ifdT rfl (by omega) ?_; apply w_sq; apply w_reg; apply w_fld; rfl; apply w_ld; rfl; exact hc_i 2 rfl rfl; apply w_fld; rfl; apply w_ld; rfl; exact hc_i 3 rfl rfl; apply w_len; rfl)
        refine w_pure rfl (h2 is (by omega) (by omega)) ?_
        rw [hp]
        by_cases q0 : p < 0
        · rw [if_pos (.inl q0)] at hF; cases hF
          (apply w_mvi; rfl; apply w_done0; apply w_sq; apply w_sq; apply w_reg; apply w_mvi; rfl; apply w_lss; rfl; rfl; apply w_mvb; rfl; refine w_gdT rfl (by omega) ?_; apply w_gF; rfl; apply w_gF; rfl; apply w_pickTb; rfl; rfl; apply w_done0; apply w_ifT; rfl; apply w_sq; apply w_reg; apply w_bvZ)
          refine w_stE 0 [.int .i64 0, .int .i64 0, .int .i64 0, strV [], .slice none 0 0, .slice none 0 0] rfl rfl rfl rfl (Nat.le_of_ble_eq_true rfl) rfl rfl ?_
          (apply w_mvi; rfl; apply w_done0; apply w_ret)
          exact finVDE 0 rfl rfl rfl RVal.zero
        by_cases q1 : p > 4095
        · rw [if_pos (.inr q1)] at hF; cases hF
          (apply w_mvi; rfl; apply w_done0; apply w_sq; apply w_sq; apply w_reg; apply w_mvi; rfl; apply w_lss; rfl; rfl; apply w_mvb; rfl; refine w_gdF rfl (by omega) ?_; apply w_gT; rfl; apply w_mvi; rfl; apply w_gT; rfl; apply w_gtr; rfl; rfl; apply w_pickFb; rfl; rfl; apply w_done0; refine w_ifdT rfl (by omega) ?_; apply w_sq; apply w_reg; apply w_bvZ)
          refine w_stE 0 [.int .i64 0, .int .i64 0, .int .i64 0, strV [], .slice none 0 0, .slice none 0 0] rfl rfl rfl rfl (Nat.le_of_ble_eq_true rfl) rfl rfl ?_
          (apply w_mvi; rfl; apply w_done0; apply w_ret)
          exact finVDE 0 rfl rfl rfl RVal.zero
        rw [if_neg (fun h => by omega)] at hF; cases hF
        obtain ⟨n, rfl⟩ : ∃ n : Nat, p = (n : Int) := ⟨p.toNat, by omega⟩
        simp only [Int.toNat_natCast]
        have hpl : (padL v.list (n + 1)).length = v.list.length + (n + 1 - v.list.length) := by simp [padL]
        by_cases q2 : v.list.length < n + 1
        · (apply w_mvi; rfl; apply w_done0; apply w_sq; apply w_sq; apply w_reg; apply w_mvi; rfl; apply w_lss; rfl; rfl; apply w_mvb; rfl; refine w_gdF rfl (by omega) ?_; apply w_gT; rfl; apply w_mvi; rfl; apply w_gT; rfl; apply w_gtr; rfl; rfl; apply w_pickFb; rfl; rfl; apply w_done0; refine w_ifdF rfl (by omega) ?_; apply w_skip; apply w_sq; apply w_reg; apply w_fld; rfl; apply w_ld; rfl; exact hc_i 3 rfl rfl; apply w_mvs; rfl; apply w_done0; apply w_sq; apply w_sq; apply w_reg; apply w_mvi; rfl; apply w_add; rfl; rfl; omega; omega; apply w_mvs; rfl; apply w_len; rfl; apply w_sub; rfl; rfl; omega; omega; apply w_mvi; rfl; apply w_done0; apply w_sq; apply w_reg; apply w_mvi; rfl; apply w_gtr; rfl; rfl; apply w_done0; refine w_ifdT rfl (by omega) ?_; apply w_reg; apply w_mvs; rfl; apply w_mvs; rfl; apply w_len; rfl; apply w_mvs; rfl; apply w_len; rfl; apply w_mvi; rfl)
          refine w_mks (n := n + 1 - v.list.length) (c := n + 1 - v.list.length) (int_eq (by omega)) (int_eq (by omega)) (Nat.le_refl _) (by omega) (by omega) (fun b74 T74 => ?_)
          refine w_frz (fun d1 hl1 hg1 => ?_)
          have hz := rsl_zeros (by omega) hg1
          refine w_call0 rfl (h3 (RVals.mono hl hl1) hz (Nat.le_refl _) (Nat.le_refl _) (by simp; omega)) (fun r d2 L2 hl2 ⟨hL, hr2⟩ => ?_)
          subst hL
          have hr3 : RSl 6 RVal d2 r (padL v.list (n + 1)) := by rw [List.take_length, List.drop_length, List.append_nil] at hr2; exact hr2
          obtain ⟨ra, rc, rfl⟩ := RSl.val hr3
          (apply w_mvs; rfl; apply w_done0; apply w_sq; apply w_reg; apply w_mvs; rfl; apply w_mvi; rfl; apply w_mvi; rfl; apply w_add; rfl; rfl; omega; omega; apply w_ldb 1; rfl; rfl; rfl)
          refine w_bsV rfl rfl (fun b81 T81 => ?_)
          refine w_frz (fun d3 hl3 hg3 => ?_)
          refine w_call0 rfl (h3 (i := n) (j := n + 1) (RVals.mono hr3 hl3) (yone (RVal.mono (hl1.trans hl2) hy0) hl3 hg3) (by omega) (by omega) (by simp only [List.length_singleton]; omega)) (fun r d4 L4 hl4 ⟨hL, hr4⟩ => ?_)
          subst hL
          obtain ⟨sa, sc, rfl⟩ := RSl.val hr4
          (apply w_bvKL; rfl; rfl)
          refine w_stE 0 [.int .i64 5, .int .i64 0, .int .i64 0, strV [], .slice sa _ sc, .slice none 0 0] rfl rfl rfl rfl (Nat.le_of_ble_eq_true rfl) rfl rfl ?_
          (apply w_mvi; rfl; apply w_done0; apply w_ret)
          exact finVDE 0 rfl rfl rfl (RVal.close (v := .mk 5 0 0 [] ((padL v.list (n + 1)).take n ++ [y] ++ (padL v.list (n + 1)).drop (n + 1)) []) i64_5 i64_0 i64_0 (by simp) hr4 RSl.nil)
        · have hpe : padL v.list (n + 1) = v.list := by simp [padL, show n + 1 - v.list.length = 0 by omega]
          rw [hpe]
          (apply w_mvi; rfl; apply w_done0; apply w_sq; apply w_sq; apply w_reg; apply w_mvi; rfl; apply w_lss; rfl; rfl; apply w_mvb; rfl; refine w_gdF rfl (by omega) ?_; apply w_gT; rfl; apply w_mvi; rfl; apply w_gT; rfl; apply w_gtr; rfl; rfl; apply w_pickFb; rfl; rfl; apply w_done0; refine w_ifdF rfl (by omega) ?_; apply w_skip; apply w_sq; apply w_reg; apply w_fld; rfl; apply w_ld; rfl; exact hc_i 3 rfl rfl; apply w_mvs; rfl; apply w_done0; apply w_sq; apply w_sq; apply w_reg; apply w_mvi; rfl; apply w_add; rfl; rfl; omega; omega; apply w_mvs; rfl; apply w_len; rfl; apply w_sub; rfl; rfl; omega; omega; apply w_mvi; rfl; apply w_done0; apply w_sq; apply w_reg; apply w_mvi; rfl; apply w_gtr; rfl; rfl; apply w_done0; refine w_ifdF rfl (by omega) ?_; apply w_skip; apply w_sq; apply w_reg; apply w_mvs; rfl; apply w_mvi; rfl; apply w_mvi; rfl; apply w_add; rfl; rfl; omega; omega; apply w_ldb 1; rfl; rfl; rfl)
          refine w_bsV rfl rfl (fun b81 T81 => ?_)
          refine w_frz (fun d3 hl3 hg3 => ?_)
          refine w_call0 rfl (h3 (i := n) (j := n + 1) (RVals.mono hl hl3) (yone hy0 hl3 hg3) (by omega) (by omega) (by simp only [List.length_singleton]; omega)) (fun r d4 L4 hl4 ⟨hL, hr4⟩ => ?_)
          subst hL
          obtain ⟨sa, sc, rfl⟩ := RSl.val hr4
          (apply w_bvKL; rfl; rfl)
          refine w_stE 0 [.int .i64 5, .int .i64 0, .int .i64 0, strV [], .slice sa _ sc, .slice none 0 0] rfl rfl rfl rfl (Nat.le_of_ble_eq_true rfl) rfl rfl ?_
          (apply w_mvi; rfl; apply w_done0; apply w_ret)
          exact finVDE 0 rfl rfl rfl (RVal.close (v := .mk 5 0 0 [] (v.list.take n ++ [y] ++ v.list.drop (n + 1)) []) i64_5 i64_0 i64_0 (by simp) hr4 RSl.nil)
      omega
    · rw [setF, if_neg (fun h => s0 h.1), if_neg (fun h => hk h.2), if_neg (fun h => by omega)] at hF; cases hF
      (apply w_sq; apply w_reg; apply w_fld; rfl; apply w_ld; rfl; exact hc_i 3 rfl rfl; apply w_eql; rfl; rfl; apply w_mvb; rfl; apply w_done0; apply w_sq; apply w_block; apply w_sq; apply w_reg; apply w_fld; rfl; apply w_ld; rfl; exact hc_i 2 rfl rfl; apply w_eql; rfl; rfl; apply w_mvb; rfl; refine w_gdF rfl (by omega) ?_; apply w_gF; rfl; apply w_gF; rfl; apply w_gU; rfl; apply w_gU; rfl; apply w_gU; rfl; apply w_gF; rfl; apply w_pickFb; rfl; rfl; apply w_mvb; rfl; apply w_done0; apply w_ifF; rfl; apply w_sq; apply w_reg; apply w_fld; rfl; apply w_ld; rfl; exact hc_i 2 rfl rfl; apply w_eql; rfl; rfl; apply w_mvb; rfl; refine w_gdT rfl (by omega) ?_; apply w_gT; rfl; apply w_mvb; rfl; apply w_gT; rfl; apply w_mvb; rfl; refine w_gdF rfl (by omega) ?_; apply w_gT; rfl; apply w_fld; rfl; apply w_gT; rfl; apply w_ld; rfl; exact hc_i 3 rfl rfl; apply w_gT; rfl; apply w_eql; rfl; rfl; apply w_gT; rfl; apply w_pickFb; rfl; rfl; apply w_pickTb; rfl; rfl; apply w_mvb; rfl; apply w_done0; refine w_ifdF rfl (by omega) ?_; apply w_sq; apply w_reg; apply w_fld; rfl; apply w_ld; rfl; exact hc_i 2 rfl rfl; apply w_eql; rfl; rfl; apply w_mvb; rfl; refine w_gdF rfl (by omega) ?_; apply w_gF; rfl; apply w_gF; rfl; apply w_gU; rfl; apply w_gU; rfl; apply w_gU; rfl; apply w_gF; rfl; apply w_pickFb; rfl; rfl; apply w_mvb; rfl; apply w_gF; rfl; apply w_gF; rfl; apply w_gF; rfl; apply w_pickFb; rfl; rfl; apply w_mvb; rfl; apply w_done0; apply w_ifF; rfl; apply w_skip; apply w_sq; apply w_reg; apply w_bvZ)
      refine w_stE 0 [.int .i64 0, .int .i64 0, .int .i64 0, strV [], .slice none 0 0, .slice none 0 0] rfl rfl rfl rfl (Nat.le_of_ble_eq_true rfl) rfl rfl ?_
      (apply w_mvi; rfl; apply w_done0; apply w_ret)
      exact finVDE 0 rfl rfl rfl RVal.zero
  by_cases s2 : s.kind = 2
  · by_cases hk : v.kind = 0 ∨ v.kind = 5
    · have hk2 := hk
      by_cases k0 : v.kind = 0
      · by_cases y5 : y.kind = 5
        · rw [setF, if_neg (fun h => s0 h.1), if_neg (fun h => s1 h.1), if_pos ⟨s2, hk, y5⟩] at hF; cases hF
          have hends := ends_le s (k := v.list.length) (by omega)
          have n1 := RSl.len_le hl
          (apply w_sq; apply w_reg; apply w_fld; rfl; apply w_ld; rfl; exact hc_i 3 rfl rfl; apply w_eql; rfl; rfl; apply w_mvb; rfl; apply w_done0; apply w_sq; apply w_block; apply w_sq; apply w_reg; apply w_fld; rfl; apply w_ld; rfl; exact hc_i 2 rfl rfl; apply w_eql; rfl; rfl; apply w_mvb; rfl; refine w_gdF rfl (by omega) ?_; apply w_gF; rfl; apply w_gF; rfl; apply w_gU; rfl; apply w_gU; rfl; apply w_gU; rfl; apply w_gF; rfl; apply w_pickFb; rfl; rfl; apply w_mvb; rfl; apply w_done0; apply w_ifF; rfl; apply w_sq; apply w_reg; apply w_fld; rfl; apply w_ld; rfl; exact hc_i 2 rfl rfl; apply w_eql; rfl; rfl; apply w_mvb; rfl; refine w_gdF rfl (by omega) ?_; apply w_gF; rfl; apply w_gF; rfl; apply w_gU; rfl; apply w_gU; rfl; apply w_gU; rfl; apply w_gF; rfl; apply w_pickFb; rfl; rfl; apply w_mvb; rfl; apply w_done0; apply w_ifF; rfl; apply w_sq; apply w_reg; apply w_fld; rfl; apply w_ld; rfl; exact hc_i 2 rfl rfl; apply w_eql; rfl; rfl; apply w_mvb; rfl; refine w_gdT rfl (by omega) ?_; apply w_gT; rfl; apply w_mvb; rfl; apply w_gT; rfl; apply w_mvb; rfl; refine w_gdT rfl (by omega) ?_; apply w_gF; rfl; apply w_gF; rfl; apply w_gF; rfl; apply w_gT; rfl; apply w_pickTb; rfl; rfl; apply w_pickTb; rfl; rfl; apply w_mvb; rfl; apply w_gT; rfl; apply w_fld; rfl; apply w_gT; rfl; apply w_ld; rfl; exact hc_i 1 rfl rfl; apply w_gT; rfl; apply w_eql; rfl; rfl; apply w_pickTb; rfl; rfl; apply w_mvb; rfl; apply w_done0; refine w_ifdT rfl (by omega) ?_; apply w_sq; apply w_reg; apply w_ldb 2; rfl; rfl; rfl; apply w_fld; rfl; apply w_ld; rfl; exact hc_i 3 rfl rfl; apply w_len; rfl)
          refine w_pure rfl (h4 hs (by omega) (by omega)) ?_
          obtain ⟨A, B, hab⟩ : ∃ A B : Int, endsF s v.list.length = (A, B) := ⟨_, _, rfl⟩
          rw [hab] at hends ⊢
          simp only at hends ⊢
          obtain ⟨a, rfl⟩ : ∃ a : Nat, A = (a : Int) := ⟨A.toNat, by omega⟩
          obtain ⟨b, rfl⟩ : ∃ b : Nat, B = (b : Int) := ⟨B.toNat, by omega⟩
          simp only [Int.toNat_natCast]
          (apply w_mvu; rfl; apply w_ext; rfl; rfl; apply w_ext; rfl; rfl; apply w_mvi; rfl; apply w_mvi; rfl; apply w_done0; apply w_sq; apply w_reg; apply w_fld; rfl; apply w_ld; rfl; exact hc_i 3 rfl rfl; apply w_mvi; rfl; apply w_mvi; rfl; apply w_fld; rfl; apply w_ld; rfl; exact hc_i 1 rfl rfl)
          refine w_call0 rfl (h3 (i := a) (j := b) hl yhl (by omega) (by omega) (by omega)) (fun r d4 L4 hl4 ⟨hL, hr4⟩ => ?_)
          subst hL
          obtain ⟨sa, sc, rfl⟩ := RSl.val hr4
          (apply w_bvKL; rfl; rfl)
          refine w_stE 0 [.int .i64 5, .int .i64 0, .int .i64 0, strV [], .slice sa _ sc, .slice none 0 0] rfl rfl rfl rfl (Nat.le_of_ble_eq_true rfl) rfl rfl ?_
          (apply w_mvi; rfl; apply w_done0; apply w_ret)
          exact finVDE 0 rfl rfl rfl (RVal.close (v := .mk 5 0 0 [] (v.list.take a ++ y.list ++ v.list.drop b) []) i64_5 i64_0 i64_0 (by simp) hr4 RSl.nil)
        · rw [setF, if_neg (fun h => s0 h.1), if_neg (fun h => s1 h.1), if_neg (fun h => y5 h.2.2)] at hF; cases hF
          (apply w_sq; apply w_reg; apply w_fld; rfl; apply w_ld; rfl; exact hc_i 3 rfl rfl; apply w_eql; rfl; rfl; apply w_mvb; rfl; apply w_done0; apply w_sq; apply w_block; apply w_sq; apply w_reg; apply w_fld; rfl; apply w_ld; rfl; exact hc_i 2 rfl rfl; apply w_eql; rfl; rfl; apply w_mvb; rfl; refine w_gdF rfl (by omega) ?_; apply w_gF; rfl; apply w_gF; rfl; apply w_gU; rfl; apply w_gU; rfl; apply w_gU; rfl; apply w_gF; rfl; apply w_pickFb; rfl; rfl; apply w_mvb; rfl; apply w_done0; apply w_ifF; rfl; apply w_sq; apply w_reg; apply w_fld; rfl; apply w_ld; rfl; exact hc_i 2 rfl rfl; apply w_eql; rfl; rfl; apply w_mvb; rfl; refine w_gdF rfl (by omega) ?_; apply w_gF; rfl; apply w_gF; rfl; apply w_gU; rfl; apply w_gU; rfl; apply w_gU; rfl; apply w_gF; rfl; apply w_pickFb; rfl; rfl; apply w_mvb; rfl; apply w_done0; apply w_ifF; rfl; apply w_sq; apply w_reg; apply w_fld; rfl; apply w_ld; rfl; exact hc_i 2 rfl rfl; apply w_eql; rfl; rfl; apply w_mvb; rfl; refine w_gdT rfl (by omega) ?_; apply w_gT; rfl; apply w_mvb; rfl; apply w_gT; rfl; apply w_mvb; rfl; refine w_gdT rfl (by omega) ?_; apply w_gF; rfl; apply w_gF; rfl; apply w_gF; rfl; apply w_gT; rfl; apply w_pickTb; rfl; rfl; apply w_pickTb; rfl; rfl; apply w_mvb; rfl; apply w_gT; rfl; apply w_fld; rfl; apply w_gT; rfl; apply w_ld; rfl; exact hc_i 1 rfl rfl; apply w_gT; rfl; apply w_eql; rfl; rfl; apply w_pickTb; rfl; rfl; apply w_mvb; rfl; apply w_done0; refine w_ifdF rfl (by omega) ?_; apply w_skip; apply w_sq; apply w_reg; apply w_bvZ)
          refine w_stE 0 [.int .i64 0, .int .i64 0, .int .i64 0, strV [], .slice none 0 0, .slice none 0 0] rfl rfl rfl rfl (Nat.le_of_ble_eq_true rfl) rfl rfl ?_
          (apply w_mvi; rfl; apply w_done0; apply w_ret)
          exact finVDE 0 rfl rfl rfl RVal.zero
      by_cases k6 : v.kind ≠ 0
      · by_cases y5 : y.kind = 5
        · rw [setF, if_neg (fun h => s0 h.1), if_neg (fun h => s1 h.1), if_pos ⟨s2, hk, y5⟩] at hF; cases hF
          have hends := ends_le s (k := v.list.length) (by omega)
          have n1 := RSl.len_le hl
          (apply w_sq; apply w_reg; apply w_fld; rfl; apply w_ld; rfl; exact hc_i 3 rfl rfl; apply w_eql; rfl; rfl; apply w_mvb; rfl; apply w_done0; apply w_sq; apply w_block; apply w_sq; apply w_reg; apply w_fld; rfl; apply w_ld; rfl; exact hc_i 2 rfl rfl; apply w_eql; rfl; rfl; apply w_mvb; rfl; refine w_gdF rfl (by omega) ?_; apply w_gF; rfl; apply w_gF; rfl; apply w_gU; rfl; apply w_gU; rfl; apply w_gU; rfl; apply w_gF; rfl; apply w_pickFb; rfl; rfl; apply w_mvb; rfl; apply w_done0; apply w_ifF; rfl; apply w_sq; apply w_reg; apply w_fld; rfl; apply w_ld; rfl; exact hc_i 2 rfl rfl; apply w_eql; rfl; rfl; apply w_mvb; rfl; refine w_gdF rfl (by omega) ?_; apply w_gF; rfl; apply w_gF; rfl; apply w_gU; rfl; apply w_gU; rfl; apply w_gU; rfl; apply w_gF; rfl; apply w_pickFb; rfl; rfl; apply w_mvb; rfl; apply w_done0; apply w_ifF; rfl; apply w_sq; apply w_reg; apply w_fld; rfl; apply w_ld; rfl; exact hc_i 2 rfl rfl; apply w_eql; rfl; rfl; apply w_mvb; rfl; refine w_gdT rfl (by omega) ?_; apply w_gT; rfl; apply w_mvb; rfl; apply w_gT; rfl; apply w_mvb; rfl; refine w_gdF rfl (by omega) ?_; apply w_gT; rfl; apply w_fld; rfl; apply w_gT; rfl; apply w_ld; rfl; exact hc_i 3 rfl rfl; apply w_gT; rfl; apply w_eql; rfl; rfl; apply w_gT; rfl; apply w_pickFb; rfl; rfl; apply w_pickTb; rfl; rfl; apply w_mvb; rfl; refine w_gdT rfl (by omega) ?_; apply w_gT; rfl; apply w_fld; rfl; apply w_gT; rfl; apply w_ld; rfl; exact hc_i 1 rfl rfl; apply w_gT; rfl; apply w_eql; rfl; rfl; apply w_pickTb; rfl; rfl; apply w_mvb; rfl; apply w_done0; refine w_ifdT rfl (by omega) ?_; apply w_sq; apply w_reg; apply w_ldb 2; rfl; rfl; rfl; apply w_fld; rfl; apply w_ld; rfl; exact hc_i 3 rfl rfl; apply w_len; rfl)
          refine w_pure rfl (h4 hs (by omega) (by omega)) ?_
          obtain ⟨A, B, hab⟩ : ∃ A B : Int, endsF s v.list.length = (A, B) := ⟨_, _, rfl⟩
          rw [hab] at hends ⊢
          simp only at hends ⊢
          obtain ⟨a, rfl⟩ : ∃ a : Nat, A = (a : Int) := ⟨A.toNat, by omega⟩
          obtain ⟨b, rfl⟩ : ∃ b : Nat, B = (b : Int) := ⟨B.toNat, by omega⟩
          simp only [Int.toNat_natCast]
          (apply w_mvu; rfl; apply w_ext; rfl; rfl; apply w_ext; rfl; rfl; apply w_mvi; rfl; apply w_mvi; rfl; apply w_done0; apply w_sq; apply w_reg; apply w_fld; rfl; apply w_ld; rfl; exact hc_i 3 rfl rfl; apply w_mvi; rfl; apply w_mvi; rfl; apply w_fld; rfl; apply w_ld; rfl; exact hc_i 1 rfl rfl)
          refine w_call0 rfl (h3 (i := a) (j := b) hl yhl (by omega) (by omega) (by omega)) (fun r d4 L4 hl4 ⟨hL, hr4⟩ => ?_)
          subst hL
          obtain ⟨sa, sc, rfl⟩ := RSl.val hr4
          (apply w_bvKL; rfl; rfl)
          refine w_stE 0 [.int .i64 5, .int .i64 0, .int .i64 0, strV [], .slice sa _ sc, .slice none 0 0] rfl rfl rfl rfl (Nat.le_of_ble_eq_true rfl) rfl rfl ?_
          (apply w_mvi; rfl; apply w_done0; apply w_ret)
          exact finVDE 0 rfl rfl rfl (RVal.close (v := .mk 5 0 0 [] (v.list.take a ++ y.list ++ v.list.drop b) []) i64_5 i64_0 i64_0 (by simp) hr4 RSl.nil)
        · rw [setF, if_neg (fun h => s0 h.1), if_neg (fun h => s1 h.1), if_neg (fun h => y5 h.2.2)] at hF; cases hF
          (apply w_sq; apply w_reg; apply w_fld; rfl; apply w_ld; rfl; exact hc_i 3 rfl rfl; apply w_eql; rfl; rfl; apply w_mvb; rfl; apply w_done0; apply w_sq; apply w_block; apply w_sq; apply w_reg; apply w_fld; rfl; apply w_ld; rfl; exact hc_i 2 rfl rfl; apply w_eql; rfl; rfl; apply w_mvb; rfl; refine w_gdF rfl (by omega) ?_; apply w_gF; rfl; apply w_gF; rfl; apply w_gU; rfl; apply w_gU; rfl; apply w_gU; rfl; apply w_gF; rfl; apply w_pickFb; rfl; rfl; apply w_mvb; rfl; apply w_done0; apply w_ifF; rfl; apply w_sq; apply w_reg; apply w_fld; rfl; apply w_ld; rfl; exact hc_i 2 rfl rfl; apply w_eql; rfl; rfl; apply w_mvb; rfl; refine w_gdF rfl (by omega) ?_; apply w_gF; rfl; apply w_gF; rfl; apply w_gU; rfl; apply w_gU; rfl; apply w_gU; rfl; apply w_gF; rfl; apply w_pickFb; rfl; rfl; apply w_mvb; rfl; apply w_done0; apply w_ifF; rfl; apply w_sq; apply w_reg; apply w_fld; rfl; apply w_ld; rfl; exact hc_i 2 rfl rfl; apply w_eql; rfl; rfl; apply w_mvb; rfl; refine w_gdT rfl (by omega) ?_; apply w_gT; rfl; apply w_mvb; rfl; apply w_gT; rfl; apply w_mvb; rfl; refine w_gdF rfl (by omega) ?_; apply w_gT; rfl; apply w_fld; rfl; apply w_gT; rfl; apply w_ld; rfl; exact hc_i 3 rfl rfl; apply w_gT; rfl; apply w_eql; rfl; rfl; apply w_gT; rfl; apply w_pickFb; rfl; rfl; apply w_pickTb; rfl; rfl; apply w_mvb; rfl; refine w_gdT rfl (by omega) ?_; apply w_gT; rfl; apply w_fld; rfl; apply w_gT; rfl; apply w_ld; rfl; exact hc_i 1 rfl rfl; apply w_gT; rfl; apply w_eql; rfl; rfl; apply w_pickTb; rfl; rfl; apply w_mvb; rfl; apply w_done0; refine w_ifdF rfl (by omega) ?_; apply w_skip; apply w_sq; apply w_reg; apply w_bvZ)
          refine w_stE 0 [.int .i64 0, .int .i64 0, .int .i64 0, strV [], .slice none 0 0, .slice none 0 0] rfl rfl rfl rfl (Nat.le_of_ble_eq_true rfl) rfl rfl ?_
          (apply w_mvi; rfl; apply w_done0; apply w_ret)
          exact finVDE 0 rfl rfl rfl RVal.zero
      omega
    · rw [setF, if_neg (fun h => s0 h.1), if_neg (fun h => s1 h.1), if_neg (fun h => hk h.2.1)] at hF; cases hF
      (apply w_sq; apply w_reg; apply w_fld; rfl; apply w_ld; rfl; exact hc_i 3 rfl rfl; apply w_eql; rfl; rfl; apply w_mvb; rfl; apply w_done0; apply w_sq; apply w_block; apply w_sq; apply w_reg; apply w_fld; rfl; apply w_ld; rfl; exact hc_i 2 rfl rfl; apply w_eql; rfl; rfl; apply w_mvb; rfl; refine w_gdF rfl (by omega) ?_; apply w_gF; rfl; apply w_gF; rfl; apply w_gU; rfl; apply w_gU; rfl; apply w_gU; rfl; apply w_gF; rfl; apply w_pickFb; rfl; rfl; apply w_mvb; rfl; apply w_done0; apply w_ifF; rfl; apply w_sq; apply w_reg; apply w_fld; rfl; apply w_ld; rfl; exact hc_i 2 rfl rfl; apply w_eql; rfl; rfl; apply w_mvb; rfl; refine w_gdF rfl (by omega) ?_; apply w_gF; rfl; apply w_gF; rfl; apply w_gU; rfl; apply w_gU; rfl; apply w_gU; rfl; apply w_gF; rfl; apply w_pickFb; rfl; rfl; apply w_mvb; rfl; apply w_done0; apply w_ifF; rfl; apply w_sq; apply w_reg; apply w_fld; rfl; apply w_ld; rfl; exact hc_i 2 rfl rfl; apply w_eql; rfl; rfl; apply w_mvb; rfl; refine w_gdT rfl (by omega) ?_; apply w_gT; rfl; apply w_mvb; rfl; apply w_gT; rfl; apply w_mvb; rfl; refine w_gdF rfl (by omega) ?_; apply w_gT; rfl; apply w_fld; rfl; apply w_gT; rfl; apply w_ld; rfl; exact hc_i 3 rfl rfl; apply w_gT; rfl; apply w_eql; rfl; rfl; apply w_gT; rfl; apply w_pickFb; rfl; rfl; apply w_pickTb; rfl; rfl; apply w_mvb; rfl; refine w_gdF rfl (by omega) ?_; apply w_gF; rfl; apply w_gF; rfl; apply w_gF; rfl; apply w_pickFb; rfl; rfl; apply w_mvb; rfl; apply w_done0; apply w_ifF; rfl; apply w_skip; apply w_sq; apply w_reg; apply w_bvZ)
      refine w_stE 0 [.int .i64 0, .int .i64 0, .int .i64 0, strV [], .slice none 0 0, .slice none 0 0] rfl rfl rfl rfl (Nat.le_of_ble_eq_true rfl) rfl rfl ?_
      (apply w_mvi; rfl; apply w_done0; apply w_ret)
      exact finVDE 0 rfl rfl rfl RVal.zero
  rw [setF, if_neg (fun h => s0 h.1), if_neg (fun h => s1 h.1), if_neg (fun h => s2 h.1)] at hF; cases hF
  by_cases k0 : v.kind = 0
  · (apply w_sq; apply w_reg; apply w_fld; rfl; apply w_ld; rfl; exact hc_i 3 rfl rfl; apply w_eql; rfl; rfl; apply w_mvb; rfl; apply w_done0; apply w_sq; apply w_block; apply w_sq; apply w_reg; apply w_fld; rfl; apply w_ld; rfl; exact hc_i 2 rfl rfl; apply w_eql; rfl; rfl; apply w_mvb; rfl; refine w_gdF rfl (by omega) ?_; apply w_gF; rfl; apply w_gF; rfl; apply w_gU; rfl; apply w_gU; rfl; apply w_gU; rfl; apply w_gF; rfl; apply w_pickFb; rfl; rfl; apply w_mvb; rfl; apply w_done0; apply w_ifF; rfl; apply w_sq; apply w_reg; apply w_fld; rfl; apply w_ld; rfl; exact hc_i 2 rfl rfl; apply w_eql; rfl; rfl; apply w_mvb; rfl; refine w_gdF rfl (by omega) ?_; apply w_gF; rfl; apply w_gF; rfl; apply w_gU; rfl; apply w_gU; rfl; apply w_gU; rfl; apply w_gF; rfl; apply w_pickFb; rfl; rfl; apply w_mvb; rfl; apply w_done0; apply w_ifF; rfl; apply w_sq; apply w_reg; apply w_fld; rfl; apply w_ld; rfl; exact hc_i 2 rfl rfl; apply w_eql; rfl; rfl; apply w_mvb; rfl; refine w_gdF rfl (by omega) ?_; apply w_gF; rfl; apply w_gF; rfl; apply w_gU; rfl; apply w_gU; rfl; apply w_gU; rfl; apply w_gF; rfl; apply w_pickFb; rfl; rfl; apply w_mvb; rfl; apply w_gF; rfl; apply w_gF; rfl; apply w_gF; rfl; apply w_pickFb; rfl; rfl; apply w_mvb; rfl; apply w_done0; apply w_ifF; rfl; apply w_skip; apply w_sq; apply w_reg; apply w_bvZ)
    refine w_stE 0 [.int .i64 0, .int .i64 0, .int .i64 0, strV [], .slice none 0 0, .slice none 0 0] rfl rfl rfl rfl (Nat.le_of_ble_eq_true rfl) rfl rfl ?_
    (apply w_mvi; rfl; apply w_done0; apply w_ret)
    exact finVDE 0 rfl rfl rfl RVal.zero
  · (apply w_sq; apply w_reg; apply w_fld; rfl; apply w_ld; rfl; exact hc_i 3 rfl rfl; apply w_eql; rfl; rfl; apply w_mvb; rfl; apply w_done0; apply w_sq; apply w_block; apply w_sq; apply w_reg; apply w_fld; rfl; apply w_ld; rfl; exact hc_i 2 rfl rfl; apply w_eql; rfl; rfl; apply w_mvb; rfl; refine w_gdF rfl (by omega) ?_; apply w_gF; rfl; apply w_gF; rfl; apply w_gU; rfl; apply w_gU; rfl; apply w_gU; rfl; apply w_gF; rfl; apply w_pickFb; rfl; rfl; apply w_mvb; rfl; apply w_done0; apply w_ifF; rfl; apply w_sq; apply w_reg; apply w_fld; rfl; apply w_ld; rfl; exact hc_i 2 rfl rfl; apply w_eql; rfl; rfl; apply w_mvb; rfl; refine w_gdF rfl (by omega) ?_; apply w_gF; rfl; apply w_gF; rfl; apply w_gU; rfl; apply w_gU; rfl; apply w_gU; rfl; apply w_gF; rfl; apply w_pickFb; rfl; rfl; apply w_mvb; rfl; apply w_done0; apply w_ifF; rfl; apply w_sq; apply w_reg; apply w_fld; rfl; apply w_ld; rfl; exact hc_i 2 rfl rfl; apply w_eql; rfl; rfl; apply w_mvb; rfl; refine w_gdF rfl (by omega) ?_; apply w_gF; rfl; apply w_gF; rfl; apply w_gU; rfl; apply w_gU; rfl; apply w_gU; rfl; apply w_gF; rfl; apply w_pickFb; rfl; rfl; apply w_mvb; rfl; apply w_gF; rfl; apply w_gF; rfl; apply w_gF; rfl; apply w_pickFb; rfl; rfl; apply w_mvb; rfl; apply w_done0; apply w_ifF; rfl; apply w_skip; apply w_sq; apply w_reg; apply w_bvZ)
    refine w_stE 0 [.int .i64 0, .int .i64 0, .int .i64 0, strV [], .slice none 0 0, .slice none 0 0] rfl rfl rfl rfl (Nat.le_of_ble_eq_true rfl) rfl rfl ?_
    (apply w_mvi; rfl; apply w_done0; apply w_ret)
    exact finVDE 0 rfl rfl rfl RVal.zero
end Go.Gk.Val
end

section
/-
  Ways: something is put.
-/
namespace Go.Gk.Val
open Go Go.Gk Go.Gk.Utf
attribute [local irreducible] gwp gws

def putF : V → List St → V → V × Int
  | _, [], x => (x, 0)
  | v, s :: l, x => if (intoF v s).2 ≠ 0 then (V.zero, (intoF v s).2) else if (putF (intoF v s).1 l x).2 ≠ 0 then (V.zero, (putF (intoF v s).1 l x).2) else setF v s (putF (intoF v s).1 l x).1
theorem into_txt (v : V) (s : St) : txtV (intoF v s).1 ≤ txtV v := by
  have h3 := txtV_eq v
  have hz : txtV V.zero = 1 := by decide
  have hg : ∀ i : Nat, txtV (v.list.getD i V.zero) ≤ txtV v := fun i => by
    by_cases hi : i < v.list.length
    · rw [show v.list.getD i V.zero = v.list[i] by simp [hi]]
      have := txts_mem (List.getElem_mem hi)
      omega
    · rw [show v.list.getD i V.zero = V.zero by simp [hi], hz]; exact txt_pos v
  unfold intoF
  split
  · simp only [hz]; exact txt_pos v
  split
  · simp only
    split
    · exact hg _
    · rw [hz]; exact txt_pos v
  split
  · simp only [nthV]
    split
    · exact hg _
    · rw [hz]; exact txt_pos v
  split
  · rw [txtV_eq]
    have h5 := txts_take (v.list.drop (endsF s v.list.length).1.toNat) ((endsF s v.list.length).2.toNat - (endsF s v.list.length).1.toNat)
    have h6 := txts_drop v.list (endsF s v.list.length).1.toNat
    show 1 + 0 + 0 + txts (midL v.list (endsF s v.list.length)) ≤ txtV v
    simp only [midL]
    omega
  split
  · rw [txtV_eq]
    have h5 := part_len (l := v.text) (endsF s (chs v.text).length).1.toNat ((endsF s (chs v.text).length).2.toNat - (endsF s (chs v.text).length).1.toNat)
    show 1 + (midL (chs v.text) (endsF s (chs v.text).length)).flatten.length + 0 + 0 ≤ txtV v
    simp only [midL]
    omega
  · simp only [hz]; exact txt_pos v
theorem cnts_app : ∀ a b : List V, cnts (a ++ b) = cnts a + cnts b
  | [], b => by simp [cnts]
  | x :: a, b => by simp only [List.cons_append, cnts, cnts_app a b]; omega
theorem cnts_cut {l : List V} {i j : Nat} (h : i ≤ j) : cnts (l.take i) + cnts (l.drop j) ≤ cnts l := by
  have h1 := cnts_app (l.take i) (l.drop i)
  rw [List.take_append_drop] at h1
  have h2 := cnts_app ((l.drop i).take (j - i)) ((l.drop i).drop (j - i))
  rw [List.take_append_drop, List.drop_drop, show i + (j - i) = j by omega] at h2
  omega
theorem cnts_rep (n : Nat) : cnts (List.replicate n V.zero) = n := by
  induction n with
  | zero => rfl
  | succ n ih =>
    rw [List.replicate_succ]
    have : cntV V.zero = 1 := by decide
    simp only [cnts, ih, this]; omega
theorem set_cnt (v : V) (s : St) (y : V) : cntV (setF v s y).1 ≤ cntV v + cntV y + 4100 := by
  have h3 := cntV_eq v
  have hy := cntV_eq y
  have hz : cntV V.zero = 1 := by decide
  unfold setF
  split
  · simp only [keyedF]
    have hlt : lowK v.keys s.text ≤ toK v.keys s.text := by unfold toK; split <;> omega
    have h4 := cnts_cut (l := v.list) hlt
    have h5 : (v.keys.take (lowK v.keys s.text)).length + (v.keys.drop (toK v.keys s.text)).length ≤ v.keys.length := by simp; omega
    rw [cntV_eq]
    show 1 + (v.keys.take (lowK v.keys s.text) ++ [s.text] ++ v.keys.drop (toK v.keys s.text)).length + cnts (v.list.take (lowK v.keys s.text) ++ [y] ++ v.list.drop (toK v.keys s.text)) ≤ _
    rw [cnts_app, cnts_app]
    simp only [List.length_append, List.length_singleton, cnts]
    omega
  split
  · split
    · simp only [hz]; omega
    · rename_i hp
      obtain ⟨n, hn⟩ : ∃ n : Nat, placeF s.src v.list.length = (n : Int) := ⟨(placeF s.src v.list.length).toNat, by omega⟩
      rw [hn] at hp ⊢
      simp only [Int.toNat_natCast]
      have h4 := cnts_cut (l := padL v.list (n + 1)) (show n ≤ n + 1 by omega)
      have h5 : cnts (padL v.list (n + 1)) ≤ cnts v.list + (n + 1) := by rw [padL, cnts_app, cnts_rep]; omega
      rw [cntV_eq]
      show 1 + 0 + cnts ((padL v.list (n + 1)).take n ++ [y] ++ (padL v.list (n + 1)).drop (n + 1)) ≤ _
      rw [cnts_app, cnts_app]
      simp only [cnts]
      omega
  split
  · have he := ends_le s (k := v.list.length) (by omega)
    have h4 := cnts_cut (l := v.list) (show (endsF s v.list.length).1.toNat ≤ (endsF s v.list.length).2.toNat by omega)
    rw [cntV_eq]
    show 1 + 0 + cnts (v.list.take (endsF s v.list.length).1.toNat ++ y.list ++ v.list.drop (endsF s v.list.length).2.toNat) ≤ _
    rw [cnts_app, cnts_app]
    omega
  · simp only [hz]; omega
theorem cnt_pos (v : V) : 1 ≤ cntV v := by have := cntV_eq v; omega
theorem put_cnt : ∀ (l : List St) (v x : V), txtV v ≤ 1000000 → cntV (putF v l x).1 ≤ cntV x + l.length * 1004100
  | [], v, x, _ => by simp [putF]
  | s :: l, v, x, hb => by
    have hz : cntV V.zero = 1 := by decide
    have h1 := cnt_pos x
    have h2 := put_cnt l (intoF v s).1 x (Nat.le_trans (into_txt v s) hb)
    have h3 := set_cnt v s (putF (intoF v s).1 l x).1
    have h4 := cnt_txt v
    simp only [putF, List.length_cons]
    split
    · simp only [hz]; omega
    split
    · simp only [hz]; omega
    · omega
def PutROk (P : Program) (f : FuncId) : Prop := ∀ (l : List St) {d : PHeap} {cs es : List Value} {w : Value} {v x : V}, RVal d cs v → Gd v → txtV v ≤ 1000000 → RSl 6 RSt d w l → RVal d es x → cntV x ≤ 1000000 → l.length ≤ 100 →
  GCall P f [.agg cs.toArray, w, .agg es.toArray] d [] (Ret fun r d' L' => L' = [] ∧ ∃ cs', r = .tuple #[.agg cs'.toArray, .int .i64 (putF v l x).2] ∧ RVal d' cs' (putF v l x).1)
def g_steps_put (f_steps_into f_steps_put f_steps_set : Nat) : GFun :=
 ⟨46, [(.cell 6 (some 6)), (.tmp 7)],
 (.seq
 (.reg false (.op false ⟨(some 3), none, (.box (.tmp 0))⟩
  (.op false ⟨(some 5), none, (.box (.tmp 2))⟩
  (.op false ⟨(some 6), none, (.alo (.agg #[(.int .i64 0), (.int .i64 0), (.int .i64 0), (strV []), (.slice none 0 0), (.slice none 0 0)]))⟩
  (.op false ⟨(some 7), none, (.mv (.const (.int .i64 0)))⟩ .done)))))
 (.seq (.seq
 (.reg false (.op false ⟨(some 10), none, (.mv (.tmp 1))⟩
  (.op false ⟨(some 11), none, (.len (.tmp 10))⟩
  (.op false ⟨(some 12), none, (.bin .eql (.tmp 11) (.const (.int .i64 0)))⟩ .done)))) (.cond (.tmp 12)
 (.seq
 (.reg false (.op false ⟨(some 13), none, (.ld (some 6) (.tmp 5))⟩
  (.op false ⟨none, none, (.st 6 (.tmp 6) (.tmp 13))⟩
  (.op false ⟨(some 7), none, (.mv (.const (.int .i64 0)))⟩ .done)))) .ret) .skip))
 (.seq
 (.reg true (.op true ⟨(some 15), none, (.ld (some 6) (.tmp 3))⟩
  (.op true ⟨(some 16), none, (.mv (.tmp 1))⟩
  (.op true ⟨(some 17), none, (.idx 6 (.tmp 16) (.const (.int .i64 0)))⟩
  (.op true ⟨(some 18), none, (.ld (some 6) (.tmp 17))⟩
  (.alt ⟨(some 19), none, (.call f_steps_into [(.tmp 15), (.tmp 18)])⟩
  (.op true ⟨(some 14), none, (.mv (.tmp 19))⟩
  (.op true ⟨(some 20), none, (.ext (.tmp 14) 0)⟩
  (.op true ⟨(some 21), none, (.ext (.tmp 14) 1)⟩
  (.op false ⟨(some 8), none, (.alo (.agg #[(.int .i64 0), (.int .i64 0), (.int .i64 0), (strV []), (.slice none 0 0), (.slice none 0 0)]))⟩
  (.op false ⟨none, none, (.st 6 (.tmp 8) (.tmp 20))⟩
  (.op true ⟨(some 9), none, (.mv (.tmp 21))⟩ .done)))))) (.op false ⟨(some 8), none, (.alo (.agg #[(.int .i64 0), (.int .i64 0), (.int .i64 0), (strV []), (.slice none 0 0), (.slice none 0 0)]))⟩
  (.op false ⟨(some 19), none, (.call f_steps_into [(.tmp 15), (.tmp 18)])⟩
  (.op true ⟨(some 14), none, (.mv (.tmp 19))⟩
  (.op true ⟨(some 20), none, (.ext (.tmp 14) 0)⟩
  (.op true ⟨(some 21), none, (.ext (.tmp 14) 1)⟩
  (.op false ⟨none, none, (.st 6 (.tmp 8) (.tmp 20))⟩
  (.op true ⟨(some 9), none, (.mv (.tmp 21))⟩ .done)))))))))))))
 (.seq (.seq
 (.reg false (.op false ⟨(some 22), none, (.mv (.tmp 9))⟩
  (.op false ⟨(some 23), none, (.bin .neq (.tmp 22) (.const (.int .i64 0)))⟩ .done))) (.cond (.tmp 23)
 (.seq
 (.reg false (.op false ⟨(some 24), none, (.bld [(0, 1), (1, 2), (3, 1), (4, 1), (5, 1)] [(.int .i64 0), (.int .i64 0), (.int .i64 0), (strV []), (.slice none 0 0), (.slice none 0 0)] [])⟩
  (.op false ⟨(some 25), none, (.mv (.tmp 9))⟩
  (.op false ⟨none, none, (.st 6 (.tmp 6) (.tmp 24))⟩
  (.op false ⟨(some 7), none, (.mv (.tmp 25))⟩ .done))))) .ret) .skip))
 (.seq
 (.reg true (.op true ⟨(some 28), none, (.mv (.tmp 1))⟩
  (.op true ⟨(some 29), none, (.sl 6 (.tmp 28) (some (.const (.int .i64 1))) none none)⟩
  (.op true ⟨(some 30), none, (.ld (some 6) (.tmp 5))⟩
  (.op false ⟨(some 27), none, (.ld (some 6) (.tmp 8))⟩
  (.op false ⟨(some 31), none, (.call f_steps_put [(.tmp 27), (.tmp 29), (.tmp 30)])⟩
  (.op true ⟨(some 26), none, (.mv (.tmp 31))⟩
  (.op true ⟨(some 32), none, (.ext (.tmp 26) 0)⟩
  (.op true ⟨(some 33), none, (.ext (.tmp 26) 1)⟩
  (.op false ⟨none, none, (.st 6 (.tmp 8) (.tmp 32))⟩
  (.op true ⟨(some 9), none, (.mv (.tmp 33))⟩ .done)))))))))))
 (.seq (.seq
 (.reg false (.op false ⟨(some 34), none, (.mv (.tmp 9))⟩
  (.op false ⟨(some 35), none, (.bin .neq (.tmp 34) (.const (.int .i64 0)))⟩ .done))) (.cond (.tmp 35)
 (.seq
 (.reg false (.op false ⟨(some 36), none, (.bld [(0, 1), (1, 2), (3, 1), (4, 1), (5, 1)] [(.int .i64 0), (.int .i64 0), (.int .i64 0), (strV []), (.slice none 0 0), (.slice none 0 0)] [])⟩
  (.op false ⟨(some 37), none, (.mv (.tmp 9))⟩
  (.op false ⟨none, none, (.st 6 (.tmp 6) (.tmp 36))⟩
  (.op false ⟨(some 7), none, (.mv (.tmp 37))⟩ .done))))) .ret) .skip))
 (.seq
 (.reg true (.op true ⟨(some 38), none, (.ld (some 6) (.tmp 3))⟩
  (.op true ⟨(some 39), none, (.mv (.tmp 1))⟩
  (.op true ⟨(some 40), none, (.idx 6 (.tmp 39) (.const (.int .i64 0)))⟩
  (.op true ⟨(some 41), none, (.ld (some 6) (.tmp 40))⟩
  (.op true ⟨(some 42), none, (.ld (some 6) (.tmp 8))⟩
  (.op false ⟨(some 43), none, (.call f_steps_set [(.tmp 38), (.tmp 41), (.tmp 42)])⟩
  (.op true ⟨(some 44), none, (.ext (.tmp 43) 0)⟩
  (.op true ⟨(some 45), none, (.ext (.tmp 43) 1)⟩
  (.bar (.op false ⟨none, none, (.st 6 (.tmp 6) (.tmp 44))⟩
  (.op true ⟨(some 7), none, (.mv (.tmp 45))⟩ .done)))))))))))) .ret)))))))⟩

set_option maxHeartbeats 2000000 in
theorem putr_ok {P : Program} {f f1 f2 : FuncId} (hd : dec P f = some (g_steps_put f1 f f2)) (h1 : IntoOk P f1) (h2 : SetOk P f2) : PutROk P f := by
  intro l
  induction l with
  | nil =>
    intro d cs es w v x hv hg hb hw hx hbx hll
    obtain ⟨a, c, rfl⟩ := RSl.val hw
    refine GCall_of hd (Nat.le_of_ble_eq_true rfl) ?_
    obtain ⟨c0, c1, c2, c3, c4, c5, rfl⟩ := six hv.len
    obtain ⟨x0, x1, x2, x3, x4, x5, rfl⟩ := six hx.len
    show gwp P _ _ _ _ _
    apply w_sq; apply w_reg
    refine w_boxa (l := [c0, c1, c2, c3, c4, c5]) rfl (fun b3 T3 => ?_)
    refine w_boxa (l := [x0, x1, x2, x3, x4, x5]) rfl (fun b5 T5 => ?_)
    have hz : (([] : List St).length : Int) = 0 := rfl
    (apply w_alo; intro _ _; apply w_mvi; rfl; apply w_done0; apply w_sq; apply w_sq; apply w_reg; apply w_mvs; rfl; apply w_len; rfl; apply w_eql; rfl; rfl; apply w_done0; refine w_ifdT rfl (by omega) ?_; apply w_sq; apply w_reg; apply w_ldb 1; rfl; rfl; rfl)
    refine w_stE 0 [x0, x1, x2, x3, x4, x5] rfl rfl rfl rfl (Nat.le_of_ble_eq_true rfl) (cell1_val _ _ _ hx) rfl ?_
    (apply w_mvi; rfl; apply w_done0; apply w_ret)
    exact finVDE 0 rfl rfl rfl hx
  | cons s l ih =>
    intro d cs es w v x hv hg hb hw hx hbx hll
    have n1 := RSl.len_le hw
    obtain ⟨a, c, rfl⟩ := RSl.val hw
    have hw' := hw
    have hcnt := put_cnt l (intoF v s).1 x (Nat.le_trans (into_txt v s) hb)
    have hcb := cnt_txt v
    have hlc : ((s :: l).length : Int) = l.length + 1 := by simp
    rw [List.length_cons] at hll
    refine GCall_of hd (Nat.le_of_ble_eq_true rfl) ?_
    obtain ⟨c0, c1, c2, c3, c4, c5, rfl⟩ := six hv.len
    obtain ⟨x0, x1, x2, x3, x4, x5, rfl⟩ := six hx.len
    show gwp P _ _ _ _ _
    apply w_sq; apply w_reg
    refine w_boxa (l := [c0, c1, c2, c3, c4, c5]) rfl (fun b3 T3 => ?_)
    refine w_boxa (l := [x0, x1, x2, x3, x4, x5]) rfl (fun b5 T5 => ?_)
    (apply w_alo; intro _ _; apply w_mvi; rfl; apply w_done0)
    rename_i b6 T6
    apply w_sq; apply w_sq; apply w_reg
    (apply w_mvs; rfl; apply w_len; rfl; apply w_eql; rfl; rfl; apply w_done0)
    refine w_ifdF rfl (by omega) ?_
    apply w_skip
    refine w_mid (fun ρ d' L' => d' = d ∧ ∃ b8 T8 e0 e1 e2 e3 e4 e5, SlotsAre ρ [(1, .slice a (s :: l).length c), (3, .pointer (some ⟨b3, 0, none⟩)), (5, .pointer (some ⟨b5, 0, none⟩)), (6, .pointer (some ⟨b6, 0, none⟩)), (8, .pointer (some ⟨b8, 0, none⟩)), (9, .int .i64 (intoF v s).2)] ∧ RVal d [e0, e1, e2, e3, e4, e5] (intoF v s).1 ∧
      L' = [bx b6 T6 [.int .i64 0, .int .i64 0, .int .i64 0, strV [], .slice none 0 0, .slice none 0 0], bx b5 T5 [x0, x1, x2, x3, x4, x5], bx b3 T3 [c0, c1, c2, c3, c4, c5], bx b8 T8 [e0, e1, e2, e3, e4, e5]]) ?_ ?_
    · refine w_drawn ?_
      (apply w_ldb 2; rfl; rfl; rfl; apply w_mvs; rfl; refine w_idxR (m := 0) (sz := 6) (R := RSt) (by rfl) (by assumption) (by rfl) rfl (by omega) ?_; rintro _ _ _ _ _ ⟨rfl, _, _, _, _⟩; apply w_ldd; rfl; assumption; rfl)
      rename_i hcs hD ik' it' is id
      have hS : RSt d [.int .i64 s.kind, strV s.text, .int .i64 s.src, .int .i64 s.dst, .bool s.hf, .bool s.ht] s := ⟨rfl, ik', it', is, id⟩
      refine w_alt ?_ ?_
      · refine w_call0 rfl (h1 hv (gd_one hg) (gd_text hg) hS) (fun r d3 L3 _ ⟨hdd, hL, cs', hr, hR'⟩ => ?_)
        subst hdd; subst hL; subst hr
        obtain ⟨e0, e1, e2, e3, e4, e5, rfl⟩ := six hR'.len
        (apply w_mvu; rfl; apply w_ext; rfl; rfl; apply w_ext; rfl; rfl; apply w_alo; intro _ _)
        rename_i b8 T8
        refine w_stE 0 [e0, e1, e2, e3, e4, e5] rfl rfl rfl rfl (Nat.le_of_ble_eq_true rfl) (cell1_val _ _ _ hR') rfl ?_
        (apply w_mvi; rfl; apply w_done)
        exact ⟨rfl, b8, T8, _, _, _, _, _, _, ⟨rfl, rfl, rfl, rfl, rfl, rfl, trivial⟩, hR', rfl⟩
      · (apply w_alo; intro _ _)
        rename_i b8 T8
        refine w_call0 rfl (h1 hv (gd_one hg) (gd_text hg) hS) (fun r d3 L3 _ ⟨hdd, hL, cs', hr, hR'⟩ => ?_)
        subst hdd; subst hL; subst hr
        obtain ⟨e0, e1, e2, e3, e4, e5, rfl⟩ := six hR'.len
        (apply w_mvu; rfl; apply w_ext; rfl; rfl; apply w_ext; rfl; rfl)
        refine w_stE 0 [e0, e1, e2, e3, e4, e5] rfl rfl rfl rfl (Nat.le_of_ble_eq_true rfl) (cell1_val _ _ _ hR') rfl ?_
        (apply w_mvi; rfl; apply w_done)
        exact ⟨rfl, b8, T8, _, _, _, _, _, _, ⟨rfl, rfl, rfl, rfl, rfl, rfl, trivial⟩, hR', rfl⟩
    rintro ρ d' L' ⟨hdd, b8, T8, e0, e1, e2, e3, e4, e5, hsl, hR, hL⟩
    subst hdd; subst hL
    refine gwp_slots _ hsl ?_
    clear hsl
    by_cases he : (intoF v s).2 ≠ 0
    · rw [putF, if_pos he]
      (apply w_sq; apply w_sq; apply w_reg; apply w_mvi; rfl; apply w_neq; rfl; rfl; apply w_done0; refine w_ifdT rfl (by omega) ?_; apply w_sq; apply w_reg; apply w_bvZ; apply w_mvi; rfl)
      refine w_stE 0 [.int .i64 0, .int .i64 0, .int .i64 0, strV [], .slice none 0 0, .slice none 0 0] rfl rfl rfl rfl (Nat.le_of_ble_eq_true rfl) rfl rfl ?_
      (apply w_mvi; rfl; apply w_done0; apply w_ret)
      exact finVDE 0 rfl rfl rfl RVal.zero
    rw [putF, if_neg he]
    (apply w_sq; apply w_sq; apply w_reg; apply w_mvi; rfl; apply w_neq; rfl; rfl; apply w_done0; refine w_ifdF rfl (by omega) ?_; apply w_skip; apply w_sq)
    refine w_drawnA [bx b6 T6 [.int .i64 0, .int .i64 0, .int .i64 0, strV [], .slice none 0 0, .slice none 0 0], bx b5 T5 [x0, x1, x2, x3, x4, x5], bx b3 T3 [c0, c1, c2, c3, c4, c5]] [bx b8 T8 [e0, e1, e2, e3, e4, e5]] rfl ?_
    (apply w_mvs; rfl)
    refine w_slFrom (n := 1) rfl hw' rfl rfl (by simp) (fun v' hv' => ?_)
    (apply w_ldb 1; rfl; rfl; rfl; apply w_ldb 3; rfl; rfl; rfl)
    refine w_call0 rfl (ih hR (into_gd hg s) (Nat.le_trans (into_txt v s) hb) hv' hx hbx (by omega)) (fun r d4 L4 hl4 ⟨hL, cs', hr, hR'⟩ => ?_)
    subst hL; subst hr
    obtain ⟨f0, f1, f2, f3, f4, f5, rfl⟩ := six hR'.len
    (apply w_mvu; rfl; apply w_ext; rfl; rfl; apply w_ext; rfl; rfl)
    refine w_stE 0 [f0, f1, f2, f3, f4, f5] rfl rfl rfl rfl (Nat.le_of_ble_eq_true rfl) (cell1_val _ _ _ hR') rfl ?_
    by_cases he2 : (putF (intoF v s).1 l x).2 ≠ 0
    · rw [if_pos he2]
      (apply w_mvi; rfl; apply w_done; apply w_sq; apply w_sq; apply w_reg; apply w_mvi; rfl; apply w_neq; rfl; rfl; apply w_done0; refine w_ifdT rfl (by omega) ?_; apply w_sq; apply w_reg; apply w_bvZ; apply w_mvi; rfl)
      refine w_stE 0 [.int .i64 0, .int .i64 0, .int .i64 0, strV [], .slice none 0 0, .slice none 0 0] rfl rfl rfl rfl (Nat.le_of_ble_eq_true rfl) rfl rfl ?_
      (apply w_mvi; rfl; apply w_done0; apply w_ret)
      exact finVDE 0 rfl rfl rfl RVal.zero
    rw [if_neg he2]
    have hw4 : RSl 6 RSt d4 (.slice a (s :: l).length c) (s :: l) := RSl.mono (R := RSt) (fun hl h => h) hw' hl4
    (apply w_mvi; rfl; apply w_done; apply w_sq; apply w_sq; apply w_reg; apply w_mvi; rfl; apply w_neq; rfl; rfl; apply w_done0; refine w_ifdF rfl (by omega) ?_; apply w_skip; apply w_sq)
    refine w_drawn ?_
    (apply w_ldb 2; rfl; rfl; rfl; apply w_mvs; rfl; refine w_idxR (m := 0) (sz := 6) (R := RSt) (by rfl) (by assumption) (by rfl) rfl (by omega) ?_; rintro _ _ _ _ _ ⟨rfl, _, _, _, _⟩; apply w_ldd; rfl; assumption; rfl; apply w_ldb 3; rfl; rfl; rfl)
    rename_i hcs hD ik' it' is id
    refine w_call0 rfl (h2 (RVal.mono hl4 hv) (gd_one hg) ⟨rfl, ik', it', is, id⟩ hR' (by omega)) (fun r d5 L5 hl5 ⟨hL, cs', hr, hR2⟩ => ?_)
    subst hL; subst hr
    obtain ⟨g0, g1, g2, g3, g4, g5, rfl⟩ := six hR2.len
    (apply w_ext; rfl; rfl; apply w_ext; rfl; rfl; apply w_bar)
    refine w_stE 0 [g0, g1, g2, g3, g4, g5] rfl rfl rfl rfl (Nat.le_of_ble_eq_true rfl) (cell1_val _ _ _ hR2) rfl ?_
    (apply w_mvi; rfl; apply w_done0; apply w_ret)
    exact finVDE 0 rfl rfl rfl hR2
end Go.Gk.Val
end

section
/-
  Ways: something is put; the whole.
-/
namespace Go.Gk.Val
open Go Go.Gk Go.Gk.Utf
attribute [local irreducible] gwp gws

def putTop (v : V) (l : List St) (x : V) : V × Int :=
  if rightV v ≠ 0 then (V.zero, rightV v) else if rightV x ≠ 0 then (V.zero, rightV x) else if wrongF v l ≠ 0 then (V.zero, wrongF v l)
  else if (putF v l x).2 ≠ 0 then (V.zero, (putF v l x).2) else if rightV (putF v l x).1 ≠ 0 then (V.zero, rightV (putF v l x).1) else ((putF v l x).1, 0)
def PutOk (T : PHeap → Prop) (P : Program) (f : FuncId) : Prop := ∀ {d : PHeap} {cs es : List Value} {w : Value} {v x : V} {l : List St}, T d → RVal d cs v → RSl 6 RSt d w l → RVal d es x → txtV v ≤ 1000000 → cntV x ≤ 1000000 → l.length ≤ 100 →
  GCall P f [.agg cs.toArray, w, .agg es.toArray] d [] (Ret fun r d' L' => d' = d ∧ ∃ cs' h, r = .tuple #[.agg cs'.toArray, .int .i64 (putTop v l x).2] ∧ L' = [h] ∧ OVal cs' (putTop v l x).1 h)
def g_steps_Put (f_value_Right f_steps_wrong f_steps_put f_value_Copy : Nat) : GFun :=
 ⟨49, [(.cell 6 (some 6)), (.tmp 7)],
 (.seq
 (.reg false (.op false ⟨(some 3), none, (.box (.tmp 0))⟩
  (.op false ⟨(some 5), none, (.box (.tmp 2))⟩
  (.op false ⟨(some 6), none, (.alo (.agg #[(.int .i64 0), (.int .i64 0), (.int .i64 0), (strV []), (.slice none 0 0), (.slice none 0 0)]))⟩
  (.op false ⟨(some 7), none, (.mv (.const (.int .i64 0)))⟩ .done)))))
 (.seq (.seq
 (.reg false (.op false ⟨(some 13), none, (.ld (some 6) (.tmp 3))⟩
  (.op false ⟨(some 14), none, (.call f_value_Right [(.tmp 13)])⟩
  (.op false ⟨(some 8), none, (.mv (.tmp 14))⟩ .done))))
 (.seq
 (.reg false (.op false ⟨(some 15), none, (.mv (.tmp 8))⟩
  (.op false ⟨(some 16), none, (.bin .neq (.tmp 15) (.const (.int .i64 0)))⟩ .done))) (.cond (.tmp 16)
 (.seq
 (.reg false (.op false ⟨(some 17), none, (.bld [(0, 1), (1, 2), (3, 1), (4, 1), (5, 1)] [(.int .i64 0), (.int .i64 0), (.int .i64 0), (strV []), (.slice none 0 0), (.slice none 0 0)] [])⟩
  (.op false ⟨(some 18), none, (.mv (.tmp 8))⟩
  (.op false ⟨none, none, (.st 6 (.tmp 6) (.tmp 17))⟩
  (.op false ⟨(some 7), none, (.mv (.tmp 18))⟩ .done))))) .ret) .skip)))
 (.seq (.seq
 (.reg false (.op false ⟨(some 19), none, (.ld (some 6) (.tmp 5))⟩
  (.op false ⟨(some 20), none, (.call f_value_Right [(.tmp 19)])⟩
  (.op false ⟨(some 9), none, (.mv (.tmp 20))⟩ .done))))
 (.seq
 (.reg false (.op false ⟨(some 21), none, (.mv (.tmp 9))⟩
  (.op false ⟨(some 22), none, (.bin .neq (.tmp 21) (.const (.int .i64 0)))⟩ .done))) (.cond (.tmp 22)
 (.seq
 (.reg false (.op false ⟨(some 23), none, (.bld [(0, 1), (1, 2), (3, 1), (4, 1), (5, 1)] [(.int .i64 0), (.int .i64 0), (.int .i64 0), (strV []), (.slice none 0 0), (.slice none 0 0)] [])⟩
  (.op false ⟨(some 24), none, (.mv (.tmp 9))⟩
  (.op false ⟨none, none, (.st 6 (.tmp 6) (.tmp 23))⟩
  (.op false ⟨(some 7), none, (.mv (.tmp 24))⟩ .done))))) .ret) .skip)))
 (.seq (.seq
 (.reg false (.op false ⟨(some 25), none, (.ld (some 6) (.tmp 3))⟩
  (.op false ⟨(some 26), none, (.mv (.tmp 1))⟩
  (.op false ⟨(some 27), none, (.call f_steps_wrong [(.tmp 25), (.tmp 26)])⟩
  (.op false ⟨(some 10), none, (.mv (.tmp 27))⟩ .done)))))
 (.seq
 (.reg false (.op false ⟨(some 28), none, (.mv (.tmp 10))⟩
  (.op false ⟨(some 29), none, (.bin .neq (.tmp 28) (.const (.int .i64 0)))⟩ .done))) (.cond (.tmp 29)
 (.seq
 (.reg false (.op false ⟨(some 30), none, (.bld [(0, 1), (1, 2), (3, 1), (4, 1), (5, 1)] [(.int .i64 0), (.int .i64 0), (.int .i64 0), (strV []), (.slice none 0 0), (.slice none 0 0)] [])⟩
  (.op false ⟨(some 31), none, (.mv (.tmp 10))⟩
  (.op false ⟨none, none, (.st 6 (.tmp 6) (.tmp 30))⟩
  (.op false ⟨(some 7), none, (.mv (.tmp 31))⟩ .done))))) .ret) .skip)))
 (.seq
 (.reg false (.op false ⟨(some 33), none, (.ld (some 6) (.tmp 3))⟩
  (.op false ⟨(some 34), none, (.mv (.tmp 1))⟩
  (.op false ⟨(some 35), none, (.ld (some 6) (.tmp 5))⟩
  (.op false ⟨(some 36), none, (.call f_steps_put [(.tmp 33), (.tmp 34), (.tmp 35)])⟩
  (.op false ⟨(some 32), none, (.mv (.tmp 36))⟩
  (.op false ⟨(some 37), none, (.ext (.tmp 32) 0)⟩
  (.op false ⟨(some 38), none, (.ext (.tmp 32) 1)⟩
  (.op false ⟨(some 11), none, (.alo (.agg #[(.int .i64 0), (.int .i64 0), (.int .i64 0), (strV []), (.slice none 0 0), (.slice none 0 0)]))⟩
  (.op false ⟨none, none, (.st 6 (.tmp 11) (.tmp 37))⟩
  (.op false ⟨(some 12), none, (.mv (.tmp 38))⟩ .done)))))))))))
 (.seq (.seq
 (.reg false (.op false ⟨(some 39), none, (.mv (.tmp 12))⟩
  (.op false ⟨(some 40), none, (.bin .eql (.tmp 39) (.const (.int .i64 0)))⟩ .done))) (.cond (.tmp 40)
 (.reg false (.op false ⟨(some 41), none, (.ld (some 6) (.tmp 11))⟩
  (.op false ⟨(some 42), none, (.call f_value_Right [(.tmp 41)])⟩
  (.op false ⟨(some 12), none, (.mv (.tmp 42))⟩ .done)))) .skip))
 (.seq (.seq
 (.reg false (.op false ⟨(some 43), none, (.mv (.tmp 12))⟩
  (.op false ⟨(some 44), none, (.bin .neq (.tmp 43) (.const (.int .i64 0)))⟩ .done))) (.cond (.tmp 44)
 (.seq
 (.reg false (.op false ⟨(some 45), none, (.bld [(0, 1), (1, 2), (3, 1), (4, 1), (5, 1)] [(.int .i64 0), (.int .i64 0), (.int .i64 0), (strV []), (.slice none 0 0), (.slice none 0 0)] [])⟩
  (.op false ⟨(some 46), none, (.mv (.tmp 12))⟩
  (.op false ⟨none, none, (.st 6 (.tmp 6) (.tmp 45))⟩
  (.op false ⟨(some 7), none, (.mv (.tmp 46))⟩ .done))))) .ret) .skip))
 (.seq
 (.reg false (.op false ⟨(some 47), none, (.ld (some 6) (.tmp 11))⟩
  (.op false ⟨(some 48), none, (.call f_value_Copy [(.tmp 47)])⟩
  (.op false ⟨none, none, (.st 6 (.tmp 6) (.tmp 48))⟩
  (.op false ⟨(some 7), none, (.mv (.const (.int .i64 0)))⟩ .done))))) .ret))))))))⟩

set_option maxHeartbeats 1000000 in
theorem put_ok {T : PHeap → Prop} {P : Program} {f f1 f2 f3 f4 : FuncId} (hT : ∀ {d d' : PHeap}, Le d d' → T d → T d') (hd : dec P f = some (g_steps_Put f1 f2 f3 f4)) (h1 : RightOk T P f1) (h2 : WrongOk T P f2) (h3 : PutROk P f3) (h4 : VCopyOk P f4) : PutOk T P f := by
  intro d cs es w v x l ht hv hw hx hbv hbx hll
  have n1 := RSl.len_le hw
  obtain ⟨a, c, rfl⟩ := RSl.val hw
  have hcnt := put_cnt l v x hbv
  refine GCall.forget (Q := fun r L' => ∃ cs' h, r = .tuple #[.agg cs'.toArray, .int .i64 (putTop v l x).2] ∧ L' = [h] ∧ OVal cs' (putTop v l x).1 h) ?_
  refine GCall_of hd (Nat.le_of_ble_eq_true rfl) ?_
  obtain ⟨c0, c1, c2, c3, c4, c5, rfl⟩ := six hv.len
  obtain ⟨x0, x1, x2, x3, x4, x5, rfl⟩ := six hx.len
  show gwp P _ _ _ _ _
  apply w_sq; apply w_reg
  refine w_boxa (l := [c0, c1, c2, c3, c4, c5]) rfl (fun b3 T3 => ?_)
  refine w_boxa (l := [x0, x1, x2, x3, x4, x5]) rfl (fun b5 T5 => ?_)
  (apply w_alo; intro _ _; apply w_mvi; rfl; apply w_done0; apply w_sq; apply w_sq; apply w_reg; apply w_ldb 2; rfl; rfl; rfl)
  rename_i b6 T6
  refine w_pure rfl (h1 ht hv) ?_
  by_cases q1 : rightV v ≠ 0
  · rw [putTop, if_pos q1]
    (apply w_mvi; rfl; apply w_done0; apply w_sq; apply w_reg; apply w_mvi; rfl; apply w_neq; rfl; rfl; apply w_done0; refine w_ifdT rfl (by omega) ?_; apply w_sq; apply w_reg; apply w_bvZ; apply w_mvi; rfl)
    refine w_stE 0 [.int .i64 0, .int .i64 0, .int .i64 0, strV [], .slice none 0 0, .slice none 0 0] rfl rfl rfl rfl (Nat.le_of_ble_eq_true rfl) rfl rfl ?_
    (apply w_mvi; rfl; apply w_done0; apply w_ret)
    exact finOE 0 rfl rfl rfl OVal.zero vs_zero
  (apply w_mvi; rfl; apply w_done0; apply w_sq; apply w_reg; apply w_mvi; rfl; apply w_neq; rfl; rfl; apply w_done0; refine w_ifdF rfl (by omega) ?_; apply w_skip; apply w_sq; apply w_sq; apply w_reg; apply w_ldb 1; rfl; rfl; rfl)
  refine w_pure rfl (h1 ht hx) ?_
  by_cases q2 : rightV x ≠ 0
  · rw [putTop, if_neg q1, if_pos q2]
    (apply w_mvi; rfl; apply w_done0; apply w_sq; apply w_reg; apply w_mvi; rfl; apply w_neq; rfl; rfl; apply w_done0; refine w_ifdT rfl (by omega) ?_; apply w_sq; apply w_reg; apply w_bvZ; apply w_mvi; rfl)
    refine w_stE 0 [.int .i64 0, .int .i64 0, .int .i64 0, strV [], .slice none 0 0, .slice none 0 0] rfl rfl rfl rfl (Nat.le_of_ble_eq_true rfl) rfl rfl ?_
    (apply w_mvi; rfl; apply w_done0; apply w_ret)
    exact finOE 0 rfl rfl rfl OVal.zero vs_zero
  (apply w_mvi; rfl; apply w_done0; apply w_sq; apply w_reg; apply w_mvi; rfl; apply w_neq; rfl; rfl; apply w_done0; refine w_ifdF rfl (by omega) ?_; apply w_skip; apply w_sq; apply w_sq; apply w_reg; apply w_ldb 2; rfl; rfl; rfl; apply w_mvs; rfl)
  refine w_pure rfl (h2 ht hv hw) ?_
  by_cases q3 : wrongF v l ≠ 0
  · rw [putTop, if_neg q1, if_neg q2, if_pos q3]
    (apply w_mvi; rfl; apply w_done0; apply w_sq; apply w_reg; apply w_mvi; rfl; apply w_neq; rfl; rfl; apply w_done0; refine w_ifdT rfl (by omega) ?_; apply w_sq; apply w_reg; apply w_bvZ; apply w_mvi; rfl)
    refine w_stE 0 [.int .i64 0, .int .i64 0, .int .i64 0, strV [], .slice none 0 0, .slice none 0 0] rfl rfl rfl rfl (Nat.le_of_ble_eq_true rfl) rfl rfl ?_
    (apply w_mvi; rfl; apply w_done0; apply w_ret)
    exact finOE 0 rfl rfl rfl OVal.zero vs_zero
  rw [putTop, if_neg q1, if_neg q2, if_neg q3]
  have hgd := right_gd (v := v) (by simpa using q1) (by omega)
  (apply w_mvi; rfl; apply w_done0; apply w_sq; apply w_reg; apply w_mvi; rfl; apply w_neq; rfl; rfl; apply w_done0; refine w_ifdF rfl (by omega) ?_; apply w_skip; apply w_sq; apply w_reg; apply w_ldb 2; rfl; rfl; rfl; apply w_mvs; rfl; apply w_ldb 1; rfl; rfl; rfl)
  refine w_call0 rfl (h3 l hv hgd hbv hw hx hbx hll) (fun r d2 L2 hl2 ⟨hL, cs', hr, hR⟩ => ?_)
  subst hL; subst hr
  obtain ⟨f0, f1', f2', f3', f4', f5, rfl⟩ := six hR.len
  (apply w_mvu; rfl; apply w_ext; rfl; rfl; apply w_ext; rfl; rfl; apply w_alo; intro _ _)
  rename_i b11 T11
  refine w_stE 0 [f0, f1', f2', f3', f4', f5] rfl rfl rfl rfl (Nat.le_of_ble_eq_true rfl) (cell1_val _ _ _ hR) rfl ?_
  by_cases q4 : (putF v l x).2 ≠ 0
  · rw [if_pos q4]
    (apply w_mvi; rfl; apply w_done0; apply w_sq; apply w_sq; apply w_reg; apply w_mvi; rfl; apply w_eql; rfl; rfl; apply w_done0; refine w_ifdF rfl (by omega) ?_; apply w_skip; apply w_sq; apply w_sq; apply w_reg; apply w_mvi; rfl; apply w_neq; rfl; rfl; apply w_done0; refine w_ifdT rfl (by omega) ?_; apply w_sq; apply w_reg; apply w_bvZ; apply w_mvi; rfl)
    refine w_stE 1 [.int .i64 0, .int .i64 0, .int .i64 0, strV [], .slice none 0 0, .slice none 0 0] rfl rfl rfl rfl (Nat.le_of_ble_eq_true rfl) rfl rfl ?_
    (apply w_mvi; rfl; apply w_done0; apply w_ret)
    exact finOE 1 rfl rfl rfl OVal.zero vs_zero
  rw [if_neg q4]
  (apply w_mvi; rfl; apply w_done0; apply w_sq; apply w_sq; apply w_reg; apply w_mvi; rfl; apply w_eql; rfl; rfl; apply w_done0; refine w_ifdT rfl (by omega) ?_; apply w_reg; apply w_ldb 0; rfl; rfl; rfl)
  refine w_pure rfl (h1 (hT hl2 ht) hR) ?_
  by_cases q5 : rightV (putF v l x).1 ≠ 0
  · rw [if_pos q5]
    (apply w_mvi; rfl; apply w_done0; apply w_sq; apply w_sq; apply w_reg; apply w_mvi; rfl; apply w_neq; rfl; rfl; apply w_done0; refine w_ifdT rfl (by omega) ?_; apply w_sq; apply w_reg; apply w_bvZ; apply w_mvi; rfl)
    refine w_stE 1 [.int .i64 0, .int .i64 0, .int .i64 0, strV [], .slice none 0 0, .slice none 0 0] rfl rfl rfl rfl (Nat.le_of_ble_eq_true rfl) rfl rfl ?_
    (apply w_mvi; rfl; apply w_done0; apply w_ret)
    exact finOE 1 rfl rfl rfl OVal.zero vs_zero
  rw [if_neg q5]
  (apply w_mvi; rfl; apply w_done0; apply w_sq; apply w_sq; apply w_reg; apply w_mvi; rfl; apply w_neq; rfl; rfl; apply w_done0; refine w_ifdF rfl (by omega) ?_; apply w_skip; apply w_sq; apply w_reg; apply w_ldb 0; rfl; rfl; rfl)
  refine w_call0 rfl (h4 _ hR (by omega)) (fun r d3 L3 _ ⟨hdd, cs', g, hr, hL, ho⟩ => ?_)
  subst hdd; subst hL; subst hr
  obtain ⟨e0, e1, e2, e3, e4, e5, rfl⟩ := six ho.cells.1
  refine w_stE 2 [e0, e1, e2, e3, e4, e5] rfl rfl rfl rfl (Nat.le_of_ble_eq_true rfl) ho.cells.2 rfl ?_
  (apply w_mvi; rfl; apply w_done0; apply w_ret)
  exact finOE 2 rfl rfl rfl ho (Vs.drop ((List.nil_sublist _).cons_cons _))

/-! ### without -/
def withoutF (v : V) (s : St) : V × Int :=
  if v.kind = 0 then (v, 0)
  else if s.kind = 0 ∧ v.kind = 6 then
    (if s.text ∈ v.keys then .mk 6 0 0 [] (v.list.take (lowK v.keys s.text) ++ [] ++ v.list.drop (lowK v.keys s.text + 1)) (v.keys.take (lowK v.keys s.text) ++ [] ++ v.keys.drop (lowK v.keys s.text + 1)) else v, 0)
  else if s.kind = 1 ∧ v.kind = 5 then
    (if placeF s.src v.list.length < 0 ∨ (v.list.length : Int) ≤ placeF s.src v.list.length then v else .mk 5 0 0 [] (v.list.take (placeF s.src v.list.length).toNat ++ [] ++ v.list.drop ((placeF s.src v.list.length).toNat + 1)) [], 0)
  else if s.kind = 2 ∧ v.kind = 5 then (.mk 5 0 0 [] (v.list.take (endsF s v.list.length).1.toNat ++ [] ++ v.list.drop (endsF s v.list.length).2.toNat) [], 0)
  else (V.zero, 80)
def WithoutOk (P : Program) (f : FuncId) : Prop := ∀ {d : PHeap} {cs ds : List Value} {v : V} {s : St}, RVal d cs v → oneB v = true → RSt d ds s → cntV v ≤ 900000000 →
  GCall P f [.agg cs.toArray, .agg ds.toArray] d [] (Ret fun r d' L' => L' = [] ∧ ∃ cs', r = .tuple #[.agg cs'.toArray, .int .i64 (withoutF v s).2] ∧ RVal d' cs' (withoutF v s).1)
def g_steps_without (f_slices_BinarySearch_string_string f_steps_cut_string f_steps_cut_api_Value f_steps_place f_steps_ends : Nat) : GFun :=
 ⟨105, [(.cell 4 (some 6)), (.tmp 5)],
 (.seq
 (.reg false (.op false ⟨(some 2), none, (.box (.tmp 0))⟩
  (.op false ⟨(some 3), none, (.box (.tmp 1))⟩
  (.op false ⟨(some 4), none, (.alo (.agg #[(.int .i64 0), (.int .i64 0), (.int .i64 0), (strV []), (.slice none 0 0), (.slice none 0 0)]))⟩
  (.op false ⟨(some 5), none, (.mv (.const (.int .i64 0)))⟩ .done)))))
 (.seq (.block 0
 (.seq
 (.reg false (.op false ⟨(some 12), none, (.fld 0 (.tmp 2))⟩
  (.op false ⟨(some 13), none, (.ld none (.tmp 12))⟩
  (.op false ⟨(some 14), none, (.bin .eql (.tmp 13) (.const (.int .i64 0)))⟩
  (.op false ⟨(some 11), none, (.mv (.tmp 14))⟩ .done))))) (.cond (.tmp 11)
 (.seq
 (.reg false (.op false ⟨(some 15), none, (.ld (some 6) (.tmp 2))⟩
  (.op false ⟨none, none, (.st 6 (.tmp 4) (.tmp 15))⟩
  (.op false ⟨(some 5), none, (.mv (.const (.int .i64 0)))⟩ .done)))) .ret)
 (.seq
 (.reg false (.op false ⟨(some 17), none, (.fld 0 (.tmp 3))⟩
  (.op false ⟨(some 18), none, (.ld none (.tmp 17))⟩
  (.op false ⟨(some 19), none, (.bin .eql (.tmp 18) (.const (.int .i64 0)))⟩
  (.op false ⟨(some 20), none, (.mv (.tmp 19))⟩
  (.op false ⟨(some 21), (some (20, true)), (.fld 0 (.tmp 2))⟩
  (.op false ⟨(some 22), (some (20, true)), (.ld none (.tmp 21))⟩
  (.op false ⟨(some 23), (some (20, true)), (.bin .eql (.tmp 22) (.const (.int .i64 6)))⟩
  (.op false ⟨(some 24), none, (.pick (.tmp 20) (.tmp 23) (.const (.bool false)))⟩
  (.op false ⟨(some 16), none, (.mv (.tmp 24))⟩ .done)))))))))) (.cond (.tmp 16)
 (.seq
 (.reg false (.op false ⟨(some 26), none, (.fld 5 (.tmp 2))⟩
  (.op false ⟨(some 27), none, (.ld none (.tmp 26))⟩
  (.op false ⟨(some 28), none, (.fld 1 (.tmp 3))⟩
  (.op false ⟨(some 29), none, (.ld none (.tmp 28))⟩
  (.op false ⟨(some 30), none, (.call f_slices_BinarySearch_string_string [(.tmp 27), (.tmp 29)])⟩
  (.op false ⟨(some 25), none, (.mv (.tmp 30))⟩
  (.op false ⟨(some 31), none, (.ext (.tmp 25) 0)⟩
  (.op false ⟨(some 32), none, (.ext (.tmp 25) 1)⟩
  (.op false ⟨(some 6), none, (.mv (.tmp 31))⟩
  (.op false ⟨(some 7), none, (.mv (.tmp 32))⟩ .done)))))))))))
 (.seq (.seq
 (.reg false (.op false ⟨(some 33), none, (.mv (.tmp 7))⟩
  (.op false ⟨(some 34), none, (.un .not (.tmp 33))⟩ .done))) (.cond (.tmp 34)
 (.seq
 (.reg false (.op false ⟨(some 35), none, (.ld (some 6) (.tmp 2))⟩
  (.op false ⟨none, none, (.st 6 (.tmp 4) (.tmp 35))⟩
  (.op false ⟨(some 5), none, (.mv (.const (.int .i64 0)))⟩ .done)))) .ret) .skip))
 (.seq
 (.reg true (.op true ⟨(some 36), none, (.fld 5 (.tmp 2))⟩
  (.op true ⟨(some 37), none, (.ld none (.tmp 36))⟩
  (.op true ⟨(some 38), none, (.mv (.tmp 6))⟩
  (.op true ⟨(some 39), none, (.mv (.tmp 6))⟩
  (.op true ⟨(some 40), none, (.bin .add (.tmp 39) (.const (.int .i64 1)))⟩
  (.op true ⟨(some 42), none, (.fld 4 (.tmp 2))⟩
  (.op true ⟨(some 43), none, (.ld none (.tmp 42))⟩
  (.op true ⟨(some 44), none, (.mv (.tmp 6))⟩
  (.op true ⟨(some 45), none, (.mv (.tmp 6))⟩
  (.op true ⟨(some 46), none, (.bin .add (.tmp 45) (.const (.int .i64 1)))⟩
  (.op false ⟨(some 41), none, (.call f_steps_cut_string [(.tmp 37), (.tmp 38), (.tmp 40), (.const (.slice none 0 0))])⟩
  (.op false ⟨(some 47), none, (.call f_steps_cut_api_Value [(.tmp 43), (.tmp 44), (.tmp 46), (.const (.slice none 0 0))])⟩
  (.op true ⟨(some 48), none, (.bld [(0, 1), (1, 2), (3, 1), (4, 1), (5, 1)] [(.int .i64 0), (.int .i64 0), (.int .i64 0), (strV []), (.slice none 0 0), (.slice none 0 0)] [(0, (.const (.int .i64 6))), (4, (.tmp 41)), (3, (.tmp 47))])⟩
  (.bar (.op false ⟨none, none, (.st 6 (.tmp 4) (.tmp 48))⟩
  (.op true ⟨(some 5), none, (.mv (.const (.int .i64 0)))⟩ .done))))))))))))))))) .ret)))
 (.seq
 (.reg false (.op false ⟨(some 50), none, (.fld 0 (.tmp 3))⟩
  (.op false ⟨(some 51), none, (.ld none (.tmp 50))⟩
  (.op false ⟨(some 52), none, (.bin .eql (.tmp 51) (.const (.int .i64 1)))⟩
  (.op false ⟨(some 53), none, (.mv (.tmp 52))⟩
  (.op false ⟨(some 54), (some (53, true)), (.fld 0 (.tmp 2))⟩
  (.op false ⟨(some 55), (some (53, true)), (.ld none (.tmp 54))⟩
  (.op false ⟨(some 56), (some (53, true)), (.bin .eql (.tmp 55) (.const (.int .i64 5)))⟩
  (.op false ⟨(some 57), none, (.pick (.tmp 53) (.tmp 56) (.const (.bool false)))⟩
  (.op false ⟨(some 49), none, (.mv (.tmp 57))⟩ .done)))))))))) (.cond (.tmp 49)
 (.seq
 (.reg false (.op false ⟨(some 58), none, (.fld 2 (.tmp 3))⟩
  (.op false ⟨(some 59), none, (.ld none (.tmp 58))⟩
  (.op false ⟨(some 60), none, (.fld 4 (.tmp 2))⟩
  (.op false ⟨(some 61), none, (.ld none (.tmp 60))⟩
  (.op false ⟨(some 62), none, (.len (.tmp 61))⟩
  (.op false ⟨(some 63), none, (.call f_steps_place [(.tmp 59), (.tmp 62)])⟩
  (.op false ⟨(some 8), none, (.mv (.tmp 63))⟩ .done))))))))
 (.seq (.seq
 (.reg false (.op false ⟨(some 64), none, (.mv (.tmp 8))⟩
  (.op false ⟨(some 65), none, (.bin .lss (.tmp 64) (.const (.int .i64 0)))⟩
  (.op false ⟨(some 66), none, (.mv (.tmp 65))⟩
  (.op false ⟨(some 67), (some (66, false)), (.mv (.tmp 8))⟩
  (.op false ⟨(some 68), (some (66, false)), (.fld 4 (.tmp 2))⟩
  (.op false ⟨(some 69), (some (66, false)), (.ld none (.tmp 68))⟩
  (.op false ⟨(some 70), (some (66, false)), (.len (.tmp 69))⟩
  (.op false ⟨(some 71), (some (66, false)), (.bin .geq (.tmp 67) (.tmp 70))⟩
  (.op false ⟨(some 72), none, (.pick (.tmp 66) (.const (.bool true)) (.tmp 71))⟩ .done)))))))))) (.cond (.tmp 72)
 (.seq
 (.reg false (.op false ⟨(some 73), none, (.ld (some 6) (.tmp 2))⟩
  (.op false ⟨none, none, (.st 6 (.tmp 4) (.tmp 73))⟩
  (.op false ⟨(some 5), none, (.mv (.const (.int .i64 0)))⟩ .done)))) .ret) .skip))
 (.seq
 (.reg false (.op false ⟨(some 74), none, (.fld 4 (.tmp 2))⟩
  (.op false ⟨(some 75), none, (.ld none (.tmp 74))⟩
  (.op false ⟨(some 76), none, (.mv (.tmp 8))⟩
  (.op false ⟨(some 77), none, (.mv (.tmp 8))⟩
  (.op false ⟨(some 78), none, (.bin .add (.tmp 77) (.const (.int .i64 1)))⟩
  (.op false ⟨(some 79), none, (.call f_steps_cut_api_Value [(.tmp 75), (.tmp 76), (.tmp 78), (.const (.slice none 0 0))])⟩
  (.op false ⟨(some 80), none, (.bld [(0, 1), (1, 2), (3, 1), (4, 1), (5, 1)] [(.int .i64 0), (.int .i64 0), (.int .i64 0), (strV []), (.slice none 0 0), (.slice none 0 0)] [(0, (.const (.int .i64 5))), (3, (.tmp 79))])⟩
  (.op false ⟨none, none, (.st 6 (.tmp 4) (.tmp 80))⟩
  (.op false ⟨(some 5), none, (.mv (.const (.int .i64 0)))⟩ .done)))))))))) .ret)))
 (.seq
 (.reg false (.op false ⟨(some 82), none, (.fld 0 (.tmp 3))⟩
  (.op false ⟨(some 83), none, (.ld none (.tmp 82))⟩
  (.op false ⟨(some 84), none, (.bin .eql (.tmp 83) (.const (.int .i64 2)))⟩
  (.op false ⟨(some 85), none, (.mv (.tmp 84))⟩
  (.op false ⟨(some 86), (some (85, true)), (.fld 0 (.tmp 2))⟩
  (.op false ⟨(some 87), (some (85, true)), (.ld none (.tmp 86))⟩
  (.op false ⟨(some 88), (some (85, true)), (.bin .eql (.tmp 87) (.const (.int .i64 5)))⟩
  (.op false ⟨(some 89), none, (.pick (.tmp 85) (.tmp 88) (.const (.bool false)))⟩
  (.op false ⟨(some 81), none, (.mv (.tmp 89))⟩ .done)))))))))) (.cond (.tmp 81)
 (.seq
 (.reg false (.op false ⟨(some 91), none, (.ld (some 6) (.tmp 3))⟩
  (.op false ⟨(some 92), none, (.fld 4 (.tmp 2))⟩
  (.op false ⟨(some 93), none, (.ld none (.tmp 92))⟩
  (.op false ⟨(some 94), none, (.len (.tmp 93))⟩
  (.op false ⟨(some 95), none, (.call f_steps_ends [(.tmp 91), (.tmp 94)])⟩
  (.op false ⟨(some 90), none, (.mv (.tmp 95))⟩
  (.op false ⟨(some 96), none, (.ext (.tmp 90) 0)⟩
  (.op false ⟨(some 97), none, (.ext (.tmp 90) 1)⟩
  (.op false ⟨(some 9), none, (.mv (.tmp 96))⟩
  (.op false ⟨(some 10), none, (.mv (.tmp 97))⟩ .done)))))))))))
 (.seq
 (.reg false (.op false ⟨(some 98), none, (.fld 4 (.tmp 2))⟩
  (.op false ⟨(some 99), none, (.ld none (.tmp 98))⟩
  (.op false ⟨(some 100), none, (.mv (.tmp 9))⟩
  (.op false ⟨(some 101), none, (.mv (.tmp 10))⟩
  (.op false ⟨(some 102), none, (.call f_steps_cut_api_Value [(.tmp 99), (.tmp 100), (.tmp 101), (.const (.slice none 0 0))])⟩
  (.op false ⟨(some 103), none, (.bld [(0, 1), (1, 2), (3, 1), (4, 1), (5, 1)] [(.int .i64 0), (.int .i64 0), (.int .i64 0), (strV []), (.slice none 0 0), (.slice none 0 0)] [(0, (.const (.int .i64 5))), (3, (.tmp 102))])⟩
  (.op false ⟨none, none, (.st 6 (.tmp 4) (.tmp 103))⟩
  (.op false ⟨(some 5), none, (.mv (.const (.int .i64 0)))⟩ .done))))))))) .ret)) .skip)))))))))
 (.seq
 (.reg false (.op false ⟨(some 104), none, (.bld [(0, 1), (1, 2), (3, 1), (4, 1), (5, 1)] [(.int .i64 0), (.int .i64 0), (.int .i64 0), (strV []), (.slice none 0 0), (.slice none 0 0)] [])⟩
  (.op false ⟨none, none, (.st 6 (.tmp 4) (.tmp 104))⟩
  (.op false ⟨(some 5), none, (.mv (.const (.int .i64 80)))⟩ .done)))) .ret)))⟩

set_option maxHeartbeats 2000000 in
theorem without_ok {P : Program} {f f1 f2 f3 f4 f5 : FuncId} (hd : dec P f = some (g_steps_without f1 f2 f3 f4 f5)) (h1 : SearchOk P f1) (h2 : CutOk 1 RStr P f2) (h3 : CutOk 6 RVal P f3) (h4 : PlaceOk P f4) (h5 : EndsOk P f5) : WithoutOk P f := by
  intro d cs ds v s hv hone hs hb
  refine GCall_of hd (Nat.le_of_ble_eq_true rfl) ?_
  have hr := one_rising hone
  have b1 := cnt_list (v := v)
  have b2' := cnt_keys (v := v)
  obtain ⟨w, e, hF⟩ : ∃ w e, withoutF v s = (w, e) := ⟨_, _, rfl⟩
  rw [hF]
  have hs' := hs
  obtain ⟨hds, ik', it', is, id⟩ := hs'
  subst hds
  have hv0 := hv
  obtain ⟨lv, kv, rfl, ik, im, ie, it, hl, hks⟩ := hv.open
  obtain ⟨la, lc, rfl⟩ := RSl.val hl
  obtain ⟨ka, kc, rfl⟩ := RSl.val hks
  have n1 := RSl.len_le hl
  show gwp P _ _ _ _ _
  apply w_sq; apply w_reg
  refine w_boxa (l := [.int .i64 v.kind, .int .i64 v.m, .int .i64 v.e, strV v.text, .slice la v.list.length lc, .slice ka v.keys.length kc]) rfl (fun b2 T2 => ?_)
  refine w_boxa (l := [.int .i64 s.kind, strV s.text, .int .i64 s.src, .int .i64 s.dst, .bool s.hf, .bool s.ht]) rfl (fun b3 T3 => ?_)
  (apply w_alo; intro _ _; apply w_mvi; rfl; apply w_done0)
  rename_i b4 T4
  by_cases k0 : v.kind = 0
  · rw [withoutF, if_pos k0] at hF; cases hF
    (apply w_sq; apply w_block; apply w_sq; apply w_reg; apply w_fld; rfl; apply w_ld; rfl; exact hc_i 2 rfl rfl; apply w_eql; rfl; rfl; apply w_mvb; rfl; apply w_done0; refine w_ifdT rfl (by omega) ?_; apply w_sq; apply w_reg; apply w_ldb 2; rfl; rfl; rfl)
    refine w_stE 0 [.int .i64 v.kind, .int .i64 v.m, .int .i64 v.e, strV v.text, .slice la v.list.length lc, .slice ka v.keys.length kc] rfl rfl rfl rfl (Nat.le_of_ble_eq_true rfl) rfl rfl ?_
    (apply w_mvi; rfl; apply w_done0; apply w_ret)
    exact finVDE 0 rfl rfl rfl hv0
  by_cases s0 : s.kind = 0
  · by_cases v6 : v.kind = 6
    · rw [withoutF, if_neg k0, if_pos ⟨s0, v6⟩] at hF
      have hlens := one_keys hone v6
      (apply w_sq; apply w_block; apply w_sq; apply w_reg; apply w_fld; rfl; apply w_ld; rfl; exact hc_i 2 rfl rfl; apply w_eql; rfl; rfl; apply w_mvb; rfl; apply w_done0; refine w_ifdF rfl (by omega) ?_; apply w_sq; apply w_reg; apply w_fld; rfl; apply w_ld; rfl; exact hc_i 1 rfl rfl; apply w_eql; rfl; rfl; apply w_mvb; rfl; refine w_gdT rfl (by omega) ?_; apply w_gT; rfl; apply w_fld; rfl; apply w_gT; rfl; apply w_ld; rfl; exact hc_i 2 rfl rfl; apply w_gT; rfl; apply w_eql; rfl; rfl; apply w_pickTb; rfl; rfl; apply w_mvb; rfl; apply w_done0; refine w_ifdT rfl (by omega) ?_; apply w_sq; apply w_reg; apply w_fld; rfl; apply w_ld; rfl; exact hc_i 2 rfl rfl; apply w_fld; rfl; apply w_ld; rfl; exact hc_i 1 rfl rfl)
      refine w_pure rfl (h1 hks hr) ?_
      by_cases hm : s.text ∈ v.keys
      · rw [if_pos hm] at hF; cases hF
        obtain ⟨hlo, _⟩ := (mem_iff hr).1 hm
        have hm' : (!decide (s.text ∈ v.keys)) = false := by simp [hm]
        (apply w_mvu; rfl; apply w_ext; rfl; rfl; apply w_ext; rfl; rfl; apply w_mvi; rfl; apply w_mvb; rfl; apply w_done0; apply w_sq; apply w_sq; apply w_reg; apply w_mvb; rfl; apply w_not; rfl; apply w_done0; apply w_ifbF; rfl; (with_reducible assumption); apply w_skip; apply w_sq)
        refine w_drawn ?_
        (apply w_fld; rfl; apply w_ld; rfl; exact hc_i 2 rfl rfl; apply w_mvi; rfl; apply w_mvi; rfl; apply w_add; rfl; rfl; omega; omega; apply w_fld; rfl; apply w_ld; rfl; exact hc_i 2 rfl rfl; apply w_mvi; rfl; apply w_mvi; rfl; apply w_add; rfl; rfl; omega; omega)
        refine w_call0 rfl (h2 (i := lowK v.keys s.text) (j := lowK v.keys s.text + 1) (ys := []) hks RSl.nil (by omega) (by omega) (by simp; omega)) (fun r d2 L2 hl2 ⟨hL, hr2⟩ => ?_)
        subst hL
        obtain ⟨ra, rc, rfl⟩ := RSl.val hr2
        refine w_call0 rfl (h3 (i := lowK v.keys s.text) (j := lowK v.keys s.text + 1) (ys := []) (RVals.mono hl hl2) RSl.nil (by omega) (by omega) (by simp; omega)) (fun r d4 L4 hl4 ⟨hL, hr4⟩ => ?_)
        subst hL
        obtain ⟨sa, sc, rfl⟩ := RSl.val hr4
        (apply w_bvM; rfl; rfl; rfl; apply w_bar)
        refine w_stE 0 [.int .i64 6, .int .i64 0, .int .i64 0, strV [], .slice sa _ sc, .slice ra _ rc] rfl rfl rfl rfl (Nat.le_of_ble_eq_true rfl) rfl rfl ?_
        (apply w_mvi; rfl; apply w_done0; apply w_ret)
        exact finVDE 0 rfl rfl rfl (RVal.close (v := .mk 6 0 0 [] (v.list.take (lowK v.keys s.text) ++ [] ++ v.list.drop (lowK v.keys s.text + 1)) (v.keys.take (lowK v.keys s.text) ++ [] ++ v.keys.drop (lowK v.keys s.text + 1))) i64_6 i64_0 i64_0 (by simp) hr4 (RStrs.mono hr2 hl4))
      · rw [if_neg hm] at hF; cases hF
        have hm' : (!decide (s.text ∈ v.keys)) = true := by simp [hm]
        (apply w_mvu; rfl; apply w_ext; rfl; rfl; apply w_ext; rfl; rfl; apply w_mvi; rfl; apply w_mvb; rfl; apply w_done0; apply w_sq; apply w_sq; apply w_reg; apply w_mvb; rfl; apply w_not; rfl; apply w_done0; apply w_ifbT; rfl; (with_reducible assumption); apply w_sq; apply w_reg; apply w_ldb 2; rfl; rfl; rfl)
        refine w_stE 0 [.int .i64 v.kind, .int .i64 v.m, .int .i64 v.e, strV v.text, .slice la v.list.length lc, .slice ka v.keys.length kc] rfl rfl rfl rfl (Nat.le_of_ble_eq_true rfl) rfl rfl ?_
        (apply w_mvi; rfl; apply w_done0; apply w_ret)
        exact finVDE 0 rfl rfl rfl hv0
    · rw [withoutF, if_neg k0, if_neg (fun h => v6 h.2), if_neg (fun h => by omega), if_neg (fun h => by omega)] at hF; cases hF
      (apply w_sq; apply w_block; apply w_sq; apply w_reg; apply w_fld; rfl; apply w_ld; rfl; exact hc_i 2 rfl rfl; apply w_eql; rfl; rfl; apply w_mvb; rfl; apply w_done0; refine w_ifdF rfl (by omega) ?_; apply w_sq; apply w_reg; apply w_fld; rfl; apply w_ld; rfl; exact hc_i 1 rfl rfl; apply w_eql; rfl; rfl; apply w_mvb; rfl; refine w_gdT rfl (by omega) ?_; apply w_gT; rfl; apply w_fld; rfl; apply w_gT; rfl; apply w_ld; rfl; exact hc_i 2 rfl rfl; apply w_gT; rfl; apply w_eql; rfl; rfl; apply w_pickTb; rfl; rfl; apply w_mvb; rfl; apply w_done0; refine w_ifdF rfl (by omega) ?_; apply w_sq; apply w_reg; apply w_fld; rfl; apply w_ld; rfl; exact hc_i 1 rfl rfl; apply w_eql; rfl; rfl; apply w_mvb; rfl; refine w_gdF rfl (by omega) ?_; apply w_gF; rfl; apply w_gF; rfl; apply w_gF; rfl; apply w_pickFb; rfl; rfl; apply w_mvb; rfl; apply w_done0; apply w_ifF; rfl; apply w_sq; apply w_reg; apply w_fld; rfl; apply w_ld; rfl; exact hc_i 1 rfl rfl; apply w_eql; rfl; rfl; apply w_mvb; rfl; refine w_gdF rfl (by omega) ?_; apply w_gF; rfl; apply w_gF; rfl; apply w_gF; rfl; apply w_pickFb; rfl; rfl; apply w_mvb; rfl; apply w_done0; apply w_ifF; rfl; apply w_skip; apply w_sq; apply w_reg; apply w_bvZ)
      refine w_stE 0 [.int .i64 0, .int .i64 0, .int .i64 0, strV [], .slice none 0 0, .slice none 0 0] rfl rfl rfl rfl (Nat.le_of_ble_eq_true rfl) rfl rfl ?_
      (apply w_mvi; rfl; apply w_done0; apply w_ret)
      exact finVDE 0 rfl rfl rfl RVal.zero
  by_cases s1 : s.kind = 1
  · by_cases v5 : v.kind = 5
    · rw [withoutF, if_neg k0, if_neg (fun h => s0 h.1), if_pos ⟨s1, v5⟩] at hF
      obtain ⟨p, hp⟩ : ∃ p, placeF s.src v.list.length = p := ⟨_, rfl⟩
      rw [hp] at hF
      (apply w_sq; apply w_block; apply w_sq; apply w_reg; apply w_fld; rfl; apply w_ld; rfl; exact hc_i 2 rfl rfl; apply w_eql; rfl; rfl; apply w_mvb; rfl; apply w_done0; refine w_ifdF rfl (by omega) ?_; apply w_sq; apply w_reg; apply w_fld; rfl; apply w_ld; rfl; exact hc_i 1 rfl rfl; apply w_eql; rfl; rfl; apply w_mvb; rfl; refine w_gdF rfl (by omega) ?_; apply w_gF; rfl; apply w_gF; rfl; apply w_gF; rfl; apply w_pickFb; rfl; rfl; apply w_mvb; rfl; apply w_done0; apply w_ifF; rfl; apply w_sq; apply w_reg; apply w_fld; rfl; apply w_ld; rfl; exact hc_i 1 rfl rfl; apply w_eql; rfl; rfl; apply w_mvb; rfl; refine w_gdT rfl (by omega) ?_; apply w_gT; rfl; apply w_fld; rfl; apply w_gT; rfl; apply w_ld; rfl; exact hc_i 2 rfl rfl; apply w_gT; rfl; apply w_eql; rfl; rfl; apply w_pickTb; rfl; rfl; apply w_mvb; rfl; apply w_done0; refine w_ifdT rfl (by omega) ?_; apply w_sq; apply w_reg; apply w_fld; rfl; apply w_ld; rfl; exact hc_i 1 rfl rfl; apply w_fld; rfl; apply w_ld; rfl; exact hc_i 2 rfl rfl; apply w_len; rfl)
      refine w_pure rfl (h4 is (by omega) (by omega)) ?_
      rw [hp]
      by_cases q0 : p < 0
      · rw [if_pos (.inl q0)] at hF; cases hF
        (apply w_mvi; rfl; apply w_done0; apply w_sq; apply w_sq; apply w_reg; apply w_mvi; rfl; apply w_lss; rfl; rfl; apply w_mvb; rfl; refine w_gdT rfl (by omega) ?_; apply w_gF; rfl; apply w_gF; rfl; apply w_gF; rfl; apply w_gF; rfl; apply w_gF; rfl; apply w_pickTb; rfl; rfl; apply w_done0; apply w_ifT; rfl; apply w_sq; apply w_reg; apply w_ldb 2; rfl; rfl; rfl)
        refine w_stE 0 [.int .i64 v.kind, .int .i64 v.m, .int .i64 v.e, strV v.text, .slice la v.list.length lc, .slice ka v.keys.length kc] rfl rfl rfl rfl (Nat.le_of_ble_eq_true rfl) rfl rfl ?_
        (apply w_mvi; rfl; apply w_done0; apply w_ret)
        exact finVDE 0 rfl rfl rfl hv0
      by_cases q1 : (v.list.length : Int) ≤ p
      · rw [if_pos (.inr q1)] at hF; cases hF
        (apply w_mvi; rfl; apply w_done0; apply w_sq; apply w_sq; apply w_reg; apply w_mvi; rfl; apply w_lss; rfl; rfl; apply w_mvb; rfl; refine w_gdF rfl (by omega) ?_; apply w_gT; rfl; apply w_mvi; rfl; apply w_gT; rfl; apply w_fld; rfl; apply w_gT; rfl; apply w_ld; rfl; exact hc_i 2 rfl rfl; apply w_gT; rfl; apply w_len; rfl; apply w_gT; rfl; apply w_geq; rfl; rfl; apply w_pickFb; rfl; rfl; apply w_done0; refine w_ifdT rfl (by omega) ?_; apply w_sq; apply w_reg; apply w_ldb 2; rfl; rfl; rfl)
        refine w_stE 0 [.int .i64 v.kind, .int .i64 v.m, .int .i64 v.e, strV v.text, .slice la v.list.length lc, .slice ka v.keys.length kc] rfl rfl rfl rfl (Nat.le_of_ble_eq_true rfl) rfl rfl ?_
        (apply w_mvi; rfl; apply w_done0; apply w_ret)
        exact finVDE 0 rfl rfl rfl hv0
      rw [if_neg (fun h => by omega)] at hF; cases hF
      obtain ⟨n, rfl⟩ : ∃ n : Nat, p = (n : Int) := ⟨p.toNat, by omega⟩
      simp only [Int.toNat_natCast]
      (apply w_mvi; rfl; apply w_done0; apply w_sq; apply w_sq; apply w_reg; apply w_mvi; rfl; apply w_lss; rfl; rfl; apply w_mvb; rfl; refine w_gdF rfl (by omega) ?_; apply w_gT; rfl; apply w_mvi; rfl; apply w_gT; rfl; apply w_fld; rfl; apply w_gT; rfl; apply w_ld; rfl; exact hc_i 2 rfl rfl; apply w_gT; rfl; apply w_len; rfl; apply w_gT; rfl; apply w_geq; rfl; rfl; apply w_pickFb; rfl; rfl; apply w_done0; refine w_ifdF rfl (by omega) ?_; apply w_skip; apply w_sq; apply w_reg; apply w_fld; rfl; apply w_ld; rfl; exact hc_i 2 rfl rfl; apply w_mvi; rfl; apply w_mvi; rfl; apply w_add; rfl; rfl; omega; omega)
      refine w_call0 rfl (h3 (i := n) (j := n + 1) (ys := []) hl RSl.nil (by omega) (by omega) (by simp; omega)) (fun r d4 L4 hl4 ⟨hL, hr4⟩ => ?_)
      subst hL
      obtain ⟨sa, sc, rfl⟩ := RSl.val hr4
      (apply w_bvKL; rfl; rfl)
      refine w_stE 0 [.int .i64 5, .int .i64 0, .int .i64 0, strV [], .slice sa _ sc, .slice none 0 0] rfl rfl rfl rfl (Nat.le_of_ble_eq_true rfl) rfl rfl ?_
      (apply w_mvi; rfl; apply w_done0; apply w_ret)
      exact finVDE 0 rfl rfl rfl (RVal.close (v := .mk 5 0 0 [] (v.list.take n ++ [] ++ v.list.drop (n + 1)) []) i64_5 i64_0 i64_0 (by simp) hr4 RSl.nil)
    · rw [withoutF, if_neg k0, if_neg (fun h => s0 h.1), if_neg (fun h => v5 h.2), if_neg (fun h => by omega)] at hF; cases hF
      (apply w_sq; apply w_block; apply w_sq; apply w_reg; apply w_fld; rfl; apply w_ld; rfl; exact hc_i 2 rfl rfl; apply w_eql; rfl; rfl; apply w_mvb; rfl; apply w_done0; refine w_ifdF rfl (by omega) ?_; apply w_sq; apply w_reg; apply w_fld; rfl; apply w_ld; rfl; exact hc_i 1 rfl rfl; apply w_eql; rfl; rfl; apply w_mvb; rfl; refine w_gdF rfl (by omega) ?_; apply w_gF; rfl; apply w_gF; rfl; apply w_gF; rfl; apply w_pickFb; rfl; rfl; apply w_mvb; rfl; apply w_done0; apply w_ifF; rfl; apply w_sq; apply w_reg; apply w_fld; rfl; apply w_ld; rfl; exact hc_i 1 rfl rfl; apply w_eql; rfl; rfl; apply w_mvb; rfl; refine w_gdT rfl (by omega) ?_; apply w_gT; rfl; apply w_fld; rfl; apply w_gT; rfl; apply w_ld; rfl; exact hc_i 2 rfl rfl; apply w_gT; rfl; apply w_eql; rfl; rfl; apply w_pickTb; rfl; rfl; apply w_mvb; rfl; apply w_done0; refine w_ifdF rfl (by omega) ?_; apply w_sq; apply w_reg; apply w_fld; rfl; apply w_ld; rfl; exact hc_i 1 rfl rfl; apply w_eql; rfl; rfl; apply w_mvb; rfl; refine w_gdF rfl (by omega) ?_; apply w_gF; rfl; apply w_gF; rfl; apply w_gF; rfl; apply w_pickFb; rfl; rfl; apply w_mvb; rfl; apply w_done0; apply w_ifF; rfl; apply w_skip; apply w_sq; apply w_reg; apply w_bvZ)
      refine w_stE 0 [.int .i64 0, .int .i64 0, .int .i64 0, strV [], .slice none 0 0, .slice none 0 0] rfl rfl rfl rfl (Nat.le_of_ble_eq_true rfl) rfl rfl ?_
      (apply w_mvi; rfl; apply w_done0; apply w_ret)
      exact finVDE 0 rfl rfl rfl RVal.zero
  by_cases s2 : s.kind = 2
  · by_cases v5 : v.kind = 5
    · rw [withoutF, if_neg k0, if_neg (fun h => s0 h.1), if_neg (fun h => s1 h.1), if_pos ⟨s2, v5⟩] at hF; cases hF
      have hends := ends_le s (k := v.list.length) (by omega)
      (apply w_sq; apply w_block; apply w_sq; apply w_reg; apply w_fld; rfl; apply w_ld; rfl; exact hc_i 2 rfl rfl; apply w_eql; rfl; rfl; apply w_mvb; rfl; apply w_done0; refine w_ifdF rfl (by omega) ?_; apply w_sq; apply w_reg; apply w_fld; rfl; apply w_ld; rfl; exact hc_i 1 rfl rfl; apply w_eql; rfl; rfl; apply w_mvb; rfl; refine w_gdF rfl (by omega) ?_; apply w_gF; rfl; apply w_gF; rfl; apply w_gF; rfl; apply w_pickFb; rfl; rfl; apply w_mvb; rfl; apply w_done0; apply w_ifF; rfl; apply w_sq; apply w_reg; apply w_fld; rfl; apply w_ld; rfl; exact hc_i 1 rfl rfl; apply w_eql; rfl; rfl; apply w_mvb; rfl; refine w_gdF rfl (by omega) ?_; apply w_gF; rfl; apply w_gF; rfl; apply w_gF; rfl; apply w_pickFb; rfl; rfl; apply w_mvb; rfl; apply w_done0; apply w_ifF; rfl; apply w_sq; apply w_reg; apply w_fld; rfl; apply w_ld; rfl; exact hc_i 1 rfl rfl; apply w_eql; rfl; rfl; apply w_mvb; rfl; refine w_gdT rfl (by omega) ?_; apply w_gT; rfl; apply w_fld; rfl; apply w_gT; rfl; apply w_ld; rfl; exact hc_i 2 rfl rfl; apply w_gT; rfl; apply w_eql; rfl; rfl; apply w_pickTb; rfl; rfl; apply w_mvb; rfl; apply w_done0; refine w_ifdT rfl (by omega) ?_; apply w_sq; apply w_reg; apply w_ldb 1; rfl; rfl; rfl; apply w_fld; rfl; apply w_ld; rfl; exact hc_i 2 rfl rfl; apply w_len; rfl)
      refine w_pure rfl (h5 hs (by omega) (by omega)) ?_
      obtain ⟨A, B, hab⟩ : ∃ A B : Int, endsF s v.list.length = (A, B) := ⟨_, _, rfl⟩
      rw [hab] at hends ⊢
      simp only at hends ⊢
      obtain ⟨a, rfl⟩ : ∃ a : Nat, A = (a : Int) := ⟨A.toNat, by omega⟩
      obtain ⟨b, rfl⟩ : ∃ b : Nat, B = (b : Int) := ⟨B.toNat, by omega⟩
      simp only [Int.toNat_natCast]
      (apply w_mvu; rfl; apply w_ext; rfl; rfl; apply w_ext; rfl; rfl; apply w_mvi; rfl; apply w_mvi; rfl; apply w_done0; apply w_sq; apply w_reg; apply w_fld; rfl; apply w_ld; rfl; exact hc_i 2 rfl rfl; apply w_mvi; rfl; apply w_mvi; rfl)
      refine w_call0 rfl (h3 (i := a) (j := b) (ys := []) hl RSl.nil (by omega) (by omega) (by simp; omega)) (fun r d4 L4 hl4 ⟨hL, hr4⟩ => ?_)
      subst hL
      obtain ⟨sa, sc, rfl⟩ := RSl.val hr4
      (apply w_bvKL; rfl; rfl)
      refine w_stE 0 [.int .i64 5, .int .i64 0, .int .i64 0, strV [], .slice sa _ sc, .slice none 0 0] rfl rfl rfl rfl (Nat.le_of_ble_eq_true rfl) rfl rfl ?_
      (apply w_mvi; rfl; apply w_done0; apply w_ret)
      exact finVDE 0 rfl rfl rfl (RVal.close (v := .mk 5 0 0 [] (v.list.take a ++ [] ++ v.list.drop b) []) i64_5 i64_0 i64_0 (by simp) hr4 RSl.nil)
    rw [withoutF, if_neg k0, if_neg (fun h => s0 h.1), if_neg (fun h => s1 h.1), if_neg (fun h => v5 h.2)] at hF; cases hF
    (apply w_sq; apply w_block; apply w_sq; apply w_reg; apply w_fld; rfl; apply w_ld; rfl; exact hc_i 2 rfl rfl; apply w_eql; rfl; rfl; apply w_mvb; rfl; apply w_done0; refine w_ifdF rfl (by omega) ?_; apply w_sq; apply w_reg; apply w_fld; rfl; apply w_ld; rfl; exact hc_i 1 rfl rfl; apply w_eql; rfl; rfl; apply w_mvb; rfl; refine w_gdF rfl (by omega) ?_; apply w_gF; rfl; apply w_gF; rfl; apply w_gF; rfl; apply w_pickFb; rfl; rfl; apply w_mvb; rfl; apply w_done0; apply w_ifF; rfl; apply w_sq; apply w_reg; apply w_fld; rfl; apply w_ld; rfl; exact hc_i 1 rfl rfl; apply w_eql; rfl; rfl; apply w_mvb; rfl; refine w_gdF rfl (by omega) ?_; apply w_gF; rfl; apply w_gF; rfl; apply w_gF; rfl; apply w_pickFb; rfl; rfl; apply w_mvb; rfl; apply w_done0; apply w_ifF; rfl; apply w_sq; apply w_reg; apply w_fld; rfl; apply w_ld; rfl; exact hc_i 1 rfl rfl; apply w_eql; rfl; rfl; apply w_mvb; rfl; refine w_gdT rfl (by omega) ?_; apply w_gT; rfl; apply w_fld; rfl; apply w_gT; rfl; apply w_ld; rfl; exact hc_i 2 rfl rfl; apply w_gT; rfl; apply w_eql; rfl; rfl; apply w_pickTb; rfl; rfl; apply w_mvb; rfl; apply w_done0; refine w_ifdF rfl (by omega) ?_; apply w_skip; apply w_sq; apply w_reg; apply w_bvZ)
    refine w_stE 0 [.int .i64 0, .int .i64 0, .int .i64 0, strV [], .slice none 0 0, .slice none 0 0] rfl rfl rfl rfl (Nat.le_of_ble_eq_true rfl) rfl rfl ?_
    (apply w_mvi; rfl; apply w_done0; apply w_ret)
    exact finVDE 0 rfl rfl rfl RVal.zero
  rw [withoutF, if_neg k0, if_neg (fun h => s0 h.1), if_neg (fun h => s1 h.1), if_neg (fun h => s2 h.1)] at hF; cases hF
  (apply w_sq; apply w_block; apply w_sq; apply w_reg; apply w_fld; rfl; apply w_ld; rfl; exact hc_i 2 rfl rfl; apply w_eql; rfl; rfl; apply w_mvb; rfl; apply w_done0; refine w_ifdF rfl (by omega) ?_; apply w_sq; apply w_reg; apply w_fld; rfl; apply w_ld; rfl; exact hc_i 1 rfl rfl; apply w_eql; rfl; rfl; apply w_mvb; rfl; refine w_gdF rfl (by omega) ?_; apply w_gF; rfl; apply w_gF; rfl; apply w_gF; rfl; apply w_pickFb; rfl; rfl; apply w_mvb; rfl; apply w_done0; apply w_ifF; rfl; apply w_sq; apply w_reg; apply w_fld; rfl; apply w_ld; rfl; exact hc_i 1 rfl rfl; apply w_eql; rfl; rfl; apply w_mvb; rfl; refine w_gdF rfl (by omega) ?_; apply w_gF; rfl; apply w_gF; rfl; apply w_gF; rfl; apply w_pickFb; rfl; rfl; apply w_mvb; rfl; apply w_done0; apply w_ifF; rfl; apply w_sq; apply w_reg; apply w_fld; rfl; apply w_ld; rfl; exact hc_i 1 rfl rfl; apply w_eql; rfl; rfl; apply w_mvb; rfl; refine w_gdF rfl (by omega) ?_; apply w_gF; rfl; apply w_gF; rfl; apply w_gF; rfl; apply w_pickFb; rfl; rfl; apply w_mvb; rfl; apply w_done0; apply w_ifF; rfl; apply w_skip; apply w_sq; apply w_reg; apply w_bvZ)
  refine w_stE 0 [.int .i64 0, .int .i64 0, .int .i64 0, strV [], .slice none 0 0, .slice none 0 0] rfl rfl rfl rfl (Nat.le_of_ble_eq_true rfl) rfl rfl ?_
  (apply w_mvi; rfl; apply w_done0; apply w_ret)
  exact finVDE 0 rfl rfl rfl RVal.zero
end Go.Gk.Val
end

section
/-
  Ways: something is dropped.
-/
namespace Go.Gk.Val
open Go Go.Gk Go.Gk.Utf
attribute [local irreducible] gwp gws

def dropF : V → List St → V × Int
  | _, [] => (V.zero, 0)
  | v, [s] => withoutF v s
  | v, s :: s2 :: l => if (intoF v s).2 ≠ 0 ∨ (intoF v s).1.kind = 0 then (v, (intoF v s).2) else if (dropF (intoF v s).1 (s2 :: l)).2 ≠ 0 then (v, (dropF (intoF v s).1 (s2 :: l)).2) else setF v s (dropF (intoF v s).1 (s2 :: l)).1
theorem without_cnt (v : V) (s : St) : cntV (withoutF v s).1 ≤ cntV v := by
  have h3 := cntV_eq v
  have hz : cntV V.zero = 1 := by decide
  have key : ∀ (i j : Nat), i ≤ j → ∀ ks : List (List UInt8), ks.length ≤ v.keys.length → cntV (.mk 5 0 0 [] (v.list.take i ++ [] ++ v.list.drop j) ks) ≤ cntV v ∧ cntV (.mk 6 0 0 [] (v.list.take i ++ [] ++ v.list.drop j) ks) ≤ cntV v := by
    intro i j hij ks hk
    have h4 := cnts_cut (l := v.list) hij
    rw [cntV_eq, cntV_eq]
    show 1 + ks.length + cnts (v.list.take i ++ [] ++ v.list.drop j) ≤ _ ∧ 1 + ks.length + cnts (v.list.take i ++ [] ++ v.list.drop j) ≤ _
    rw [cnts_app, cnts_app]
    simp only [cnts]
    omega
  unfold withoutF
  split
  · exact Nat.le_refl _
  split
  · simp only
    split
    · exact (key _ _ (by omega) _ (by simp; omega)).2
    · exact Nat.le_refl _
  split
  · simp only
    split
    · exact Nat.le_refl _
    · exact (key _ _ (by omega) _ (by simp)).1
  split
  · have he := ends_le s (k := v.list.length) (by omega)
    exact (key _ _ (by omega) _ (by simp)).1
  · simp only [hz]; omega
theorem drop_cnt : ∀ (l : List St) (v : V), txtV v ≤ 1000000 → cntV (dropF v l).1 ≤ 1000000 + l.length * 1004100
  | [], v, _ => by
    have hz : cntV V.zero = 1 := by decide
    simp [dropF, hz]
  | [s], v, hb => by
    have h1 := without_cnt v s
    have h4 := cnt_txt v
    simp only [dropF, List.length_singleton]; omega
  | s :: s2 :: l, v, hb => by
    have h2 := drop_cnt (s2 :: l) (intoF v s).1 (Nat.le_trans (into_txt v s) hb)
    have h3 := set_cnt v s (dropF (intoF v s).1 (s2 :: l)).1
    have h4 := cnt_txt v
    rw [dropF]
    simp only [List.length_cons] at h2 ⊢
    split
    · simp only; omega
    split
    · simp only; omega
    · omega
def DropROk (P : Program) (f : FuncId) : Prop := ∀ (l : List St) {d : PHeap} {cs : List Value} {w : Value} {v : V}, RVal d cs v → Gd v → txtV v ≤ 1000000 → RSl 6 RSt d w l → l.length ≤ 100 →
  GCall P f [.agg cs.toArray, w] d [] (Ret fun r d' L' => L' = [] ∧ ∃ cs', r = .tuple #[.agg cs'.toArray, .int .i64 (dropF v l).2] ∧ RVal d' cs' (dropF v l).1)
def g_steps_drop (f_steps_without f_steps_into f_steps_drop f_steps_set : Nat) : GFun :=
 ⟨58, [(.cell 4 (some 6)), (.tmp 5)],
 (.seq
 (.reg false (.op false ⟨(some 2), none, (.box (.tmp 0))⟩
  (.op false ⟨(some 4), none, (.alo (.agg #[(.int .i64 0), (.int .i64 0), (.int .i64 0), (strV []), (.slice none 0 0), (.slice none 0 0)]))⟩
  (.op false ⟨(some 5), none, (.mv (.const (.int .i64 0)))⟩ .done))))
 (.seq (.seq
 (.reg false (.op false ⟨(some 8), none, (.mv (.tmp 1))⟩
  (.op false ⟨(some 9), none, (.len (.tmp 8))⟩ .done))) (.block 0
 (.seq
 (.reg false (.op false ⟨(some 11), none, (.bin .eql (.tmp 9) (.const (.int .i64 0)))⟩
  (.op false ⟨(some 10), none, (.mv (.tmp 11))⟩ .done))) (.cond (.tmp 10)
 (.seq
 (.reg false (.op false ⟨(some 12), none, (.bld [(0, 1), (1, 2), (3, 1), (4, 1), (5, 1)] [(.int .i64 0), (.int .i64 0), (.int .i64 0), (strV []), (.slice none 0 0), (.slice none 0 0)] [])⟩
  (.op false ⟨none, none, (.st 6 (.tmp 4) (.tmp 12))⟩
  (.op false ⟨(some 5), none, (.mv (.const (.int .i64 0)))⟩ .done)))) .ret)
 (.seq
 (.reg false (.op false ⟨(some 14), none, (.bin .eql (.tmp 9) (.const (.int .i64 1)))⟩
  (.op false ⟨(some 13), none, (.mv (.tmp 14))⟩ .done))) (.cond (.tmp 13)
 (.seq
 (.reg true (.op true ⟨(some 15), none, (.ld (some 6) (.tmp 2))⟩
  (.op true ⟨(some 16), none, (.mv (.tmp 1))⟩
  (.op true ⟨(some 17), none, (.idx 6 (.tmp 16) (.const (.int .i64 0)))⟩
  (.op true ⟨(some 18), none, (.ld (some 6) (.tmp 17))⟩
  (.op false ⟨(some 19), none, (.call f_steps_without [(.tmp 15), (.tmp 18)])⟩
  (.op true ⟨(some 20), none, (.ext (.tmp 19) 0)⟩
  (.op true ⟨(some 21), none, (.ext (.tmp 19) 1)⟩
  (.bar (.op false ⟨none, none, (.st 6 (.tmp 4) (.tmp 20))⟩
  (.op true ⟨(some 5), none, (.mv (.tmp 21))⟩ .done))))))))))) .ret) .skip))))))
 (.seq
 (.reg true (.op true ⟨(some 23), none, (.ld (some 6) (.tmp 2))⟩
  (.op true ⟨(some 24), none, (.mv (.tmp 1))⟩
  (.op true ⟨(some 25), none, (.idx 6 (.tmp 24) (.const (.int .i64 0)))⟩
  (.op true ⟨(some 26), none, (.ld (some 6) (.tmp 25))⟩
  (.alt ⟨(some 27), none, (.call f_steps_into [(.tmp 23), (.tmp 26)])⟩
  (.op true ⟨(some 22), none, (.mv (.tmp 27))⟩
  (.op true ⟨(some 28), none, (.ext (.tmp 22) 0)⟩
  (.op true ⟨(some 29), none, (.ext (.tmp 22) 1)⟩
  (.op false ⟨(some 6), none, (.alo (.agg #[(.int .i64 0), (.int .i64 0), (.int .i64 0), (strV []), (.slice none 0 0), (.slice none 0 0)]))⟩
  (.op false ⟨none, none, (.st 6 (.tmp 6) (.tmp 28))⟩
  (.op true ⟨(some 7), none, (.mv (.tmp 29))⟩ .done)))))) (.op false ⟨(some 6), none, (.alo (.agg #[(.int .i64 0), (.int .i64 0), (.int .i64 0), (strV []), (.slice none 0 0), (.slice none 0 0)]))⟩
  (.op false ⟨(some 27), none, (.call f_steps_into [(.tmp 23), (.tmp 26)])⟩
  (.op true ⟨(some 22), none, (.mv (.tmp 27))⟩
  (.op true ⟨(some 28), none, (.ext (.tmp 22) 0)⟩
  (.op true ⟨(some 29), none, (.ext (.tmp 22) 1)⟩
  (.op false ⟨none, none, (.st 6 (.tmp 6) (.tmp 28))⟩
  (.op true ⟨(some 7), none, (.mv (.tmp 29))⟩ .done)))))))))))))
 (.seq (.seq
 (.reg false (.op false ⟨(some 30), none, (.mv (.tmp 7))⟩
  (.op false ⟨(some 31), none, (.bin .neq (.tmp 30) (.const (.int .i64 0)))⟩
  (.op false ⟨(some 32), none, (.mv (.tmp 31))⟩
  (.op false ⟨(some 33), (some (32, false)), (.fld 0 (.tmp 6))⟩
  (.op false ⟨(some 34), (some (32, false)), (.ld none (.tmp 33))⟩
  (.op false ⟨(some 35), (some (32, false)), (.bin .eql (.tmp 34) (.const (.int .i64 0)))⟩
  (.op false ⟨(some 36), none, (.pick (.tmp 32) (.const (.bool true)) (.tmp 35))⟩ .done)))))))) (.cond (.tmp 36)
 (.seq
 (.reg false (.op false ⟨(some 37), none, (.ld (some 6) (.tmp 2))⟩
  (.op false ⟨(some 38), none, (.mv (.tmp 7))⟩
  (.op false ⟨none, none, (.st 6 (.tmp 4) (.tmp 37))⟩
  (.op false ⟨(some 5), none, (.mv (.tmp 38))⟩ .done))))) .ret) .skip))
 (.seq
 (.reg true (.op true ⟨(some 41), none, (.mv (.tmp 1))⟩
  (.op true ⟨(some 42), none, (.sl 6 (.tmp 41) (some (.const (.int .i64 1))) none none)⟩
  (.op false ⟨(some 40), none, (.ld (some 6) (.tmp 6))⟩
  (.op false ⟨(some 43), none, (.call f_steps_drop [(.tmp 40), (.tmp 42)])⟩
  (.op true ⟨(some 39), none, (.mv (.tmp 43))⟩
  (.op true ⟨(some 44), none, (.ext (.tmp 39) 0)⟩
  (.op true ⟨(some 45), none, (.ext (.tmp 39) 1)⟩
  (.op false ⟨none, none, (.st 6 (.tmp 6) (.tmp 44))⟩
  (.op true ⟨(some 7), none, (.mv (.tmp 45))⟩ .done))))))))))
 (.seq (.seq
 (.reg false (.op false ⟨(some 46), none, (.mv (.tmp 7))⟩
  (.op false ⟨(some 47), none, (.bin .neq (.tmp 46) (.const (.int .i64 0)))⟩ .done))) (.cond (.tmp 47)
 (.seq
 (.reg false (.op false ⟨(some 48), none, (.ld (some 6) (.tmp 2))⟩
  (.op false ⟨(some 49), none, (.mv (.tmp 7))⟩
  (.op false ⟨none, none, (.st 6 (.tmp 4) (.tmp 48))⟩
  (.op false ⟨(some 5), none, (.mv (.tmp 49))⟩ .done))))) .ret) .skip))
 (.seq
 (.reg true (.op true ⟨(some 50), none, (.ld (some 6) (.tmp 2))⟩
  (.op true ⟨(some 51), none, (.mv (.tmp 1))⟩
  (.op true ⟨(some 52), none, (.idx 6 (.tmp 51) (.const (.int .i64 0)))⟩
  (.op true ⟨(some 53), none, (.ld (some 6) (.tmp 52))⟩
  (.op true ⟨(some 54), none, (.ld (some 6) (.tmp 6))⟩
  (.op false ⟨(some 55), none, (.call f_steps_set [(.tmp 50), (.tmp 53), (.tmp 54)])⟩
  (.op true ⟨(some 56), none, (.ext (.tmp 55) 0)⟩
  (.op true ⟨(some 57), none, (.ext (.tmp 55) 1)⟩
  (.bar (.op false ⟨none, none, (.st 6 (.tmp 4) (.tmp 56))⟩
  (.op true ⟨(some 5), none, (.mv (.tmp 57))⟩ .done)))))))))))) .ret)))))))⟩

set_option maxHeartbeats 2000000 in
theorem dropr_ok {P : Program} {f f1 f2 f3 : FuncId} (hd : dec P f = some (g_steps_drop f1 f2 f f3)) (h1 : WithoutOk P f1) (h2 : IntoOk P f2) (h3 : SetOk P f3) : DropROk P f := by
  intro l
  induction l with
  | nil =>
    intro d cs w v hv hg hb hw hll
    obtain ⟨a, c, rfl⟩ := RSl.val hw
    refine GCall_of hd (Nat.le_of_ble_eq_true rfl) ?_
    obtain ⟨c0, c1, c2, c3, c4, c5, rfl⟩ := six hv.len
    show gwp P _ _ _ _ _
    apply w_sq; apply w_reg
    refine w_boxa (l := [c0, c1, c2, c3, c4, c5]) rfl (fun b2 T2 => ?_)
    have hz : (([] : List St).length : Int) = 0 := rfl
    (apply w_alo; intro _ _; apply w_mvi; rfl; apply w_done0; apply w_sq; apply w_sq; apply w_reg; apply w_mvs; rfl; apply w_len; rfl; apply w_done0; apply w_block; apply w_sq; apply w_reg; apply w_eql; rfl; rfl; apply w_mvb; rfl; apply w_done0; refine w_ifdT rfl (by omega) ?_; apply w_sq; apply w_reg; apply w_bvZ)
    refine w_stE 0 [.int .i64 0, .int .i64 0, .int .i64 0, strV [], .slice none 0 0, .slice none 0 0] rfl rfl rfl rfl (Nat.le_of_ble_eq_true rfl) rfl rfl ?_
    (apply w_mvi; rfl; apply w_done0; apply w_ret)
    exact finVDE 0 rfl rfl rfl RVal.zero
  | cons s l ih =>
    intro d cs w v hv hg hb hw hll
    have n1 := RSl.len_le hw
    obtain ⟨a, c, rfl⟩ := RSl.val hw
    have hw' := hw
    have hcb := cnt_txt v
    refine GCall_of hd (Nat.le_of_ble_eq_true rfl) ?_
    have hv0 := hv
    obtain ⟨c0, c1, c2, c3, c4, c5, rfl⟩ := six hv.len
    show gwp P _ _ _ _ _
    apply w_sq; apply w_reg
    refine w_boxa (l := [c0, c1, c2, c3, c4, c5]) rfl (fun b2 T2 => ?_)
    (apply w_alo; intro _ _; apply w_mvi; rfl; apply w_done0)
    rename_i b4 T4
    cases l with
    | nil =>
      have hz : (([s] : List St).length : Int) = 1 := rfl
      (apply w_sq; apply w_sq; apply w_reg; apply w_mvs; rfl; apply w_len; rfl; apply w_done0; apply w_block; apply w_sq; apply w_reg; apply w_eql; rfl; rfl; apply w_mvb; rfl; apply w_done0; refine w_ifdF rfl (by omega) ?_; apply w_sq; apply w_reg; apply w_eql; rfl; rfl; apply w_mvb; rfl; apply w_done0; refine w_ifdT rfl (by omega) ?_; apply w_sq)
      refine w_drawn ?_
      (apply w_ldb 1; rfl; rfl; rfl; apply w_mvs; rfl; refine w_idxR (m := 0) (sz := 6) (R := RSt) (by rfl) (by assumption) (by rfl) rfl (by omega) ?_; rintro _ _ _ _ _ ⟨rfl, _, _, _, _⟩; apply w_ldd; rfl; assumption; rfl)
      rename_i hcs hD ik' it' is id
      refine w_call0 rfl (h1 hv (gd_one hg) ⟨rfl, ik', it', is, id⟩ (by omega)) (fun r d5 L5 hl5 ⟨hL, cs', hr, hR2⟩ => ?_)
      subst hL; subst hr
      obtain ⟨g0, g1, g2, g3, g4, g5, rfl⟩ := six hR2.len
      (apply w_ext; rfl; rfl; apply w_ext; rfl; rfl; apply w_bar)
      refine w_stE 0 [g0, g1, g2, g3, g4, g5] rfl rfl rfl rfl (Nat.le_of_ble_eq_true rfl) (cell1_val _ _ _ hR2) rfl ?_
      (apply w_mvi; rfl; apply w_done0; apply w_ret)
      exact finVDE 0 rfl rfl rfl hR2
    | cons s2 l =>
    have hz : ((s :: s2 :: l).length : Int) = l.length + 2 := by simp; omega
    have hcnt := drop_cnt (s2 :: l) (intoF v s).1 (Nat.le_trans (into_txt v s) hb)
    have hll' : (s2 :: l).length ≤ 99 := by rw [List.length_cons] at hll; omega
    (apply w_sq; apply w_sq; apply w_reg; apply w_mvs; rfl; apply w_len; rfl; apply w_done0; apply w_block; apply w_sq; apply w_reg; apply w_eql; rfl; rfl; apply w_mvb; rfl; apply w_done0; refine w_ifdF rfl (by omega) ?_; apply w_sq; apply w_reg; apply w_eql; rfl; rfl; apply w_mvb; rfl; apply w_done0; refine w_ifdF rfl (by omega) ?_)
    apply w_skip
    refine w_mid (fun ρ d' L' => d' = d ∧ ∃ b6 T6 e1 e2 e3 e4 e5, SlotsAre ρ [(1, .slice a (s :: s2 :: l).length c), (2, .pointer (some ⟨b2, 0, none⟩)), (4, .pointer (some ⟨b4, 0, none⟩)), (6, .pointer (some ⟨b6, 0, none⟩)), (7, .int .i64 (intoF v s).2)] ∧ RVal d [.int .i64 (intoF v s).1.kind, e1, e2, e3, e4, e5] (intoF v s).1 ∧
      L' = [bx b4 T4 [.int .i64 0, .int .i64 0, .int .i64 0, strV [], .slice none 0 0, .slice none 0 0], bx b2 T2 [c0, c1, c2, c3, c4, c5], bx b6 T6 [.int .i64 (intoF v s).1.kind, e1, e2, e3, e4, e5]]) ?_ ?_
    · refine w_drawn ?_
      (apply w_ldb 1; rfl; rfl; rfl; apply w_mvs; rfl; refine w_idxR (m := 0) (sz := 6) (R := RSt) (by rfl) (by assumption) (by rfl) rfl (by omega) ?_; rintro _ _ _ _ _ ⟨rfl, _, _, _, _⟩; apply w_ldd; rfl; assumption; rfl)
      rename_i hcs hD ik' it' is id
      have hS : RSt d [.int .i64 s.kind, strV s.text, .int .i64 s.src, .int .i64 s.dst, .bool s.hf, .bool s.ht] s := ⟨rfl, ik', it', is, id⟩
      refine w_alt ?_ ?_
      · refine w_call0 rfl (h2 hv (gd_one hg) (gd_text hg) hS) (fun r d3 L3 _ ⟨hdd, hL, cs', hr, hR'⟩ => ?_)
        subst hdd; subst hL; subst hr
        obtain ⟨lv', kv', rfl, _⟩ := hR'.open
        (apply w_mvu; rfl; apply w_ext; rfl; rfl; apply w_ext; rfl; rfl; apply w_alo; intro _ _)
        rename_i b6 T6
        refine w_stE 0 [.int .i64 (intoF v s).1.kind, .int .i64 (intoF v s).1.m, .int .i64 (intoF v s).1.e, strV (intoF v s).1.text, lv', kv'] rfl rfl rfl rfl (Nat.le_of_ble_eq_true rfl) (cell1_val _ _ _ hR') rfl ?_
        (apply w_mvi; rfl; apply w_done)
        exact ⟨rfl, b6, T6, _, _, _, _, _, ⟨rfl, rfl, rfl, rfl, rfl, trivial⟩, hR', rfl⟩
      · (apply w_alo; intro _ _)
        rename_i b6 T6
        refine w_call0 rfl (h2 hv (gd_one hg) (gd_text hg) hS) (fun r d3 L3 _ ⟨hdd, hL, cs', hr, hR'⟩ => ?_)
        subst hdd; subst hL; subst hr
        obtain ⟨lv', kv', rfl, _⟩ := hR'.open
        (apply w_mvu; rfl; apply w_ext; rfl; rfl; apply w_ext; rfl; rfl)
        refine w_stE 0 [.int .i64 (intoF v s).1.kind, .int .i64 (intoF v s).1.m, .int .i64 (intoF v s).1.e, strV (intoF v s).1.text, lv', kv'] rfl rfl rfl rfl (Nat.le_of_ble_eq_true rfl) (cell1_val _ _ _ hR') rfl ?_
        (apply w_mvi; rfl; apply w_done)
        exact ⟨rfl, b6, T6, _, _, _, _, _, ⟨rfl, rfl, rfl, rfl, rfl, trivial⟩, hR', rfl⟩
    rintro ρ d' L' ⟨hdd, b6, T6, e1, e2, e3, e4, e5, hsl, hR, hL⟩
    subst hdd; subst hL
    refine gwp_slots _ hsl ?_
    clear hsl
    rw [dropF]
    by_cases he : (intoF v s).2 ≠ 0
    · rw [if_pos (.inl he)]
      (apply w_sq; apply w_sq; apply w_reg; apply w_mvi; rfl; apply w_neq; rfl; rfl; apply w_mvb; rfl; refine w_gdT rfl (by omega) ?_; apply w_gF; rfl; apply w_gF; rfl; apply w_gF; rfl; apply w_pickTb; rfl; rfl; apply w_done0; apply w_ifT; rfl; apply w_sq; apply w_reg; apply w_ldb 1; rfl; rfl; rfl; apply w_mvi; rfl)
      refine w_stE 0 [c0, c1, c2, c3, c4, c5] rfl rfl rfl rfl (Nat.le_of_ble_eq_true rfl) (cell1_val _ _ _ hv0) rfl ?_
      (apply w_mvi; rfl; apply w_done0; apply w_ret)
      exact finVDE 0 rfl rfl rfl hv0
    by_cases hk0 : (intoF v s).1.kind = 0
    · rw [if_pos (.inr hk0)]
      (apply w_sq; apply w_sq; apply w_reg; apply w_mvi; rfl; apply w_neq; rfl; rfl; apply w_mvb; rfl; refine w_gdF rfl (by omega) ?_; apply w_gT; rfl; apply w_fld; rfl; apply w_gT; rfl; apply w_ld; rfl; exact hc_i 2 rfl rfl; apply w_gT; rfl; apply w_eql; rfl; rfl; apply w_pickFb; rfl; rfl; apply w_done0; refine w_ifdT rfl (by omega) ?_; apply w_sq; apply w_reg; apply w_ldb 1; rfl; rfl; rfl; apply w_mvi; rfl)
      refine w_stE 0 [c0, c1, c2, c3, c4, c5] rfl rfl rfl rfl (Nat.le_of_ble_eq_true rfl) (cell1_val _ _ _ hv0) rfl ?_
      (apply w_mvi; rfl; apply w_done0; apply w_ret)
      exact finVDE 0 rfl rfl rfl hv0
    rw [if_neg (fun h => h.elim he hk0)]
    (apply w_sq; apply w_sq; apply w_reg; apply w_mvi; rfl; apply w_neq; rfl; rfl; apply w_mvb; rfl; refine w_gdF rfl (by omega) ?_; apply w_gT; rfl; apply w_fld; rfl; apply w_gT; rfl; apply w_ld; rfl; exact hc_i 2 rfl rfl; apply w_gT; rfl; apply w_eql; rfl; rfl; apply w_pickFb; rfl; rfl; apply w_done0; refine w_ifdF rfl (by omega) ?_; apply w_skip; apply w_sq)
    refine w_drawnA [bx b4 T4 [.int .i64 0, .int .i64 0, .int .i64 0, strV [], .slice none 0 0, .slice none 0 0], bx b2 T2 [c0, c1, c2, c3, c4, c5]] [bx b6 T6 [.int .i64 (intoF v s).1.kind, e1, e2, e3, e4, e5]] rfl ?_
    (apply w_mvs; rfl)
    refine w_slFrom (n := 1) rfl hw' rfl rfl (by simp) (fun v' hv' => ?_)
    (apply w_ldb 2; rfl; rfl; rfl)
    refine w_call0 rfl (ih hR (into_gd hg s) (Nat.le_trans (into_txt v s) hb) hv' (by omega)) (fun r d4 L4 hl4 ⟨hL, cs', hr, hR'⟩ => ?_)
    subst hL; subst hr
    obtain ⟨f0, f1, f2, f3, f4, f5, rfl⟩ := six hR'.len
    (apply w_mvu; rfl; apply w_ext; rfl; rfl; apply w_ext; rfl; rfl)
    refine w_stE 0 [f0, f1, f2, f3, f4, f5] rfl rfl rfl rfl (Nat.le_of_ble_eq_true rfl) (cell1_val _ _ _ hR') rfl ?_
    have hv4 := RVal.mono hl4 hv0
    by_cases he2 : (dropF (intoF v s).1 (s2 :: l)).2 ≠ 0
    · rw [if_pos he2]
      (apply w_mvi; rfl; apply w_done; apply w_sq; apply w_sq; apply w_reg; apply w_mvi; rfl; apply w_neq; rfl; rfl; apply w_done0; refine w_ifdT rfl (by omega) ?_; apply w_sq; apply w_reg; apply w_ldb 1; rfl; rfl; rfl; apply w_mvi; rfl)
      refine w_stE 0 [c0, c1, c2, c3, c4, c5] rfl rfl rfl rfl (Nat.le_of_ble_eq_true rfl) (cell1_val _ _ _ hv0) rfl ?_
      (apply w_mvi; rfl; apply w_done0; apply w_ret)
      exact finVDE 0 rfl rfl rfl hv4
    rw [if_neg he2]
    have hw4 : RSl 6 RSt d4 (.slice a (s :: s2 :: l).length c) (s :: s2 :: l) := RSl.mono (R := RSt) (fun hl h => h) hw' hl4
    (apply w_mvi; rfl; apply w_done; apply w_sq; apply w_sq; apply w_reg; apply w_mvi; rfl; apply w_neq; rfl; rfl; apply w_done0; refine w_ifdF rfl (by omega) ?_; apply w_skip; apply w_sq)
    refine w_drawn ?_
    (apply w_ldb 1; rfl; rfl; rfl; apply w_mvs; rfl; refine w_idxR (m := 0) (sz := 6) (R := RSt) (by rfl) (by assumption) (by rfl) rfl (by omega) ?_; rintro _ _ _ _ _ ⟨rfl, _, _, _, _⟩; apply w_ldd; rfl; assumption; rfl; apply w_ldb 2; rfl; rfl; rfl)
    rename_i hcs hD ik' it' is id
    refine w_call0 rfl (h3 hv4 (gd_one hg) ⟨rfl, ik', it', is, id⟩ hR' (by omega)) (fun r d5 L5 hl5 ⟨hL, cs', hr, hR2⟩ => ?_)
    subst hL; subst hr
    obtain ⟨g0, g1, g2, g3, g4, g5, rfl⟩ := six hR2.len
    (apply w_ext; rfl; rfl; apply w_ext; rfl; rfl; apply w_bar)
    refine w_stE 0 [g0, g1, g2, g3, g4, g5] rfl rfl rfl rfl (Nat.le_of_ble_eq_true rfl) (cell1_val _ _ _ hR2) rfl ?_
    (apply w_mvi; rfl; apply w_done0; apply w_ret)
    exact finVDE 0 rfl rfl rfl hR2
def dropTop (v : V) (l : List St) : V × Int := if wrongF v l ≠ 0 then (V.zero, wrongF v l) else if (dropF v l).2 ≠ 0 then (V.zero, (dropF v l).2) else ((dropF v l).1, 0)
def DropOk (T : PHeap → Prop) (P : Program) (f : FuncId) : Prop := ∀ {d : PHeap} {cs : List Value} {w : Value} {v : V} {l : List St}, T d → RVal d cs v → RSl 6 RSt d w l → txtV v ≤ 1000000 → l.length ≤ 100 →
  GCall P f [.agg cs.toArray, w] d [] (Ret fun r d' L' => d' = d ∧ ∃ cs' h, r = .tuple #[.agg cs'.toArray, .int .i64 (dropTop v l).2] ∧ L' = [h] ∧ OVal cs' (dropTop v l).1 h)
def g_steps_Drop (f_steps_wrong f_steps_drop f_value_Copy : Nat) : GFun :=
 ⟨28, [(.cell 4 (some 6)), (.tmp 5)],
 (.seq
 (.reg false (.op false ⟨(some 2), none, (.box (.tmp 0))⟩
  (.op false ⟨(some 4), none, (.alo (.agg #[(.int .i64 0), (.int .i64 0), (.int .i64 0), (strV []), (.slice none 0 0), (.slice none 0 0)]))⟩
  (.op false ⟨(some 5), none, (.mv (.const (.int .i64 0)))⟩ .done))))
 (.seq (.seq
 (.reg false (.op false ⟨(some 9), none, (.ld (some 6) (.tmp 2))⟩
  (.op false ⟨(some 10), none, (.mv (.tmp 1))⟩
  (.op false ⟨(some 11), none, (.call f_steps_wrong [(.tmp 9), (.tmp 10)])⟩
  (.op false ⟨(some 6), none, (.mv (.tmp 11))⟩ .done)))))
 (.seq
 (.reg false (.op false ⟨(some 12), none, (.mv (.tmp 6))⟩
  (.op false ⟨(some 13), none, (.bin .neq (.tmp 12) (.const (.int .i64 0)))⟩ .done))) (.cond (.tmp 13)
 (.seq
 (.reg false (.op false ⟨(some 14), none, (.bld [(0, 1), (1, 2), (3, 1), (4, 1), (5, 1)] [(.int .i64 0), (.int .i64 0), (.int .i64 0), (strV []), (.slice none 0 0), (.slice none 0 0)] [])⟩
  (.op false ⟨(some 15), none, (.mv (.tmp 6))⟩
  (.op false ⟨none, none, (.st 6 (.tmp 4) (.tmp 14))⟩
  (.op false ⟨(some 5), none, (.mv (.tmp 15))⟩ .done))))) .ret) .skip)))
 (.seq
 (.reg false (.op false ⟨(some 17), none, (.ld (some 6) (.tmp 2))⟩
  (.op false ⟨(some 18), none, (.mv (.tmp 1))⟩
  (.op false ⟨(some 19), none, (.call f_steps_drop [(.tmp 17), (.tmp 18)])⟩
  (.op false ⟨(some 16), none, (.mv (.tmp 19))⟩
  (.op false ⟨(some 20), none, (.ext (.tmp 16) 0)⟩
  (.op false ⟨(some 21), none, (.ext (.tmp 16) 1)⟩
  (.op false ⟨(some 7), none, (.alo (.agg #[(.int .i64 0), (.int .i64 0), (.int .i64 0), (strV []), (.slice none 0 0), (.slice none 0 0)]))⟩
  (.op false ⟨none, none, (.st 6 (.tmp 7) (.tmp 20))⟩
  (.op false ⟨(some 8), none, (.mv (.tmp 21))⟩ .done))))))))))
 (.seq (.seq
 (.reg false (.op false ⟨(some 22), none, (.mv (.tmp 8))⟩
  (.op false ⟨(some 23), none, (.bin .neq (.tmp 22) (.const (.int .i64 0)))⟩ .done))) (.cond (.tmp 23)
 (.seq
 (.reg false (.op false ⟨(some 24), none, (.bld [(0, 1), (1, 2), (3, 1), (4, 1), (5, 1)] [(.int .i64 0), (.int .i64 0), (.int .i64 0), (strV []), (.slice none 0 0), (.slice none 0 0)] [])⟩
  (.op false ⟨(some 25), none, (.mv (.tmp 8))⟩
  (.op false ⟨none, none, (.st 6 (.tmp 4) (.tmp 24))⟩
  (.op false ⟨(some 5), none, (.mv (.tmp 25))⟩ .done))))) .ret) .skip))
 (.seq
 (.reg false (.op false ⟨(some 26), none, (.ld (some 6) (.tmp 7))⟩
  (.op false ⟨(some 27), none, (.call f_value_Copy [(.tmp 26)])⟩
  (.op false ⟨none, none, (.st 6 (.tmp 4) (.tmp 27))⟩
  (.op false ⟨(some 5), none, (.mv (.const (.int .i64 0)))⟩ .done))))) .ret)))))⟩

theorem drop_ok {T : PHeap → Prop} {P : Program} {f f1 f2 f3 : FuncId} (hd : dec P f = some (g_steps_Drop f1 f2 f3)) (h1 : WrongOk T P f1) (h2 : DropROk P f2) (h3 : VCopyOk P f3) : DropOk T P f := by
  intro d cs w v l ht hv hw hbv hll
  have n1 := RSl.len_le hw
  obtain ⟨a, c, rfl⟩ := RSl.val hw
  have hcnt := drop_cnt l v hbv
  refine GCall.forget (Q := fun r L' => ∃ cs' h, r = .tuple #[.agg cs'.toArray, .int .i64 (dropTop v l).2] ∧ L' = [h] ∧ OVal cs' (dropTop v l).1 h) ?_
  refine GCall_of hd (Nat.le_of_ble_eq_true rfl) ?_
  obtain ⟨c0, c1, c2, c3, c4, c5, rfl⟩ := six hv.len
  show gwp P _ _ _ _ _
  apply w_sq; apply w_reg
  refine w_boxa (l := [c0, c1, c2, c3, c4, c5]) rfl (fun b2 T2 => ?_)
  (apply w_alo; intro _ _; apply w_mvi; rfl; apply w_done0; apply w_sq; apply w_sq; apply w_reg; apply w_ldb 1; rfl; rfl; rfl; apply w_mvs; rfl)
  rename_i b4 T4
  refine w_pure rfl (h1 ht hv hw) ?_
  by_cases q3 : wrongF v l ≠ 0
  · rw [dropTop, if_pos q3]
    (apply w_mvi; rfl; apply w_done0; apply w_sq; apply w_reg; apply w_mvi; rfl; apply w_neq; rfl; rfl; apply w_done0; refine w_ifdT rfl (by omega) ?_; apply w_sq; apply w_reg; apply w_bvZ; apply w_mvi; rfl)
    refine w_stE 0 [.int .i64 0, .int .i64 0, .int .i64 0, strV [], .slice none 0 0, .slice none 0 0] rfl rfl rfl rfl (Nat.le_of_ble_eq_true rfl) rfl rfl ?_
    (apply w_mvi; rfl; apply w_done0; apply w_ret)
    exact finOE 0 rfl rfl rfl OVal.zero vs_zero
  rw [dropTop, if_neg q3]
  have hgd := right_gd (wrong_right (v := v) (l := l) (by omega)) (by omega)
  (apply w_mvi; rfl; apply w_done0; apply w_sq; apply w_reg; apply w_mvi; rfl; apply w_neq; rfl; rfl; apply w_done0; refine w_ifdF rfl (by omega) ?_; apply w_skip; apply w_sq; apply w_reg; apply w_ldb 1; rfl; rfl; rfl; apply w_mvs; rfl)
  refine w_call0 rfl (h2 l hv hgd hbv hw hll) (fun r d2 L2 hl2 ⟨hL, cs', hr, hR⟩ => ?_)
  subst hL; subst hr
  obtain ⟨f0, f1', f2', f3', f4', f5, rfl⟩ := six hR.len
  (apply w_mvu; rfl; apply w_ext; rfl; rfl; apply w_ext; rfl; rfl; apply w_alo; intro _ _)
  rename_i b7 T7
  refine w_stE 0 [f0, f1', f2', f3', f4', f5] rfl rfl rfl rfl (Nat.le_of_ble_eq_true rfl) (cell1_val _ _ _ hR) rfl ?_
  by_cases q4 : (dropF v l).2 ≠ 0
  · rw [if_pos q4]
    (apply w_mvi; rfl; apply w_done0; apply w_sq; apply w_sq; apply w_reg; apply w_mvi; rfl; apply w_neq; rfl; rfl; apply w_done0; refine w_ifdT rfl (by omega) ?_; apply w_sq; apply w_reg; apply w_bvZ; apply w_mvi; rfl)
    refine w_stE 1 [.int .i64 0, .int .i64 0, .int .i64 0, strV [], .slice none 0 0, .slice none 0 0] rfl rfl rfl rfl (Nat.le_of_ble_eq_true rfl) rfl rfl ?_
    (apply w_mvi; rfl; apply w_done0; apply w_ret)
    exact finOE 1 rfl rfl rfl OVal.zero vs_zero
  rw [if_neg q4]
  (apply w_mvi; rfl; apply w_done0; apply w_sq; apply w_sq; apply w_reg; apply w_mvi; rfl; apply w_neq; rfl; rfl; apply w_done0; refine w_ifdF rfl (by omega) ?_; apply w_skip; apply w_sq; apply w_reg; apply w_ldb 0; rfl; rfl; rfl)
  refine w_call0 rfl (h3 _ hR (by omega)) (fun r d3 L3 _ ⟨hdd, cs', g, hr, hL, ho⟩ => ?_)
  subst hdd; subst hL; subst hr
  obtain ⟨e0, e1, e2, e3, e4, e5, rfl⟩ := six ho.cells.1
  refine w_stE 2 [e0, e1, e2, e3, e4, e5] rfl rfl rfl rfl (Nat.le_of_ble_eq_true rfl) ho.cells.2 rfl ?_
  (apply w_mvi; rfl; apply w_done0; apply w_ret)
  exact finOE 2 rfl rfl rfl ho (Vs.drop ((List.nil_sublist _).cons_cons _))
end Go.Gk.Val
end
