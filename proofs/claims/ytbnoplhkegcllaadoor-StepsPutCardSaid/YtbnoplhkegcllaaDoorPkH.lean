/-
  Our own texts, one behind the other: GkR3 GkL4 GkR6 GkR7 GkTA.
-/
import Derived.Test.YtbnoplhkegcllaaDoorPkG
section
/-
  Ways: the reference's value with something set at a step.
-/
namespace Go.Gk.Val
open Go Go.Gk Go.Gk.Utf
attribute [local irreducible] gwp gws

theorem make_rise {ks t : List (List UInt8)} {l t' : List V} (hr : rising ks = true) (hl : ks.length = l.length) : ∀ i, i ≤ ks.length → makeL (ks ++ t) (l ++ t') i = (ks.take i, l.take i)
  | 0, _ => by simp [makeL]
  | i + 1, hi => by
    have hi' : i < ks.length := hi
    have hil : i < l.length := by omega
    have hlt : (ks.take i).length = i := by simp; omega
    have hll : (l.take i).length = i := by simp; omega
    have hlow : lowK (ks.take i) ks[i] = i := by
      have h1 := lowK_le (ks.take i) ks[i]
      rcases Nat.lt_or_ge (lowK (ks.take i) ks[i]) i with q | q
      · have h2 := low_at (ks := ks.take i) (k := ks[i]) (by omega)
        rw [List.getElem_take, rise_lt hr hi' q] at h2
        cases h2
      · omega
    have e1 : (ks ++ t).getD i [] = ks[i] := by simp [List.getD, List.getElem?_append_left hi', hi']
    have e2 : (l ++ t').getD i V.zero = l[i] := by simp [List.getD, List.getElem?_append_left hil, hil]
    rw [makeL, make_rise hr hl i (by omega), e1, e2, insK]
    simp only
    rw [hlow, if_neg (by rw [List.getElem?_eq_none (by omega)]; simp)]
    have d1 : (ks.take i).drop i = [] := List.drop_of_length_le (by omega)
    have d2 : (l.take i).drop i = [] := List.drop_of_length_le (by omega)
    rw [d1, d2, List.append_nil, List.append_nil, List.take_of_length_le (by omega), List.take_of_length_le (by omega : (l.take i).length ≤ i), List.set_append_right _ _ (by omega), hll, Nat.sub_self, List.set_cons_zero,
      List.take_succ_eq_append_getElem hi', List.take_succ_eq_append_getElem hil]
theorem set_mid {α : Type} (a b : List α) (x y : α) {n : Nat} (hn : a.length = n) : (a ++ [x] ++ b).set n y = a ++ [y] ++ b := by
  subst hn
  rw [List.append_assoc, List.set_append_right _ _ (by omega), Nat.sub_self]
  simp
theorem set_cut {α : Type} {l : List α} {n : Nat} (h : n < l.length) (x : α) : l.set n x = l.take n ++ [x] ++ l.drop (n + 1) := by
  rw [List.set_eq_take_append_cons_drop, if_pos h, List.append_assoc]; rfl
theorem make_keyed {v : V} {k : List UInt8} (hr : rising v.keys = true) (hl : v.keys.length = v.list.length) :
    (.mk 6 0 0 [] (makeL (v.keys ++ [k]) (v.list ++ [V.zero]) (v.keys ++ [k]).length).2 (makeL (v.keys ++ [k]) (v.list ++ [V.zero]) (v.keys ++ [k]).length).1 : V) = keyedF v k V.zero := by
  have e0 : (v.keys ++ [k]).length = v.keys.length + 1 := by simp
  have e1 : (v.keys ++ [k]).getD v.keys.length [] = k := by simp [List.getD]
  have e2 : (v.list ++ [V.zero]).getD v.keys.length V.zero = V.zero := by rw [hl]; simp [List.getD]
  have hlow := lowK_le v.keys k
  rw [e0, makeL, make_rise hr hl _ (Nat.le_refl _), e1, e2, List.take_length, hl, List.take_length, insK]
  simp only
  by_cases hm : k ∈ v.keys
  · obtain ⟨h1, h2⟩ := (mem_iff hr).1 hm
    rw [if_pos (by rw [List.getElem?_eq_getElem h1, h2]), keyedF, toK, if_pos hm, set_cut (by omega)]
    congr 1
    conv => lhs; rw [← List.take_append_drop (lowK v.keys k) v.keys, List.drop_eq_getElem_cons h1, h2]
    simp
  · rw [if_neg, keyedF, toK, if_neg hm, set_mid _ _ _ _ (by simp; omega)]
    intro h
    exact hm (List.mem_of_getElem? h)
theorem set_keyed {v : V} {k : List UInt8} (hl : v.keys.length = v.list.length) (x y : V) : (.mk 6 0 0 [] ((keyedF v k x).list.set (lowK (keyedF v k x).keys k) y) (keyedF v k x).keys : V) = keyedF v k y := by
  have e : lowK (keyedF v k x).keys k = lowK v.keys k := low_keyed _ _ _
  have hlow := lowK_le v.keys k
  rw [e]
  show V.mk 6 0 0 [] ((v.list.take (lowK v.keys k) ++ [x] ++ v.list.drop (toK v.keys k)).set (lowK v.keys k) y) _ = _
  rw [set_mid _ _ _ _ (by simp; omega)]; rfl
theorem depth_keyed {v : V} {k : List UInt8} (h : depthV v ≤ 48) : depthV (keyedF v k V.zero) ≤ 48 := by
  rw [depthV_eq] at h ⊢
  have h1 : depths v.list ≤ 47 := by omega
  have : depths (keyedF v k V.zero).list ≤ 47 := by
    rw [depths_le] at h1 ⊢
    intro x hx
    have hx : x ∈ v.list.take (lowK v.keys k) ++ [V.zero] ++ v.list.drop (toK v.keys k) := hx
    simp only [List.mem_append, List.mem_singleton] at hx
    rcases hx with (hx | rfl) | hx
    · exact h1 x (List.mem_of_mem_take hx)
    · decide
    · exact h1 x (List.mem_of_mem_drop hx)
  omega
abbrev StepOk (s : St) : Prop := 0 ≤ s.kind ∧ s.kind ≤ 2 ∧ (s.kind = 0 → u8 s.text = true)
theorem step_ok {l : List St} (h : l.all stepB = true) : ∀ s ∈ l, StepOk s := fun s hs => by
  have := List.all_eq_true.1 h s hs
  simp only [stepB, Bool.and_eq_true, Bool.or_eq_true, decide_eq_true_eq] at this
  exact ⟨this.1.1, this.1.2, fun h0 => this.2.resolve_left (fun h => h h0)⟩
def RSetOk (T : PHeap → Prop) (P : Program) (f : FuncId) : Prop := ∀ {d : PHeap} {cs ds es : List Value} {v y : V} {s : St}, T d → RVal d cs v → mayV v = true → depthV v ≤ 48 → RSt d ds s → 0 ≤ s.kind → s.kind ≤ 2 → (s.kind = 0 → u8 s.text = true) → RVal d es y → cntV v + cntV y ≤ 900000000 →
  GCall P f [.agg cs.toArray, .agg ds.toArray, .agg es.toArray] d [] (Ret fun r d' L' => L' = [] ∧ ∃ cs', r = .tuple #[.agg cs'.toArray, .int .i64 (setF v s y).2] ∧ RVal d' cs' (setF v s y).1)
def g_thimbleref08_Set (f_thimbleref03_Make f_thimbleref08_key f_thimbleref08_ends : Nat) : GFun :=
 ⟨132, [(.cell 6 (some 6)), (.tmp 7)],
 (.seq
 (.reg false (.op false ⟨(some 3), none, (.box (.tmp 0))⟩
  (.op false ⟨(some 4), none, (.box (.tmp 1))⟩
  (.op false ⟨(some 5), none, (.box (.tmp 2))⟩
  (.op false ⟨(some 6), none, (.alo (.agg #[(.int .i64 0), (.int .i64 0), (.int .i64 0), (strV []), (.slice none 0 0), (.slice none 0 0)]))⟩
  (.op false ⟨(some 7), none, (.mv (.const (.int .i64 0)))⟩ .done))))))
 (.seq
 (.reg false (.op false ⟨(some 16), none, (.bld [(0, 1), (1, 1), (2, 1)] [(.int .i64 0), (.int .i64 0), (.int .i64 0)] [(0, (.const (.int .i64 6))), (1, (.const (.int .i64 5))), (2, (.const (.int .i64 5)))])⟩
  (.op false ⟨(some 8), none, (.alo (.agg #[(.int .i64 0), (.int .i64 0), (.int .i64 0)]))⟩
  (.op false ⟨none, none, (.st 3 (.tmp 8) (.tmp 16))⟩ .done))))
 (.seq (.seq
 (.reg true (.op true ⟨(some 17), none, (.fld 0 (.tmp 3))⟩
  (.op true ⟨(some 18), none, (.ld none (.tmp 17))⟩
  (.op true ⟨(some 19), none, (.bin .neq (.tmp 18) (.const (.int .i64 0)))⟩
  (.op true ⟨(some 20), none, (.mv (.tmp 19))⟩
  (.op true ⟨(some 21), (some (20, true)), (.fld 0 (.tmp 3))⟩
  (.op true ⟨(some 22), (some (20, true)), (.ld none (.tmp 21))⟩
  (.op true ⟨(some 23), (some (20, true)), (.fld 0 (.tmp 4))⟩
  (.op true ⟨(some 24), (some (20, true)), (.ld none (.tmp 23))⟩
  (.op true ⟨(some 25), (some (20, true)), (.idxa 3 1 (.tmp 8) (.tmp 24))⟩
  (.op true ⟨(some 26), (some (20, true)), (.ld none (.tmp 25))⟩
  (.op true ⟨(some 27), (some (20, true)), (.bin .neq (.tmp 22) (.tmp 26))⟩
  (.op true ⟨(some 28), none, (.pick (.tmp 20) (.tmp 27) (.const (.bool false)))⟩
  (.op true ⟨(some 29), none, (.mv (.tmp 28))⟩
  (.op true ⟨(some 30), (some (29, false)), (.fld 0 (.tmp 4))⟩
  (.op true ⟨(some 31), (some (29, false)), (.ld none (.tmp 30))⟩
  (.op true ⟨(some 32), (some (29, false)), (.bin .eql (.tmp 31) (.const (.int .i64 2)))⟩
  (.op true ⟨(some 33), (some (29, false)), (.mv (.tmp 32))⟩
  (.op true ⟨(some 34), (some (33, true)), (.fld 0 (.tmp 5))⟩
  (.op true ⟨(some 35), (some (33, true)), (.ld none (.tmp 34))⟩
  (.op true ⟨(some 36), (some (33, true)), (.bin .neq (.tmp 35) (.const (.int .i64 5)))⟩
  (.op true ⟨(some 37), (some (29, false)), (.pick (.tmp 33) (.tmp 36) (.const (.bool false)))⟩
  (.op true ⟨(some 38), none, (.pick (.tmp 29) (.const (.bool true)) (.tmp 37))⟩ .done))))))))))))))))))))))) (.cond (.tmp 38)
 (.seq
 (.reg false (.op false ⟨(some 39), none, (.bld [(0, 1), (1, 2), (3, 1), (4, 1), (5, 1)] [(.int .i64 0), (.int .i64 0), (.int .i64 0), (strV []), (.slice none 0 0), (.slice none 0 0)] [])⟩
  (.op false ⟨none, none, (.st 6 (.tmp 6) (.tmp 39))⟩
  (.op false ⟨(some 7), none, (.mv (.const (.int .i64 80)))⟩ .done)))) .ret) .skip))
 (.seq (.seq
 (.reg false (.op false ⟨(some 40), none, (.fld 0 (.tmp 4))⟩
  (.op false ⟨(some 41), none, (.ld none (.tmp 40))⟩
  (.op false ⟨(some 42), none, (.bin .eql (.tmp 41) (.const (.int .i64 0)))⟩ .done)))) (.cond (.tmp 42)
 (.seq
 (.reg true (.op true ⟨(some 45), none, (.fld 5 (.tmp 3))⟩
  (.op true ⟨(some 46), none, (.ld none (.tmp 45))⟩
  (.op true ⟨(some 48), none, (.fld 1 (.tmp 4))⟩
  (.op true ⟨(some 49), none, (.ld none (.tmp 48))⟩
  (.op true ⟨(some 53), none, (.fld 4 (.tmp 3))⟩
  (.op true ⟨(some 54), none, (.ld none (.tmp 53))⟩
  (.op true ⟨(some 56), none, (.bld [(0, 1), (1, 2), (3, 1), (4, 1), (5, 1)] [(.int .i64 0), (.int .i64 0), (.int .i64 0), (strV []), (.slice none 0 0), (.slice none 0 0)] [])⟩ (.par (.op false ⟨(some 9), none, (.alo (.agg #[(.int .i64 0), (.int .i64 0), (.int .i64 0), (strV []), (.slice none 0 0), (.slice none 0 0)]))⟩ .done) (.par (.op false ⟨(some 57), none, (.bsl 1 6 [(.int .i64 0), (.int .i64 0), (.int .i64 0), (strV []), (.slice none 0 0), (.slice none 0 0)] [(0, (.tmp 56))])⟩ .done) (.par (.op false ⟨(some 52), none, (.bsl 0 6 [(.int .i64 0), (.int .i64 0), (.int .i64 0), (strV []), (.slice none 0 0), (.slice none 0 0)] [])⟩ .done) (.par (.op false ⟨(some 50), none, (.bsl 1 1 [(strV [])] [(0, (.tmp 49))])⟩ .done) (.op false ⟨(some 44), none, (.bsl 0 1 [(strV [])] [])⟩
  (.op false ⟨(some 47), none, (.app 1 16 [(strV [])] (.tmp 44) (.tmp 46))⟩ .done)) (.op false ⟨(some 51), none, (.app 1 16 [(strV [])] (.tmp 47) (.tmp 50))⟩ .done)) (.op false ⟨(some 55), none, (.app 6 88 [(.int .i64 0), (.int .i64 0), (.int .i64 0), (strV []), (.slice none 0 0), (.slice none 0 0)] (.tmp 52) (.tmp 54))⟩ .done)) (.op false ⟨(some 58), none, (.app 6 88 [(.int .i64 0), (.int .i64 0), (.int .i64 0), (strV []), (.slice none 0 0), (.slice none 0 0)] (.tmp 55) (.tmp 57))⟩
  (.op false ⟨(some 59), none, (.call f_thimbleref03_Make [(.tmp 51), (.tmp 58)])⟩
  (.op true ⟨(some 43), none, (.mv (.tmp 59))⟩
  (.op true ⟨(some 60), none, (.ext (.tmp 43) 0)⟩
  (.op true ⟨(some 61), none, (.ext (.tmp 43) 1)⟩ .done)))))) (.op false ⟨none, none, (.st 6 (.tmp 9) (.tmp 60))⟩
  (.op true ⟨(some 10), none, (.mv (.tmp 61))⟩ .done)))))))))))
 (.seq
 (.reg true (.op true ⟨(some 62), none, (.fld 4 (.tmp 9))⟩
  (.op true ⟨(some 63), none, (.ld none (.tmp 62))⟩
  (.op true ⟨(some 64), none, (.ld (some 6) (.tmp 9))⟩
  (.op true ⟨(some 65), none, (.fld 1 (.tmp 4))⟩
  (.op true ⟨(some 66), none, (.ld none (.tmp 65))⟩
  (.op true ⟨(some 68), none, (.ld (some 6) (.tmp 5))⟩
  (.op false ⟨(some 67), none, (.call f_thimbleref08_key [(.tmp 64), (.tmp 66)])⟩
  (.op true ⟨(some 69), none, (.idx 6 (.tmp 63) (.tmp 67))⟩
  (.bar (.op false ⟨none, none, (.st 6 (.tmp 69) (.tmp 68))⟩ .done)))))))))))
 (.seq
 (.reg false (.op false ⟨(some 70), none, (.ld (some 6) (.tmp 9))⟩
  (.op false ⟨none, none, (.st 6 (.tmp 6) (.tmp 70))⟩
  (.op false ⟨(some 7), none, (.mv (.const (.int .i64 0)))⟩ .done)))) .ret))) .skip))
 (.seq (.seq
 (.reg false (.op false ⟨(some 71), none, (.fld 0 (.tmp 4))⟩
  (.op false ⟨(some 72), none, (.ld none (.tmp 71))⟩
  (.op false ⟨(some 73), none, (.bin .eql (.tmp 72) (.const (.int .i64 2)))⟩ .done)))) (.cond (.tmp 73)
 (.seq
 (.reg false (.op false ⟨(some 75), none, (.ld (some 6) (.tmp 4))⟩
  (.op false ⟨(some 76), none, (.fld 4 (.tmp 3))⟩
  (.op false ⟨(some 77), none, (.ld none (.tmp 76))⟩
  (.op false ⟨(some 78), none, (.len (.tmp 77))⟩
  (.op false ⟨(some 79), none, (.call f_thimbleref08_ends [(.tmp 75), (.tmp 78)])⟩
  (.op false ⟨(some 74), none, (.mv (.tmp 79))⟩
  (.op false ⟨(some 80), none, (.ext (.tmp 74) 0)⟩
  (.op false ⟨(some 81), none, (.ext (.tmp 74) 1)⟩
  (.op false ⟨(some 11), none, (.mv (.tmp 80))⟩
  (.op false ⟨(some 12), none, (.mv (.tmp 81))⟩ .done)))))))))))
 (.seq
 (.reg true (.op true ⟨(some 83), none, (.fld 4 (.tmp 3))⟩
  (.op true ⟨(some 84), none, (.ld none (.tmp 83))⟩
  (.op true ⟨(some 85), none, (.mv (.tmp 11))⟩
  (.op true ⟨(some 86), none, (.sl 6 (.tmp 84) none (some (.tmp 85)) none)⟩
  (.op true ⟨(some 88), none, (.fld 4 (.tmp 5))⟩
  (.op true ⟨(some 89), none, (.ld none (.tmp 88))⟩
  (.op false ⟨(some 82), none, (.bsl 0 6 [(.int .i64 0), (.int .i64 0), (.int .i64 0), (strV []), (.slice none 0 0), (.slice none 0 0)] [])⟩
  (.op false ⟨(some 87), none, (.app 6 88 [(.int .i64 0), (.int .i64 0), (.int .i64 0), (strV []), (.slice none 0 0), (.slice none 0 0)] (.tmp 82) (.tmp 86))⟩
  (.op false ⟨(some 90), none, (.app 6 88 [(.int .i64 0), (.int .i64 0), (.int .i64 0), (strV []), (.slice none 0 0), (.slice none 0 0)] (.tmp 87) (.tmp 89))⟩
  (.bar (.op true ⟨(some 13), none, (.mv (.tmp 90))⟩ .done))))))))))))
 (.seq
 (.reg false (.op false ⟨(some 91), none, (.mv (.tmp 13))⟩
  (.op false ⟨(some 92), none, (.fld 4 (.tmp 3))⟩
  (.op false ⟨(some 93), none, (.ld none (.tmp 92))⟩
  (.op false ⟨(some 94), none, (.mv (.tmp 12))⟩
  (.op false ⟨(some 95), none, (.sl 6 (.tmp 93) (some (.tmp 94)) none none)⟩
  (.op false ⟨(some 96), none, (.app 6 88 [(.int .i64 0), (.int .i64 0), (.int .i64 0), (strV []), (.slice none 0 0), (.slice none 0 0)] (.tmp 91) (.tmp 95))⟩
  (.op false ⟨(some 97), none, (.bld [(0, 1), (1, 2), (3, 1), (4, 1), (5, 1)] [(.int .i64 0), (.int .i64 0), (.int .i64 0), (strV []), (.slice none 0 0), (.slice none 0 0)] [(0, (.const (.int .i64 5))), (3, (.tmp 96))])⟩
  (.op false ⟨none, none, (.st 6 (.tmp 6) (.tmp 97))⟩
  (.op false ⟨(some 7), none, (.mv (.const (.int .i64 0)))⟩ .done)))))))))) .ret))) .skip))
 (.seq
 (.reg false (.op false ⟨(some 98), none, (.fld 2 (.tmp 4))⟩
  (.op false ⟨(some 99), none, (.ld none (.tmp 98))⟩
  (.op false ⟨(some 14), none, (.mv (.tmp 99))⟩ .done))))
 (.seq (.seq
 (.reg false (.op false ⟨(some 100), none, (.mv (.tmp 14))⟩
  (.op false ⟨(some 101), none, (.bin .lss (.tmp 100) (.const (.int .i64 0)))⟩ .done))) (.cond (.tmp 101)
 (.reg false (.op false ⟨(some 102), none, (.mv (.tmp 14))⟩
  (.op false ⟨(some 103), none, (.fld 4 (.tmp 3))⟩
  (.op false ⟨(some 104), none, (.ld none (.tmp 103))⟩
  (.op false ⟨(some 105), none, (.len (.tmp 104))⟩
  (.op false ⟨(some 106), none, (.bin .add (.tmp 102) (.tmp 105))⟩
  (.op false ⟨(some 14), none, (.mv (.tmp 106))⟩ .done))))))) .skip))
 (.seq (.seq
 (.reg false (.op false ⟨(some 107), none, (.mv (.tmp 14))⟩
  (.op false ⟨(some 108), none, (.bin .lss (.tmp 107) (.const (.int .i64 0)))⟩
  (.op false ⟨(some 109), none, (.mv (.tmp 108))⟩
  (.op false ⟨(some 110), (some (109, false)), (.mv (.tmp 14))⟩
  (.op false ⟨(some 111), (some (109, false)), (.bin .gtr (.tmp 110) (.const (.int .i64 4095)))⟩
  (.op false ⟨(some 112), none, (.pick (.tmp 109) (.const (.bool true)) (.tmp 111))⟩ .done))))))) (.cond (.tmp 112)
 (.seq
 (.reg false (.op false ⟨(some 113), none, (.bld [(0, 1), (1, 2), (3, 1), (4, 1), (5, 1)] [(.int .i64 0), (.int .i64 0), (.int .i64 0), (strV []), (.slice none 0 0), (.slice none 0 0)] [])⟩
  (.op false ⟨none, none, (.st 6 (.tmp 6) (.tmp 113))⟩
  (.op false ⟨(some 7), none, (.mv (.const (.int .i64 4)))⟩ .done)))) .ret) .skip))
 (.seq
 (.reg false (.op false ⟨(some 114), none, (.bsl 0 6 [(.int .i64 0), (.int .i64 0), (.int .i64 0), (strV []), (.slice none 0 0), (.slice none 0 0)] [])⟩
  (.op false ⟨(some 115), none, (.fld 4 (.tmp 3))⟩
  (.op false ⟨(some 116), none, (.ld none (.tmp 115))⟩
  (.op false ⟨(some 117), none, (.app 6 88 [(.int .i64 0), (.int .i64 0), (.int .i64 0), (strV []), (.slice none 0 0), (.slice none 0 0)] (.tmp 114) (.tmp 116))⟩
  (.op false ⟨(some 15), none, (.mv (.tmp 117))⟩ .done))))))
 (.seq (.block 0 (.loop
 (.seq (.seq
 (.reg false (.op false ⟨(some 118), none, (.mv (.tmp 15))⟩
  (.op false ⟨(some 119), none, (.len (.tmp 118))⟩
  (.op false ⟨(some 120), none, (.mv (.tmp 14))⟩
  (.op false ⟨(some 121), none, (.bin .leq (.tmp 119) (.tmp 120))⟩ .done))))) (.cond (.tmp 121) .skip (.exit 0))) (.block 1
 (.reg false (.op false ⟨(some 122), none, (.mv (.tmp 15))⟩
  (.op false ⟨(some 123), none, (.bld [(0, 1), (1, 2), (3, 1), (4, 1), (5, 1)] [(.int .i64 0), (.int .i64 0), (.int .i64 0), (strV []), (.slice none 0 0), (.slice none 0 0)] [])⟩
  (.op false ⟨(some 124), none, (.bsl 1 6 [(.int .i64 0), (.int .i64 0), (.int .i64 0), (strV []), (.slice none 0 0), (.slice none 0 0)] [(0, (.tmp 123))])⟩
  (.op false ⟨(some 125), none, (.app 6 88 [(.int .i64 0), (.int .i64 0), (.int .i64 0), (strV []), (.slice none 0 0), (.slice none 0 0)] (.tmp 122) (.tmp 124))⟩
  (.op false ⟨(some 15), none, (.mv (.tmp 125))⟩ .done))))))))))
 (.seq
 (.reg false (.op false ⟨(some 126), none, (.mv (.tmp 15))⟩
  (.op false ⟨(some 127), none, (.mv (.tmp 14))⟩
  (.op false ⟨(some 128), none, (.ld (some 6) (.tmp 5))⟩
  (.op false ⟨(some 129), none, (.idx 6 (.tmp 126) (.tmp 127))⟩
  (.op false ⟨none, none, (.st 6 (.tmp 129) (.tmp 128))⟩ .done))))))
 (.seq
 (.reg false (.op false ⟨(some 130), none, (.mv (.tmp 15))⟩
  (.op false ⟨(some 131), none, (.bld [(0, 1), (1, 2), (3, 1), (4, 1), (5, 1)] [(.int .i64 0), (.int .i64 0), (.int .i64 0), (strV []), (.slice none 0 0), (.slice none 0 0)] [(0, (.const (.int .i64 5))), (3, (.tmp 130))])⟩
  (.op false ⟨none, none, (.st 6 (.tmp 6) (.tmp 131))⟩
  (.op false ⟨(some 7), none, (.mv (.const (.int .i64 0)))⟩ .done))))) .ret))))))))))))⟩

set_option maxHeartbeats 4000000 in
theorem rset_ok {T : PHeap → Prop} (hTm : ∀ {d d' : PHeap}, T d → Le d d' → T d') {P : Program} {f f1 f2 f3 : FuncId} (hd : decp P f = some (g_thimbleref08_Set f1 f2 f3)) (h1 : MakeOk T P f1) (h2 : KeyOk P f2) (h3 : EndsOk P f3) : RSetOk T P f := by
  intro d cs ds es v y s ht hv hmay hdep hs hs0 hs2 hu hy hb
  refine GCall_of hd (Nat.le_of_ble_eq_true rfl) ?_
  have hone : oneB v = true := by rw [mayV_eq, Bool.and_eq_true] at hmay; exact hmay.1
  have hr := one_rising hone
  have b1 := cnt_list (v := v)
  have b2' := cnt_keys (v := v)
  have b3' := cnt_list (v := y)
  have hs' := hs
  obtain ⟨hds, ik', it', is, id⟩ := hs'
  subst hds
  have is1 : -9223372036854775808 ≤ s.src := is.1
  have is2 : s.src ≤ 9223372036854775807 := is.2
  have hv0 := hv
  have hy0 := hy
  obtain ⟨lv, kv, rfl, ik, im, ie, it, hl, hks⟩ := hv.open
  obtain ⟨la, lc, rfl⟩ := RSl.val hl
  obtain ⟨ka, kc, rfl⟩ := RSl.val hks
  obtain ⟨yv, zv, rfl, jk, jm, je, jt, hyl, hyk⟩ := hy.open
  obtain ⟨ya, yc, rfl⟩ := RSl.val hyl
  show gwp P _ _ _ _ _
  apply w_sq; apply w_reg
  refine w_boxa (l := [.int .i64 v.kind, .int .i64 v.m, .int .i64 v.e, strV v.text, .slice la v.list.length lc, .slice ka v.keys.length kc]) rfl (fun b3 T3 => ?_)
  refine w_boxa (l := [.int .i64 s.kind, strV s.text, .int .i64 s.src, .int .i64 s.dst, .bool s.hf, .bool s.ht]) rfl (fun b4 T4 => ?_)
  refine w_boxa (l := [.int .i64 y.kind, .int .i64 y.m, .int .i64 y.e, strV y.text, .slice ya y.list.length yc, zv]) rfl (fun b5 T5 => ?_)
  (apply w_alo; intro _ _; apply w_mvi; rfl; apply w_done0)
  rename_i b6 T6
  apply w_sq; apply w_reg
  refine w_bld (cs := [.int .i64 6, .int .i64 5, .int .i64 5]) rfl ?_
  (apply w_alo; intro _ _)
  rename_i b8 T8
  refine w_stE 0 [.int .i64 6, .int .i64 5, .int .i64 5] rfl rfl rfl rfl (Nat.le_of_ble_eq_true rfl) rfl rfl ?_
  (apply w_done0)
  have hk3 : s.kind = 0 ∨ s.kind = 1 ∨ s.kind = 2 := by omega
  refine w_mid (fun ρ d' L' => d' = d ∧ (s.kind = 0 ∧ (v.kind = 0 ∨ v.kind = 6) ∨ s.kind = 1 ∧ (v.kind = 0 ∨ v.kind = 5) ∨ s.kind = 2 ∧ (v.kind = 0 ∨ v.kind = 5) ∧ y.kind = 5) ∧ SlotsAre ρ [(3, .pointer (some ⟨b3, 0, none⟩)), (4, .pointer (some ⟨b4, 0, none⟩)), (5, .pointer (some ⟨b5, 0, none⟩)), (6, .pointer (some ⟨b6, 0, none⟩))] ∧ L' = [bx b8 T8 [.int .i64 6, .int .i64 5, .int .i64 5], bx b6 T6 zVal, bx b5 T5 [.int .i64 y.kind, .int .i64 y.m, .int .i64 y.e, strV y.text, .slice ya y.list.length yc, zv], bx b4 T4 [.int .i64 s.kind, strV s.text, .int .i64 s.src, .int .i64 s.dst, .bool s.hf, .bool s.ht], bx b3 T3 [.int .i64 v.kind, .int .i64 v.m, .int .i64 v.e, strV v.text, .slice la v.list.length lc, .slice ka v.keys.length kc]]) ?_ ?_
  · have fin : ∀ {ρ : Env}, ¬(s.kind = 0 ∧ (v.kind = 0 ∨ v.kind = 6)) → ¬(s.kind = 1 ∧ (v.kind = 0 ∨ v.kind = 5)) → ¬(s.kind = 2 ∧ (v.kind = 0 ∨ v.kind = 5) ∧ y.kind = 5) → ρ 6 = .pointer (some ⟨b6, 0, none⟩) → ρ 7 = .int .i64 80 →
      retPost [.cell 6 (some 6), .tmp 7] (Ret fun r d' L' => L' = [] ∧ ∃ cs', r = .tuple #[.agg cs'.toArray, .int .i64 (setF v s y).2] ∧ RVal d' cs' (setF v s y).1) ρ d [bx b8 T8 [.int .i64 6, .int .i64 5, .int .i64 5], bx b6 T6 zVal, bx b5 T5 [.int .i64 y.kind, .int .i64 y.m, .int .i64 y.e, strV y.text, .slice ya y.list.length yc, zv], bx b4 T4 [.int .i64 s.kind, strV s.text, .int .i64 s.src, .int .i64 s.dst, .bool s.hf, .bool s.ht], bx b3 T3 [.int .i64 v.kind, .int .i64 v.m, .int .i64 v.e, strV v.text, .slice la v.list.length lc, .slice ka v.keys.length kc]] := by
      intro ρ q0 q1 q2 e4 e5
      rw [setF, if_neg q0, if_neg q1, if_neg q2]
      exact finVDE 1 e4 rfl e5 RVal.zero
    rcases hk3 with s0 | s1 | s2
    · by_cases v0 : v.kind = 0
      · (apply w_sq; apply w_drawn; apply w_fld; rfl; apply w_ld; rfl; exact hc_i 4 rfl rfl; apply w_neq; rfl; rfl; apply w_mvb; rfl; refine w_gdF rfl (by omega) ?_; apply w_gF; rfl; apply w_gF; rfl; apply w_gF; rfl; apply w_gF; rfl; apply w_gF; rfl; apply w_gF; rfl; apply w_gF; rfl; apply w_pickFb; rfl; rfl; apply w_mvb; rfl; apply w_gT; rfl; apply w_fld; rfl; apply w_gT; rfl; apply w_ld; rfl; exact hc_i 3 rfl rfl; apply w_gT; rfl; apply w_eql; rfl; rfl; apply w_gT; rfl; apply w_mvb; rfl; refine w_gdF rfl (by omega) ?_; apply w_gF; rfl; apply w_gF; rfl; apply w_gF; rfl; apply w_gT; rfl; apply w_pickFb; rfl; rfl; apply w_pickFb; rfl; rfl; apply w_done; apply w_ifF; rfl; apply w_skip)
        exact ⟨rfl, by omega, ⟨rfl, rfl, rfl, rfl, trivial⟩, rfl⟩
      by_cases v5 : v.kind = 6
      · (apply w_sq; apply w_drawn; apply w_fld; rfl; apply w_ld; rfl; exact hc_i 4 rfl rfl; apply w_neq; rfl; rfl; apply w_mvb; rfl; refine w_gdT rfl (by omega) ?_; apply w_gT; rfl; apply w_fld; rfl; apply w_gT; rfl; apply w_ld; rfl; exact hc_i 4 rfl rfl; apply w_gT; rfl; apply w_fld; rfl; apply w_gT; rfl; apply w_ld; rfl; exact hc_i 3 rfl rfl; apply w_gT; rfl)
        refine w_idxa 0 rfl rfl (by omega) (by omega) ?_
        (apply w_gT; rfl; apply w_ld; rfl; exact hc_i 0 rfl rfl; apply w_gT; rfl; apply w_neq; rfl; rfl; apply w_pickTb; rfl; rfl; apply w_mvb; rfl; refine w_gdF rfl (by omega) ?_; apply w_gT; rfl; apply w_fld; rfl; apply w_gT; rfl; apply w_ld; rfl; exact hc_i 3 rfl rfl; apply w_gT; rfl; apply w_eql; rfl; rfl; apply w_gT; rfl; apply w_mvb; rfl; refine w_gdF rfl (by omega) ?_; apply w_gF; rfl; apply w_gF; rfl; apply w_gF; rfl; apply w_gT; rfl; apply w_pickFb; rfl; rfl; apply w_pickFb; rfl; rfl; apply w_done; apply w_ifF; rfl; apply w_skip)
        exact ⟨rfl, by omega, ⟨rfl, rfl, rfl, rfl, trivial⟩, rfl⟩
      · (apply w_sq; apply w_drawn; apply w_fld; rfl; apply w_ld; rfl; exact hc_i 4 rfl rfl; apply w_neq; rfl; rfl; apply w_mvb; rfl; refine w_gdT rfl (by omega) ?_; apply w_gT; rfl; apply w_fld; rfl; apply w_gT; rfl; apply w_ld; rfl; exact hc_i 4 rfl rfl; apply w_gT; rfl; apply w_fld; rfl; apply w_gT; rfl; apply w_ld; rfl; exact hc_i 3 rfl rfl; apply w_gT; rfl)
        refine w_idxa 0 rfl rfl (by omega) (by omega) ?_
        (apply w_gT; rfl; apply w_ld; rfl; exact hc_i 0 rfl rfl; apply w_gT; rfl; apply w_neq; rfl; rfl; apply w_pickTb; rfl; rfl; apply w_mvb; rfl; refine w_gdT rfl (by omega) ?_; apply w_gF; rfl; apply w_gF; rfl; apply w_gF; rfl; apply w_gF; rfl; apply w_gU; rfl; apply w_gU; rfl; apply w_gU; rfl; apply w_gF; rfl; apply w_pickTb; rfl; rfl; apply w_done; apply w_ifT; rfl; apply w_sq; apply w_reg; apply w_bvZ)
        refine w_stE 1 zVal rfl rfl rfl rfl (Nat.le_of_ble_eq_true rfl) rfl rfl ?_
        (apply w_mvi; rfl; apply w_done0; apply w_ret)
        exact fin (by omega) (by omega) (by omega) rfl rfl
    · by_cases v0 : v.kind = 0
      · (apply w_sq; apply w_drawn; apply w_fld; rfl; apply w_ld; rfl; exact hc_i 4 rfl rfl; apply w_neq; rfl; rfl; apply w_mvb; rfl; refine w_gdF rfl (by omega) ?_; apply w_gF; rfl; apply w_gF; rfl; apply w_gF; rfl; apply w_gF; rfl; apply w_gF; rfl; apply w_gF; rfl; apply w_gF; rfl; apply w_pickFb; rfl; rfl; apply w_mvb; rfl; apply w_gT; rfl; apply w_fld; rfl; apply w_gT; rfl; apply w_ld; rfl; exact hc_i 3 rfl rfl; apply w_gT; rfl; apply w_eql; rfl; rfl; apply w_gT; rfl; apply w_mvb; rfl; refine w_gdF rfl (by omega) ?_; apply w_gF; rfl; apply w_gF; rfl; apply w_gF; rfl; apply w_gT; rfl; apply w_pickFb; rfl; rfl; apply w_pickFb; rfl; rfl; apply w_done; apply w_ifF; rfl; apply w_skip)
        exact ⟨rfl, by omega, ⟨rfl, rfl, rfl, rfl, trivial⟩, rfl⟩
      by_cases v5 : v.kind = 5
      · (apply w_sq; apply w_drawn; apply w_fld; rfl; apply w_ld; rfl; exact hc_i 4 rfl rfl; apply w_neq; rfl; rfl; apply w_mvb; rfl; refine w_gdT rfl (by omega) ?_; apply w_gT; rfl; apply w_fld; rfl; apply w_gT; rfl; apply w_ld; rfl; exact hc_i 4 rfl rfl; apply w_gT; rfl; apply w_fld; rfl; apply w_gT; rfl; apply w_ld; rfl; exact hc_i 3 rfl rfl; apply w_gT; rfl)
        refine w_idxa 1 rfl rfl (by omega) (by omega) ?_
        (apply w_gT; rfl; apply w_ld; rfl; exact hc_i 0 rfl rfl; apply w_gT; rfl; apply w_neq; rfl; rfl; apply w_pickTb; rfl; rfl; apply w_mvb; rfl; refine w_gdF rfl (by omega) ?_; apply w_gT; rfl; apply w_fld; rfl; apply w_gT; rfl; apply w_ld; rfl; exact hc_i 3 rfl rfl; apply w_gT; rfl; apply w_eql; rfl; rfl; apply w_gT; rfl; apply w_mvb; rfl; refine w_gdF rfl (by omega) ?_; apply w_gF; rfl; apply w_gF; rfl; apply w_gF; rfl; apply w_gT; rfl; apply w_pickFb; rfl; rfl; apply w_pickFb; rfl; rfl; apply w_done; apply w_ifF; rfl; apply w_skip)
        exact ⟨rfl, by omega, ⟨rfl, rfl, rfl, rfl, trivial⟩, rfl⟩
      · (apply w_sq; apply w_drawn; apply w_fld; rfl; apply w_ld; rfl; exact hc_i 4 rfl rfl; apply w_neq; rfl; rfl; apply w_mvb; rfl; refine w_gdT rfl (by omega) ?_; apply w_gT; rfl; apply w_fld; rfl; apply w_gT; rfl; apply w_ld; rfl; exact hc_i 4 rfl rfl; apply w_gT; rfl; apply w_fld; rfl; apply w_gT; rfl; apply w_ld; rfl; exact hc_i 3 rfl rfl; apply w_gT; rfl)
        refine w_idxa 1 rfl rfl (by omega) (by omega) ?_
        (apply w_gT; rfl; apply w_ld; rfl; exact hc_i 0 rfl rfl; apply w_gT; rfl; apply w_neq; rfl; rfl; apply w_pickTb; rfl; rfl; apply w_mvb; rfl; refine w_gdT rfl (by omega) ?_; apply w_gF; rfl; apply w_gF; rfl; apply w_gF; rfl; apply w_gF; rfl; apply w_gU; rfl; apply w_gU; rfl; apply w_gU; rfl; apply w_gF; rfl; apply w_pickTb; rfl; rfl; apply w_done; apply w_ifT; rfl; apply w_sq; apply w_reg; apply w_bvZ)
        refine w_stE 1 zVal rfl rfl rfl rfl (Nat.le_of_ble_eq_true rfl) rfl rfl ?_
        (apply w_mvi; rfl; apply w_done0; apply w_ret)
        exact fin (by omega) (by omega) (by omega) rfl rfl
    · by_cases y5 : y.kind = 5
      · by_cases v0 : v.kind = 0
        · (apply w_sq; apply w_drawn; apply w_fld; rfl; apply w_ld; rfl; exact hc_i 4 rfl rfl; apply w_neq; rfl; rfl; apply w_mvb; rfl; refine w_gdF rfl (by omega) ?_; apply w_gF; rfl; apply w_gF; rfl; apply w_gF; rfl; apply w_gF; rfl; apply w_gF; rfl; apply w_gF; rfl; apply w_gF; rfl; apply w_pickFb; rfl; rfl; apply w_mvb; rfl; apply w_gT; rfl; apply w_fld; rfl; apply w_gT; rfl; apply w_ld; rfl; exact hc_i 3 rfl rfl; apply w_gT; rfl; apply w_eql; rfl; rfl; apply w_gT; rfl; apply w_mvb; rfl; refine w_gdT rfl (by omega) ?_; apply w_gT; rfl; apply w_fld; rfl; apply w_gT; rfl; apply w_ld; rfl; exact hc_i 2 rfl rfl; apply w_gT; rfl; apply w_neq; rfl; rfl; apply w_gT; rfl; apply w_pickTb; rfl; rfl; apply w_pickFb; rfl; rfl; apply w_done; refine w_ifdF rfl (by omega) ?_; apply w_skip)
          exact ⟨rfl, by omega, ⟨rfl, rfl, rfl, rfl, trivial⟩, rfl⟩
        by_cases v5 : v.kind = 5
        · (apply w_sq; apply w_drawn; apply w_fld; rfl; apply w_ld; rfl; exact hc_i 4 rfl rfl; apply w_neq; rfl; rfl; apply w_mvb; rfl; refine w_gdT rfl (by omega) ?_; apply w_gT; rfl; apply w_fld; rfl; apply w_gT; rfl; apply w_ld; rfl; exact hc_i 4 rfl rfl; apply w_gT; rfl; apply w_fld; rfl; apply w_gT; rfl; apply w_ld; rfl; exact hc_i 3 rfl rfl; apply w_gT; rfl)
          refine w_idxa 2 rfl rfl (by omega) (by omega) ?_
          (apply w_gT; rfl; apply w_ld; rfl; exact hc_i 0 rfl rfl; apply w_gT; rfl; apply w_neq; rfl; rfl; apply w_pickTb; rfl; rfl; apply w_mvb; rfl; refine w_gdF rfl (by omega) ?_; apply w_gT; rfl; apply w_fld; rfl; apply w_gT; rfl; apply w_ld; rfl; exact hc_i 3 rfl rfl; apply w_gT; rfl; apply w_eql; rfl; rfl; apply w_gT; rfl; apply w_mvb; rfl; refine w_gdT rfl (by omega) ?_; apply w_gT; rfl; apply w_fld; rfl; apply w_gT; rfl; apply w_ld; rfl; exact hc_i 2 rfl rfl; apply w_gT; rfl; apply w_neq; rfl; rfl; apply w_gT; rfl; apply w_pickTb; rfl; rfl; apply w_pickFb; rfl; rfl; apply w_done; refine w_ifdF rfl (by omega) ?_; apply w_skip)
          exact ⟨rfl, by omega, ⟨rfl, rfl, rfl, rfl, trivial⟩, rfl⟩
        · (apply w_sq; apply w_drawn; apply w_fld; rfl; apply w_ld; rfl; exact hc_i 4 rfl rfl; apply w_neq; rfl; rfl; apply w_mvb; rfl; refine w_gdT rfl (by omega) ?_; apply w_gT; rfl; apply w_fld; rfl; apply w_gT; rfl; apply w_ld; rfl; exact hc_i 4 rfl rfl; apply w_gT; rfl; apply w_fld; rfl; apply w_gT; rfl; apply w_ld; rfl; exact hc_i 3 rfl rfl; apply w_gT; rfl)
          refine w_idxa 2 rfl rfl (by omega) (by omega) ?_
          (apply w_gT; rfl; apply w_ld; rfl; exact hc_i 0 rfl rfl; apply w_gT; rfl; apply w_neq; rfl; rfl; apply w_pickTb; rfl; rfl; apply w_mvb; rfl; refine w_gdT rfl (by omega) ?_; apply w_gF; rfl; apply w_gF; rfl; apply w_gF; rfl; apply w_gF; rfl; apply w_gU; rfl; apply w_gU; rfl; apply w_gU; rfl; apply w_gF; rfl; apply w_pickTb; rfl; rfl; apply w_done; apply w_ifT; rfl; apply w_sq; apply w_reg; apply w_bvZ)
          refine w_stE 1 zVal rfl rfl rfl rfl (Nat.le_of_ble_eq_true rfl) rfl rfl ?_
          (apply w_mvi; rfl; apply w_done0; apply w_ret)
          exact fin (by omega) (by omega) (by omega) rfl rfl
      · by_cases v0 : v.kind = 0
        · (apply w_sq; apply w_drawn; apply w_fld; rfl; apply w_ld; rfl; exact hc_i 4 rfl rfl; apply w_neq; rfl; rfl; apply w_mvb; rfl; refine w_gdF rfl (by omega) ?_; apply w_gF; rfl; apply w_gF; rfl; apply w_gF; rfl; apply w_gF; rfl; apply w_gF; rfl; apply w_gF; rfl; apply w_gF; rfl; apply w_pickFb; rfl; rfl; apply w_mvb; rfl; apply w_gT; rfl; apply w_fld; rfl; apply w_gT; rfl; apply w_ld; rfl; exact hc_i 3 rfl rfl; apply w_gT; rfl; apply w_eql; rfl; rfl; apply w_gT; rfl; apply w_mvb; rfl; refine w_gdT rfl (by omega) ?_; apply w_gT; rfl; apply w_fld; rfl; apply w_gT; rfl; apply w_ld; rfl; exact hc_i 2 rfl rfl; apply w_gT; rfl; apply w_neq; rfl; rfl; apply w_gT; rfl; apply w_pickTb; rfl; rfl; apply w_pickFb; rfl; rfl; apply w_done; refine w_ifdT rfl (by omega) ?_; apply w_sq; apply w_reg; apply w_bvZ)
          refine w_stE 1 zVal rfl rfl rfl rfl (Nat.le_of_ble_eq_true rfl) rfl rfl ?_
          (apply w_mvi; rfl; apply w_done0; apply w_ret)
          exact fin (by omega) (by omega) (by omega) rfl rfl
        by_cases v5 : v.kind = 5
        · (apply w_sq; apply w_drawn; apply w_fld; rfl; apply w_ld; rfl; exact hc_i 4 rfl rfl; apply w_neq; rfl; rfl; apply w_mvb; rfl; refine w_gdT rfl (by omega) ?_; apply w_gT; rfl; apply w_fld; rfl; apply w_gT; rfl; apply w_ld; rfl; exact hc_i 4 rfl rfl; apply w_gT; rfl; apply w_fld; rfl; apply w_gT; rfl; apply w_ld; rfl; exact hc_i 3 rfl rfl; apply w_gT; rfl)
          refine w_idxa 2 rfl rfl (by omega) (by omega) ?_
          (apply w_gT; rfl; apply w_ld; rfl; exact hc_i 0 rfl rfl; apply w_gT; rfl; apply w_neq; rfl; rfl; apply w_pickTb; rfl; rfl; apply w_mvb; rfl; refine w_gdF rfl (by omega) ?_; apply w_gT; rfl; apply w_fld; rfl; apply w_gT; rfl; apply w_ld; rfl; exact hc_i 3 rfl rfl; apply w_gT; rfl; apply w_eql; rfl; rfl; apply w_gT; rfl; apply w_mvb; rfl; refine w_gdT rfl (by omega) ?_; apply w_gT; rfl; apply w_fld; rfl; apply w_gT; rfl; apply w_ld; rfl; exact hc_i 2 rfl rfl; apply w_gT; rfl; apply w_neq; rfl; rfl; apply w_gT; rfl; apply w_pickTb; rfl; rfl; apply w_pickFb; rfl; rfl; apply w_done; refine w_ifdT rfl (by omega) ?_; apply w_sq; apply w_reg; apply w_bvZ)
          refine w_stE 1 zVal rfl rfl rfl rfl (Nat.le_of_ble_eq_true rfl) rfl rfl ?_
          (apply w_mvi; rfl; apply w_done0; apply w_ret)
          exact fin (by omega) (by omega) (by omega) rfl rfl
        · (apply w_sq; apply w_drawn; apply w_fld; rfl; apply w_ld; rfl; exact hc_i 4 rfl rfl; apply w_neq; rfl; rfl; apply w_mvb; rfl; refine w_gdT rfl (by omega) ?_; apply w_gT; rfl; apply w_fld; rfl; apply w_gT; rfl; apply w_ld; rfl; exact hc_i 4 rfl rfl; apply w_gT; rfl; apply w_fld; rfl; apply w_gT; rfl; apply w_ld; rfl; exact hc_i 3 rfl rfl; apply w_gT; rfl)
          refine w_idxa 2 rfl rfl (by omega) (by omega) ?_
          (apply w_gT; rfl; apply w_ld; rfl; exact hc_i 0 rfl rfl; apply w_gT; rfl; apply w_neq; rfl; rfl; apply w_pickTb; rfl; rfl; apply w_mvb; rfl; refine w_gdT rfl (by omega) ?_; apply w_gF; rfl; apply w_gF; rfl; apply w_gF; rfl; apply w_gF; rfl; apply w_gU; rfl; apply w_gU; rfl; apply w_gU; rfl; apply w_gF; rfl; apply w_pickTb; rfl; rfl; apply w_done; apply w_ifT; rfl; apply w_sq; apply w_reg; apply w_bvZ)
          refine w_stE 1 zVal rfl rfl rfl rfl (Nat.le_of_ble_eq_true rfl) rfl rfl ?_
          (apply w_mvi; rfl; apply w_done0; apply w_ret)
          exact fin (by omega) (by omega) (by omega) rfl rfl
  rintro ρ d' L' ⟨hdd, hk, hsl, hL⟩
  subst hdd; subst hL
  refine gwp_slots _ hsl ?_
  clear hsl
  by_cases s0 : s.kind = 0
  · have hv6 : v.kind = 0 ∨ v.kind = 6 := by omega
    have hF : setF v s y = (keyedF v s.text y, 0) := by rw [setF, if_pos ⟨s0, hv6⟩]
    rw [hF]
    have hlens := one_lens hone hv6
    (apply w_sq; apply w_sq; apply w_reg; apply w_fld; rfl; apply w_ld; rfl; exact hc_i 3 rfl rfl; apply w_eql; rfl; rfl; apply w_done0; refine w_ifdT rfl (by omega) ?_; apply w_sq)
    refine w_drawn ?_
    (apply w_fld; rfl; apply w_ld; rfl; exact hc_i 4 rfl rfl; apply w_fld; rfl; apply w_ld; rfl; exact hc_i 3 rfl rfl; apply w_fld; rfl; apply w_ld; rfl; exact hc_i 4 rfl rfl; apply w_bvZ)
    refine w_par (α := Nat × TypeId) (β := (Option Addr × Nat) × (Option Addr × Nat) × PHeap) [(3, .pointer (some ⟨b3, 0, none⟩)), (4, .pointer (some ⟨b4, 0, none⟩)), (5, .pointer (some ⟨b5, 0, none⟩)), (6, .pointer (some ⟨b6, 0, none⟩))] (fun x => [(9, .pointer (some ⟨x.1, 0, none⟩))]) (fun x d L => L = [bx x.1 x.2 zVal])
      (fun x => [(60, .agg [.int .i64 6, .int .i64 0, .int .i64 0, strV [], .slice x.1.1 (keyedF v s.text V.zero).list.length x.1.2, .slice x.2.1.1 (keyedF v s.text V.zero).keys.length x.2.1.2].toArray), (61, .int .i64 0)])
      (fun x d L => GRow 6 RVal d (.slice x.1.1 (keyedF v s.text V.zero).list.length x.1.2) (keyedF v s.text V.zero).list x.2.2 ∧ RSl 1 RStr d (.slice x.2.1.1 (keyedF v s.text V.zero).keys.length x.2.1.2) (keyedF v s.text V.zero).keys ∧ L = [x.2.2]) [] [] rfl
      (fun x d d' M hl h => h) (fun x d d' M hl h => ⟨GRow.mono (R := RVal) mono_val h.1 hl, RStrs.mono h.2.1 hl, h.2.2⟩) (fun x => rfl) (fun x => rfl) rfl ⟨rfl, rfl, rfl, rfl, trivial⟩ ?_ ?_ ?_
    · (apply w_alo; intro _ _; apply w_done)
      exact ⟨_, rfl, (_, _), ⟨rfl, trivial⟩, rfl⟩
    · refine w_par (α := Nat × TypeId) (β := (Option Addr × Nat) × Value × PHeap) [] (fun x => [(57, .slice (some ⟨x.1, 0, none⟩) 1 1)]) (fun x d L => L = [bx x.1 x.2 zVal])
        (fun x => [(51, .slice x.1.1 (v.keys ++ [s.text]).length x.1.2), (55, x.2.1)]) (fun x d L => RSl 1 RStr d (.slice x.1.1 (v.keys ++ [s.text]).length x.1.2) (v.keys ++ [s.text]) ∧ GRow 6 RVal d x.2.1 v.list x.2.2 ∧ L = [x.2.2]) [] [] rfl
        (fun x d d' M hl h => h) (fun x d d' M hl h => ⟨RStrs.mono h.1 hl, GRow.mono (R := RVal) mono_val h.2.1 hl, h.2.2⟩) (fun x => rfl) (fun x => rfl) rfl trivial ?_ ?_ ?_
      · refine w_bsV (cs := zVal) rfl rfl (fun b57 T57 => ?_)
        refine w_done ?_
        exact ⟨_, rfl, (b57, T57), ⟨rfl, trivial⟩, rfl⟩
      · refine w_par (α := Nat × TypeId) (β := Option Addr × Nat) [(54, .slice la v.list.length lc)] (fun x => [(52, .slice (some ⟨x.1, 0, none⟩) 0 0)]) (fun x d L => L = [bx x.1 x.2 []])
          (fun x => [(51, .slice x.1 (v.keys ++ [s.text]).length x.2)]) (fun x d L => RSl 1 RStr d (.slice x.1 (v.keys ++ [s.text]).length x.2) (v.keys ++ [s.text]) ∧ L = []) [] [] rfl
          (fun x d d' M hl h => h) (fun x d d' M hl h => ⟨RStrs.mono h.1 hl, h.2⟩) (fun x => rfl) (fun x => rfl) rfl ⟨rfl, trivial⟩ ?_ ?_ ?_
        · refine w_bsl (cs := []) (by omega) rfl (fun b52 T52 => ?_)
          refine w_done ?_
          exact ⟨_, rfl, (b52, T52), ⟨rfl, trivial⟩, rfl⟩
        · refine w_par (α := Nat × TypeId) (β := Value × PHeap) [] (fun x => [(50, .slice (some ⟨x.1, 0, none⟩) 1 1)]) (fun x d L => L = [bx x.1 x.2 [strV s.text]])
            (fun x => [(47, x.1)]) (fun x d L => GRow 1 RStr d x.1 v.keys x.2 ∧ L = [x.2]) [] [] rfl
            (fun x d d' M hl h => h) (fun x d d' M hl h => ⟨GRow.mono (R := RStr) mono_str h.1 hl, h.2⟩) (fun x => rfl) (fun x => rfl) rfl trivial ?_ ?_ ?_
          · refine w_bs1 (v0 := strV s.text) rfl rfl (fun b50 T50 => ?_)
            refine w_done ?_
            exact ⟨_, rfl, (b50, T50), ⟨rfl, trivial⟩, rfl⟩
          · refine w_cat1 (R := RStr) (xs := v.keys) mono_str cell1_str (by omega) hks (fun _ => rfl) (by omega) (by omega) (fun v0 v1 g1 o1 => ?_)
            refine w_done ?_
            exact ⟨_, rfl, (v1, g1), ⟨rfl, trivial⟩, o1, rfl⟩
          rintro ⟨b50, T50⟩ ⟨v47, g47⟩ ρ d5 M1 M2 hl5 hM1 ⟨o47, hM2⟩
          subst hM1; subst hM2
          refine w_appL (R := RStr) 0 rfl rfl o47 rfl (GRow.lit1 (R := RStr) rfl ⟨rfl, it'⟩) cell1_str (by omega) (by simp; omega) (by simp; omega) (fun v51 g51 o51 => ?_)
          obtain ⟨a51, c51, rfl⟩ := o51.val
          refine w_doneF (fun d6 hl6 hg6 => ?_)
          exact ⟨[], by simp, (a51, c51), ⟨rfl, trivial⟩, o51.rsl mono_str (by omega) hl6 hg6, rfl⟩
        rintro ⟨b52, T52⟩ ⟨a51, c51⟩ ρ d5 M1 M2 hl5 hM1 ⟨r51, hM2⟩
        subst hM1; subst hM2
        refine w_appG (R := RVal) (ys := v.list) 0 rfl rfl (GRow.lit0 (R := RVal) (sz := 6)) rfl (RSl.src (R := RVal) (RVals.mono hl hl5) cell1_val (by omega) _) (by omega) (by simp; omega) (by simp; omega) (fun v55 g55 o55 => ?_)
        rw [List.nil_append] at o55
        refine w_done ?_
        exact ⟨_, rfl, ((a51, c51), v55, g55), ⟨rfl, rfl, trivial⟩, r51, o55, rfl⟩
      rintro ⟨b57, T57⟩ ⟨⟨a51, c51⟩, v55, g55⟩ ρ d5 M1 M2 hl5 hM1 ⟨r51, o55, hM2⟩
      subst hM1; subst hM2
      refine w_appL (R := RVal) 0 rfl rfl o55 rfl (GRow.lit1 (R := RVal) rfl RVal.zero) cell1_val (by omega) (by simp; omega) (by simp; omega) (fun v58 g58 o58 => ?_)
      obtain ⟨a58, c58, rfl⟩ := o58.val
      refine w_frz (fun d6 hl6 hg6 => ?_)
      have hmk := make_keyed (k := s.text) hr hlens
      have hku : ∀ k ∈ v.keys ++ [s.text], u8 k = true := fun k hk => by
        rcases List.mem_append.1 hk with hk | hk
        · exact (rising_iff.1 hr).1 k hk
        · rw [List.mem_singleton.1 hk]; exact hu s0
      have hrt : ∀ x ∈ v.list ++ [V.zero], rightV x = 0 := fun x hx => by
        rcases List.mem_append.1 hx with hx | hx
        · have := depth_mem hx
          simp [rightV, may_mem hmay hx, show depthV x ≤ 48 by omega]
        · rw [List.mem_singleton.1 hx]; decide
      refine w_call0 rfl (h1 (hTm ht (hl5.trans hl6)) (RStrs.mono r51 hl6) (o58.rsl (R := RVal) mono_val (by omega) hl6 hg6) (by simp; omega) hku hrt (by simp; omega) (by rw [hmk]; exact depth_keyed hdep)) (fun r d7 L7 hl7 ⟨a, c, qa, qc, h, hL, hrr, hg, hq⟩ => ?_)
      subst hL; subst hrr
      have e2 := congrArg V.list hmk
      have e1 := congrArg V.keys hmk
      simp only [V.list, V.keys] at e1 e2
      rw [e1] at hq; rw [e2] at hg; rw [e1, e2]
      (apply w_mvu; rfl; apply w_ext; rfl; rfl; apply w_ext; rfl; rfl; apply w_done)
      exact ⟨_, rfl, ((a, c), (qa, qc), h), ⟨rfl, rfl, trivial⟩, hg, hq, rfl⟩
    rintro ⟨b9, T9⟩ ⟨⟨a, c⟩, ⟨qa, qc⟩, h9⟩ ρ d7 M1 M2 hl7 hM1 ⟨hg, hq, hM2⟩
    subst hM1; subst hM2
    generalize hK : keyedF v s.text V.zero = K at *
    refine w_stE 0 [.int .i64 6, .int .i64 0, .int .i64 0, strV [], .slice a K.list.length c, .slice qa K.keys.length qc] rfl rfl rfl rfl (Nat.le_of_ble_eq_true rfl) rfl rfl ?_
    (apply w_mvi; rfl; apply w_done)
    have hrk : rising K.keys = true := by rw [← hK]; exact rising_keyed hr (hu s0)
    have hmem : s.text ∈ K.keys := by rw [← hK]; simp [keyedF]
    have hklen : K.keys.length = K.list.length := by
      have := make_keyed (k := s.text) hr hlens
      rw [hK] at this
      rw [← this]; exact (make_len _ _ _).1
    have hset : (.mk 6 0 0 [] (K.list.set (lowK K.keys s.text) y) K.keys : V) = keyedF v s.text y := by rw [← hK]; exact set_keyed hlens _ _
    obtain ⟨hlt, _⟩ := (mem_iff hrk).1 hmem
    obtain ⟨bq, Tq, lq, cq, hvq, hhq, hlenq, hwq⟩ := hg.openV (by omega) (m := lowK K.keys s.text) (by omega)
    cases hvq
    subst hhq
    apply w_sq
    refine w_drawnA [bx b8 T8 [.int .i64 6, .int .i64 5, .int .i64 5], bx b6 T6 zVal, bx b5 T5 [.int .i64 y.kind, .int .i64 y.m, .int .i64 y.e, strV y.text, .slice ya y.list.length yc, zv], bx b4 T4 [.int .i64 s.kind, strV s.text, .int .i64 s.src, .int .i64 s.dst, .bool s.hf, .bool s.ht], bx b3 T3 [.int .i64 v.kind, .int .i64 v.m, .int .i64 v.e, strV v.text, .slice la v.list.length lc, .slice ka v.keys.length kc], bx b9 T9 [.int .i64 6, .int .i64 0, .int .i64 0, strV [], .slice (some ⟨bq, 0, none⟩) K.list.length c, .slice qa K.keys.length qc]] [bx bq Tq lq] rfl ?_
    (apply w_fld; rfl; apply w_ld; rfl; exact hc_i 5 rfl rfl; apply w_ldb 5; rfl; rfl; rfl; apply w_fld; rfl; apply w_ld; rfl; exact hc_i 3 rfl rfl; apply w_ldb 2; rfl; rfl; rfl)
    refine w_pureB rfl (fun d9 hl9 hk9 => h2 (v := .mk 6 0 0 [] K.list K.keys) (RVal.close (v := .mk 6 0 0 [] K.list K.keys) i64_6 i64_0 i64_0 (by simp) (hg.rsl (R := RVal) mono_val (by omega) hl9 (hk9 _ (by simp))) (RStrs.mono hq hl9)) hrk) ?_
    have e67 : (if s.text ∈ (V.mk 6 0 0 [] K.list K.keys).keys then (lowK (V.mk 6 0 0 [] K.list K.keys).keys s.text : Int) else -1) = (lowK K.keys s.text : Nat) := if_pos hmem
    rw [e67]
    refine w_idx (lowK K.keys s.text) rfl rfl rfl (by omega) (SAd.some _ bq 0) ?_
    (apply w_bar)
    refine w_stE 6 (patch lq (lowK K.keys s.text * 6) [.int .i64 y.kind, .int .i64 y.m, .int .i64 y.e, strV y.text, .slice ya y.list.length yc, zv]) rfl rfl rfl rfl (by omega) (cell1_val _ _ _ hy0) (by rw [Nat.zero_add]; rfl) ?_
    have hgw := hwq [.int .i64 y.kind, .int .i64 y.m, .int .i64 y.e, strV y.text, .slice ya y.list.length yc, zv] y rfl (RVal.mono hl7 hy0)
    (apply w_done0; apply w_sq; apply w_reg; apply w_ldb 5; rfl; rfl; rfl)
    refine w_stE 1 [.int .i64 6, .int .i64 0, .int .i64 0, strV [], .slice (some ⟨bq, 0, none⟩) K.list.length c, .slice qa K.keys.length qc] rfl rfl rfl rfl (Nat.le_of_ble_eq_true rfl) rfl rfl ?_
    (apply w_mvi; rfl; apply w_done0; apply w_ret)
    refine finF [.agg [.int .i64 6, .int .i64 0, .int .i64 0, strV [], .slice (some ⟨bq, 0, none⟩) K.list.length c, .slice qa K.keys.length qc].toArray, .int .i64 0] ⟨res_cell 1 rfl rfl rfl, res_tmp rfl, trivial⟩ (fun d' hld hk => ?_)
    refine ⟨rfl, _, rfl, ?_⟩
    rw [← hset]
    exact RVal.close (v := .mk 6 0 0 [] (K.list.set (lowK K.keys s.text) y) K.keys) i64_6 i64_0 i64_0 (by simp) (hgw.rsl (R := RVal) mono_val (by omega) hld (hk _ (by simp))) (RStrs.mono hq hld)
  by_cases s2 : s.kind = 2
  · have hv5 : v.kind = 0 ∨ v.kind = 5 := by omega
    have y5 : y.kind = 5 := by omega
    have hF : setF v s y = (.mk 5 0 0 [] (v.list.take (endsF s v.list.length).1.toNat ++ y.list ++ v.list.drop (endsF s v.list.length).2.toNat) [], 0) := by
      rw [setF, if_neg (fun h => s0 h.1), if_neg (fun h => by omega), if_pos ⟨s2, hv5, y5⟩]
    rw [hF]
    have n1 := RSl.len_le hl
    have hends := ends_le s (k := v.list.length) (by omega)
    (apply w_sq; apply w_sq; apply w_reg; apply w_fld; rfl; apply w_ld; rfl; exact hc_i 3 rfl rfl; apply w_eql; rfl; rfl; apply w_done0; refine w_ifdF rfl (by omega) ?_; apply w_skip; apply w_sq; apply w_sq; apply w_reg; apply w_fld; rfl; apply w_ld; rfl; exact hc_i 3 rfl rfl; apply w_eql; rfl; rfl; apply w_done0; refine w_ifdT rfl (by omega) ?_; apply w_sq; apply w_reg; apply w_ldb 3; rfl; rfl; rfl; apply w_fld; rfl; apply w_ld; rfl; exact hc_i 4 rfl rfl; apply w_len; rfl)
    refine w_pure rfl (h3 hs (by omega) (by omega)) ?_
    obtain ⟨A, B, hab⟩ : ∃ A B : Int, endsF s v.list.length = (A, B) := ⟨_, _, rfl⟩
    rw [hab] at hends ⊢
    simp only at hends ⊢
    obtain ⟨a, rfl⟩ : ∃ a : Nat, A = (a : Int) := ⟨A.toNat, by omega⟩
    obtain ⟨b, rfl⟩ : ∃ b : Nat, B = (b : Int) := ⟨B.toNat, by omega⟩
    simp only [Int.toNat_natCast]
    (apply w_mvu; rfl; apply w_ext; rfl; rfl; apply w_ext; rfl; rfl; apply w_mvi; rfl; apply w_mvi; rfl; apply w_done0; apply w_sq)
    refine w_drawn ?_
    (apply w_fld; rfl; apply w_ld; rfl; exact hc_i 4 rfl rfl; apply w_mvi; rfl)
    refine w_slTo (n := a) rfl hl rfl rfl (by omega) (fun v86 r86 => ?_)
    (apply w_fld; rfl; apply w_ld; rfl; exact hc_i 2 rfl rfl)
    refine w_cat1 (R := RVal) (xs := v.list.take a) mono_val cell1_val (by omega) r86 (fun _ => rfl) (by simp; omega) (by simp; omega) (fun v82 v87 g87 o87 => ?_)
    refine w_appG (R := RVal) (ys := y.list) 0 rfl rfl o87 rfl (RSl.src (R := RVal) hyl cell1_val (by omega) _) (by omega) (by simp; omega) (by simp; omega) (fun v90 g90 o90 => ?_)
    obtain ⟨a90, c90, rfl⟩ := o90.val
    (apply w_bar; apply w_mvs; rfl; apply w_done0; apply w_sq; apply w_reg; apply w_mvs; rfl; apply w_fld; rfl; apply w_ld; rfl; exact hc_i 4 rfl rfl; apply w_mvi; rfl)
    refine w_slFrom (n := b) rfl hl rfl rfl (by omega) (fun v95 r95 => ?_)
    refine w_appG (R := RVal) (ys := v.list.drop b) 5 rfl rfl o90 rfl (RSl.src (R := RVal) r95 cell1_val (by omega) _) (by omega) (by simp; omega) (by simp; omega) (fun v96 g96 o96 => ?_)
    obtain ⟨a96, c96, rfl⟩ := o96.val
    (apply w_bvKL; rfl; rfl)
    refine w_stE 1 [.int .i64 5, .int .i64 0, .int .i64 0, strV [], .slice a96 (v.list.take a ++ y.list ++ v.list.drop b).length c96, .slice none 0 0] rfl rfl rfl rfl (Nat.le_of_ble_eq_true rfl) rfl rfl ?_
    (apply w_mvi; rfl; apply w_done0; apply w_ret)
    refine finF [.agg [.int .i64 5, .int .i64 0, .int .i64 0, strV [], .slice a96 (v.list.take a ++ y.list ++ v.list.drop b).length c96, .slice none 0 0].toArray, .int .i64 0] ⟨res_cell 1 rfl rfl rfl, res_tmp rfl, trivial⟩ (fun d' hld hk => ?_)
    exact ⟨rfl, _, rfl, RVal.close (v := .mk 5 0 0 [] (v.list.take a ++ y.list ++ v.list.drop b) []) i64_5 i64_0 i64_0 (by simp) (o96.rsl (R := RVal) mono_val (by omega) hld (hk _ (by simp))) RSl.nil⟩
  have s1 : s.kind = 1 := by omega
  have hv5 : v.kind = 0 ∨ v.kind = 5 := by omega
  have n1 := RSl.len_le hl
  obtain ⟨p, hp⟩ : ∃ p, placeF s.src v.list.length = p := ⟨_, rfl⟩
  have hF : setF v s y = if p < 0 ∨ 4095 < p then (V.zero, 4) else (.mk 5 0 0 [] ((padL v.list (p.toNat + 1)).take p.toNat ++ [y] ++ (padL v.list (p.toNat + 1)).drop (p.toNat + 1)) [], 0) := by
    rw [setF, if_neg (fun h => s0 h.1), if_pos ⟨s1, hv5⟩, hp]
  rw [hF]
  (apply w_sq; apply w_sq; apply w_reg; apply w_fld; rfl; apply w_ld; rfl; exact hc_i 3 rfl rfl; apply w_eql; rfl; rfl; apply w_done0; refine w_ifdF rfl (by omega) ?_)
  apply w_skip
  (apply w_sq; apply w_sq; apply w_reg; apply w_fld; rfl; apply w_ld; rfl; exact hc_i 3 rfl rfl; apply w_eql; rfl; rfl; apply w_done0; refine w_ifdF rfl (by omega) ?_)
  apply w_skip
  apply w_sq; apply w_reg
  (apply w_fld; rfl; apply w_ld; rfl; exact hc_i 3 rfl rfl; apply w_mvi; rfl; apply w_done0)
  refine w_mid (fun ρ d2 L' => d2 = d' ∧ SlotsAre ρ [(3, .pointer (some ⟨b3, 0, none⟩)), (4, .pointer (some ⟨b4, 0, none⟩)), (5, .pointer (some ⟨b5, 0, none⟩)), (6, .pointer (some ⟨b6, 0, none⟩)), (14, .int .i64 p)] ∧ L' = [bx b8 T8 [.int .i64 6, .int .i64 5, .int .i64 5], bx b6 T6 zVal, bx b5 T5 [.int .i64 y.kind, .int .i64 y.m, .int .i64 y.e, strV y.text, .slice ya y.list.length yc, zv], bx b4 T4 [.int .i64 s.kind, strV s.text, .int .i64 s.src, .int .i64 s.dst, .bool s.hf, .bool s.ht], bx b3 T3 [.int .i64 v.kind, .int .i64 v.m, .int .i64 v.e, strV v.text, .slice la v.list.length lc, .slice ka v.keys.length kc]]) ?_ ?_
  · by_cases q : s.src < 0
    · (apply w_sq; apply w_reg; apply w_mvi; rfl; apply w_lss; rfl; rfl; apply w_done0; refine w_ifdT rfl (by omega) ?_; apply w_reg; apply w_mvi; rfl; apply w_fld; rfl; apply w_ld; rfl; exact hc_i 4 rfl rfl; apply w_len; rfl; apply w_add; rfl; rfl; omega; omega; apply w_mvi; rfl; apply w_done0)
      exact ⟨rfl, ⟨rfl, rfl, rfl, rfl, int_eq (by rw [← hp, placeF, if_pos q]), trivial⟩, rfl⟩
    · (apply w_sq; apply w_reg; apply w_mvi; rfl; apply w_lss; rfl; rfl; apply w_done0; refine w_ifdF rfl (by omega) ?_; apply w_skip)
      exact ⟨rfl, ⟨rfl, rfl, rfl, rfl, int_eq (by rw [← hp, placeF, if_neg q]), trivial⟩, rfl⟩
  rintro ρ d2 L' ⟨hdd, hsl, hL⟩
  subst hdd; subst hL
  refine gwp_slots _ hsl ?_
  clear hsl
  by_cases q0 : p < 0
  · rw [if_pos (.inl q0)]
    (apply w_sq; apply w_sq; apply w_reg; apply w_mvi; rfl; apply w_lss; rfl; rfl; apply w_mvb; rfl; refine w_gdT rfl (by omega) ?_; apply w_gF; rfl; apply w_gF; rfl; apply w_pickTb; rfl; rfl; apply w_done0; apply w_ifT; rfl; apply w_sq; apply w_reg; apply w_bvZ)
    refine w_stE 1 zVal rfl rfl rfl rfl (Nat.le_of_ble_eq_true rfl) rfl rfl ?_
    (apply w_mvi; rfl; apply w_done0; apply w_ret)
    exact finVDE 1 rfl rfl rfl RVal.zero
  by_cases q1 : 4095 < p
  · rw [if_pos (.inr q1)]
    (apply w_sq; apply w_sq; apply w_reg; apply w_mvi; rfl; apply w_lss; rfl; rfl; apply w_mvb; rfl; refine w_gdF rfl (by omega) ?_; apply w_gT; rfl; apply w_mvi; rfl; apply w_gT; rfl; apply w_gtr; rfl; rfl; apply w_pickFb; rfl; rfl; apply w_done0; refine w_ifdT rfl (by omega) ?_; apply w_sq; apply w_reg; apply w_bvZ)
    refine w_stE 1 zVal rfl rfl rfl rfl (Nat.le_of_ble_eq_true rfl) rfl rfl ?_
    (apply w_mvi; rfl; apply w_done0; apply w_ret)
    exact finVDE 1 rfl rfl rfl RVal.zero
  rw [if_neg (by omega)]
  clear hp hF
  obtain ⟨n, rfl⟩ : ∃ n : Nat, p = (n : Int) := ⟨p.toNat, by omega⟩
  simp only [Int.toNat_natCast]
  (apply w_sq; apply w_sq; apply w_reg; apply w_mvi; rfl; apply w_lss; rfl; rfl; apply w_mvb; rfl; refine w_gdF rfl (by omega) ?_; apply w_gT; rfl; apply w_mvi; rfl; apply w_gT; rfl; apply w_gtr; rfl; rfl; apply w_pickFb; rfl; rfl; apply w_done0; refine w_ifdF rfl (by omega) ?_; apply w_skip; apply w_sq; apply w_reg)
  refine w_bsl (cs := []) (by omega) rfl (fun b114 T114 => ?_)
  (apply w_fld; rfl; apply w_ld; rfl; exact hc_i 5 rfl rfl)
  refine w_appG (R := RVal) (ys := v.list) 0 rfl rfl (GRow.lit0 (R := RVal) (sz := 6)) rfl (RSl.src (R := RVal) hl cell1_val (by omega) _) (by omega) (by simp; omega) (by simp; omega) (fun v117 g117 o117 => ?_)
  rw [List.nil_append] at o117
  obtain ⟨a117, c117, rfl⟩ := o117.val
  (apply w_mvs; rfl; apply w_done0; apply w_sq; apply w_block)
  refine w_loopS (α := Nat × (Option Addr × Nat)) (fun x => [(3, .pointer (some ⟨b3, 0, none⟩)), (4, .pointer (some ⟨b4, 0, none⟩)), (5, .pointer (some ⟨b5, 0, none⟩)), (6, .pointer (some ⟨b6, 0, none⟩)), (14, .int .i64 n), (15, .slice x.2.1 (v.list ++ List.replicate x.1 V.zero).length x.2.2)])
    (fun x dd L' => dd = d2 ∧ (x.1 = 0 ∨ v.list.length + x.1 ≤ n + 1) ∧ ∃ g, GRow 6 RVal d2 (.slice x.2.1 (v.list ++ List.replicate x.1 V.zero).length x.2.2) (v.list ++ List.replicate x.1 V.zero) g ∧ L' = [g, bx b8 T8 [.int .i64 6, .int .i64 5, .int .i64 5], bx b6 T6 zVal, bx b5 T5 [.int .i64 y.kind, .int .i64 y.m, .int .i64 y.e, strV y.text, .slice ya y.list.length yc, zv], bx b4 T4 [.int .i64 s.kind, strV s.text, .int .i64 s.src, .int .i64 s.dst, .bool s.hf, .bool s.ht], bx b3 T3 [.int .i64 v.kind, .int .i64 v.m, .int .i64 v.e, strV v.text, .slice la v.list.length lc, .slice ka v.keys.length kc]])
    (fun x => n + 1 - x.1) (0, (a117, c117)) ⟨rfl, rfl, rfl, rfl, rfl, by simp [upd, updL], trivial⟩ ⟨rfl, .inl rfl, g117, by simpa using o117, rfl⟩ ?_
  rintro ⟨m, a, c⟩ ρ d3 L' ⟨hdd, hm, g, hg, hL⟩
  subst hdd; subst hL
  simp only at hm hg ⊢
  have hlm : (v.list ++ List.replicate m V.zero).length = v.list.length + m := by simp
  by_cases hc : v.list.length + m ≤ n
  · (apply w_sq; apply w_sq; apply w_reg; apply w_mvs; rfl; apply w_len; rfl; apply w_mvi; rfl; apply w_leq; rfl; rfl; apply w_done0; refine w_ifdT rfl (by omega) ?_; apply w_skip; apply w_block; apply w_reg; apply w_mvs; rfl; apply w_bvZ)
    refine w_bsV (cs := zVal) rfl rfl (fun b124 T124 => ?_)
    refine w_appL (R := RVal) 0 rfl rfl hg rfl (GRow.lit1 (R := RVal) rfl RVal.zero) cell1_val (by omega) (by rw [hlm]; simp; omega) (by rw [hlm]; simp; omega) (fun v125 g125 o125 => ?_)
    have e : v.list ++ List.replicate m V.zero ++ [V.zero] = v.list ++ List.replicate (m + 1) V.zero := by rw [List.append_assoc, List.replicate_succ']
    rw [e] at o125
    obtain ⟨a5, c5, rfl⟩ := o125.val
    (apply w_mvs; rfl; apply w_done0)
    exact ⟨(m + 1, (a5, c5)), by simp only; omega, ⟨rfl, rfl, rfl, rfl, rfl, rfl, trivial⟩, rfl, .inr (by simp only; omega), g125, o125, rfl⟩
  · have hpad : padL v.list (n + 1) = v.list ++ List.replicate m V.zero := by
      rw [padL, show n + 1 - v.list.length = m by omega]
    rw [hpad]
    generalize v.list ++ List.replicate m V.zero = l' at *
    obtain ⟨bq, Tq, lq, cq, hvq, hhq, hlenq, hwq⟩ := hg.openV (by omega) (m := n) (by omega)
    cases hvq
    subst hhq
    (apply w_sq; apply w_sq; apply w_reg; apply w_mvs; rfl; apply w_len; rfl; apply w_mvi; rfl; apply w_leq; rfl; rfl; apply w_done0; refine w_ifdF rfl (by omega) ?_; apply w_exit; apply w_sq; apply w_reg; apply w_mvs; rfl; apply w_mvi; rfl; apply w_ldb 3; rfl; rfl; rfl)
    refine w_idx n rfl rfl rfl (by omega) (SAd.some _ bq 0) ?_
    refine w_stE 0 (patch lq (n * 6) [.int .i64 y.kind, .int .i64 y.m, .int .i64 y.e, strV y.text, .slice ya y.list.length yc, zv]) rfl rfl rfl rfl (by omega) (cell1_val _ _ _ hy0) (by rw [Nat.zero_add]; rfl) ?_
    have hgw := hwq [.int .i64 y.kind, .int .i64 y.m, .int .i64 y.e, strV y.text, .slice ya y.list.length yc, zv] y rfl hy0
    rw [set_cut (by omega)] at hgw
    (apply w_done0; apply w_sq; apply w_reg; apply w_mvs; rfl; apply w_bvKL; rfl; rfl)
    refine w_stE 2 [.int .i64 5, .int .i64 0, .int .i64 0, strV [], .slice (some ⟨bq, 0, none⟩) l'.length c, .slice none 0 0] rfl rfl rfl rfl (Nat.le_of_ble_eq_true rfl) rfl rfl ?_
    (apply w_mvi; rfl; apply w_done0; apply w_ret)
    refine finF [.agg [.int .i64 5, .int .i64 0, .int .i64 0, strV [], .slice (some ⟨bq, 0, none⟩) l'.length c, .slice none 0 0].toArray, .int .i64 0] ⟨res_cell 2 rfl rfl rfl, res_tmp rfl, trivial⟩ (fun d' hld hk => ?_)
    exact ⟨rfl, _, rfl, RVal.close (v := .mk 5 0 0 [] (l'.take n ++ [y] ++ l'.drop (n + 1)) []) i64_5 i64_0 i64_0 (by simp) (hgw.rsl (R := RVal) mono_val (by omega) hld (hk _ (by simp))) RSl.nil⟩
end Go.Gk.Val
end

section
/-
  Ways: what is put may be.
-/
namespace Go.Gk.Val
open Go Go.Gk Go.Gk.Utf

theorem put_right : ∀ (l : List St) {v x : V} {N : Nat}, Gd v → mayV x = true → l.all stepB = true → depthV v ≤ N → depthV x ≤ N → (putF v l x).2 = 0 → mayV (putF v l x).1 = true ∧ depthV (putF v l x).1 ≤ N + l.length
  | [], v, x, N, _, hx, _, _, hd, _ => ⟨hx, by simpa [putF] using hd⟩
  | s :: l, v, x, N, hg, hx, hs, hdv, hdx, h => by
    rw [List.all_cons, Bool.and_eq_true] at hs
    by_cases h1 : (intoF v s).2 ≠ 0
    · rw [putF, if_pos h1] at h; exact absurd h h1
    by_cases h2 : (putF (intoF v s).1 l x).2 ≠ 0
    · rw [putF, if_neg h1, if_pos h2] at h; exact absurd h h2
    rw [putF, if_neg h1, if_neg h2] at h ⊢
    obtain ⟨hm, hd⟩ := put_right l (into_gd hg s) hx hs.2 (Nat.le_trans (into_depth v s) hdv) hdx (by omega)
    have := set_right (N := N + (l.length + 1)) hg.1 hm hs.1 h (by omega) (by omega) (fun _ => by omega)
    simpa using this
theorem seterr_zero {v y : V} {s : St} (h : (setF v s y).2 ≠ 0) : (setF v s y).1 = V.zero := by
  unfold setF at h ⊢
  repeat' split
  all_goals simp_all
theorem putF_err : ∀ (l : List St) (v x : V), (putF v l x).2 ≠ 0 → (putF v l x).1 = V.zero
  | [], v, x, h => absurd rfl h
  | s :: l, v, x, h => by
    by_cases h1 : (intoF v s).2 ≠ 0
    · rw [putF, if_pos h1]
    by_cases h2 : (putF (intoF v s).1 l x).2 ≠ 0
    · rw [putF, if_neg h1, if_pos h2]
    rw [putF, if_neg h1, if_neg h2] at h ⊢
    exact seterr_zero h
/-- The reference's own way to tell it: the depth alone is asked for in the end. -/
def putTop' (v : V) (l : List St) (x : V) : V × Int :=
  if (putF v l x).2 ≠ 0 then (V.zero, (putF v l x).2) else if 48 < depthV (putF v l x).1 then (V.zero, 31) else ((putF v l x).1, 0)
theorem put_top' {v x : V} {l : List St} (h1 : rightV v = 0) (h2 : rightV x = 0) (h3 : wrongF v l = 0) (hb : txtV v ≤ 1000000000) : putTop v l x = putTop' v l x := by
  have hg := right_gd h1 hb
  have hs := (wrong_iff.1 h3).2
  obtain ⟨_, hd⟩ := right_iff.1 h1
  obtain ⟨hm, hx⟩ := right_iff.1 h2
  rw [putTop, putTop', if_neg (by omega), if_neg (by omega), if_neg (by omega)]
  by_cases h4 : (putF v l x).2 ≠ 0
  · rw [if_pos h4, if_pos h4]
  rw [if_neg h4, if_neg h4]
  obtain ⟨ha, _⟩ := put_right l hg hm hs hd hx (by omega)
  rw [rightV, ha]
  by_cases h5 : depthV (putF v l x).1 ≤ 48
  · rw [if_pos h5, if_pos rfl, if_neg (by omega), if_neg (by omega)]
  · rw [if_neg h5, if_pos (by omega), if_pos (by omega)]
end Go.Gk.Val
end

section
/-
  Ways: the reference's put.
-/
namespace Go.Gk.Val
open Go Go.Gk Go.Gk.Utf
attribute [local irreducible] gwp gws

def RPutROk (T : PHeap → Prop) (P : Program) (f : FuncId) : Prop := ∀ (l : List St) {d : PHeap} {cs es : List Value} {w : Value} {v x : V}, T d → RVal d cs v → Gd v → depthV v ≤ 48 → txtV v ≤ 1000000 → RSl 6 RSt d w l → (∀ s ∈ l, StepOk s) → RVal d es x → cntV x ≤ 1000000 → l.length ≤ 100 →
  GCall P f [.agg cs.toArray, w, .agg es.toArray] d [] (Ret fun r d' L' => L' = [] ∧ ∃ cs', r = .tuple #[.agg cs'.toArray, .int .i64 (putF v l x).2] ∧ RVal d' cs' (putF v l x).1)
def g_thimbleref08_put (f_thimbleref08_One f_thimbleref08_put f_thimbleref08_Set : Nat) : GFun :=
 ⟨44, [(.cell 6 (some 6)), (.tmp 7)],
 (.seq
 (.reg false (.op false ⟨(some 3), none, (.box (.tmp 0))⟩
  (.op false ⟨(some 5), none, (.box (.tmp 2))⟩
  (.op false ⟨(some 6), none, (.alo (.agg #[(.int .i64 0), (.int .i64 0), (.int .i64 0), (strV []), (.slice none 0 0), (.slice none 0 0)]))⟩
  (.op false ⟨(some 7), none, (.mv (.const (.int .i64 0)))⟩ .done)))))
 (.seq (.seq
 (.reg false (.op false ⟨(some 10), none, (.mv (.tmp 1))⟩
  (.op false ⟨(some 11), none, (.len (.tmp 10))⟩
  (.op false ⟨(some 12), none, (.bin .eql (.tmp 11) (.const (.int .i64 0)))⟩ .done)))) (.cond (.tmp 12)
 (.seq
 (.reg false (.op false ⟨(some 13), none, (.ld (some 6) (.tmp 5))⟩
  (.op false ⟨none, none, (.st 6 (.tmp 6) (.tmp 13))⟩
  (.op false ⟨(some 7), none, (.mv (.const (.int .i64 0)))⟩ .done)))) .ret) .skip))
 (.seq
 (.reg true (.op true ⟨(some 15), none, (.ld (some 6) (.tmp 3))⟩
  (.op true ⟨(some 16), none, (.mv (.tmp 1))⟩
  (.op true ⟨(some 17), none, (.idx 6 (.tmp 16) (.const (.int .i64 0)))⟩
  (.op true ⟨(some 18), none, (.ld (some 6) (.tmp 17))⟩ (.par (.op false ⟨(some 8), none, (.alo (.agg #[(.int .i64 0), (.int .i64 0), (.int .i64 0), (strV []), (.slice none 0 0), (.slice none 0 0)]))⟩ .done) (.op false ⟨(some 19), none, (.call f_thimbleref08_One [(.tmp 15), (.tmp 18)])⟩
  (.op true ⟨(some 14), none, (.mv (.tmp 19))⟩
  (.op true ⟨(some 20), none, (.ext (.tmp 14) 0)⟩
  (.op true ⟨(some 21), none, (.ext (.tmp 14) 1)⟩ .done)))) (.op false ⟨none, none, (.st 6 (.tmp 8) (.tmp 20))⟩
  (.op true ⟨(some 9), none, (.mv (.tmp 21))⟩ .done))))))))
 (.seq (.seq
 (.reg false (.op false ⟨(some 22), none, (.mv (.tmp 9))⟩
  (.op false ⟨(some 23), none, (.bin .eql (.tmp 22) (.const (.int .i64 0)))⟩ .done))) (.cond (.tmp 23)
 (.reg true (.op true ⟨(some 26), none, (.mv (.tmp 1))⟩
  (.op true ⟨(some 27), none, (.sl 6 (.tmp 26) (some (.const (.int .i64 1))) none none)⟩
  (.op true ⟨(some 28), none, (.ld (some 6) (.tmp 5))⟩
  (.op false ⟨(some 25), none, (.ld (some 6) (.tmp 8))⟩
  (.op false ⟨(some 29), none, (.call f_thimbleref08_put [(.tmp 25), (.tmp 27), (.tmp 28)])⟩
  (.op true ⟨(some 24), none, (.mv (.tmp 29))⟩
  (.op true ⟨(some 30), none, (.ext (.tmp 24) 0)⟩
  (.op true ⟨(some 31), none, (.ext (.tmp 24) 1)⟩
  (.op false ⟨none, none, (.st 6 (.tmp 8) (.tmp 30))⟩
  (.op true ⟨(some 9), none, (.mv (.tmp 31))⟩ .done))))))))))) .skip))
 (.seq (.seq
 (.reg false (.op false ⟨(some 32), none, (.mv (.tmp 9))⟩
  (.op false ⟨(some 33), none, (.bin .eql (.tmp 32) (.const (.int .i64 0)))⟩ .done))) (.cond (.tmp 33)
 (.seq
 (.reg true (.op true ⟨(some 34), none, (.ld (some 6) (.tmp 3))⟩
  (.op true ⟨(some 35), none, (.mv (.tmp 1))⟩
  (.op true ⟨(some 36), none, (.idx 6 (.tmp 35) (.const (.int .i64 0)))⟩
  (.op true ⟨(some 37), none, (.ld (some 6) (.tmp 36))⟩
  (.op true ⟨(some 38), none, (.ld (some 6) (.tmp 8))⟩
  (.op false ⟨(some 39), none, (.call f_thimbleref08_Set [(.tmp 34), (.tmp 37), (.tmp 38)])⟩
  (.op true ⟨(some 40), none, (.ext (.tmp 39) 0)⟩
  (.op true ⟨(some 41), none, (.ext (.tmp 39) 1)⟩
  (.bar (.op false ⟨none, none, (.st 6 (.tmp 6) (.tmp 40))⟩
  (.op true ⟨(some 7), none, (.mv (.tmp 41))⟩ .done)))))))))))) .ret) .skip))
 (.seq
 (.reg false (.op false ⟨(some 42), none, (.bld [(0, 1), (1, 2), (3, 1), (4, 1), (5, 1)] [(.int .i64 0), (.int .i64 0), (.int .i64 0), (strV []), (.slice none 0 0), (.slice none 0 0)] [])⟩
  (.op false ⟨(some 43), none, (.mv (.tmp 9))⟩
  (.op false ⟨none, none, (.st 6 (.tmp 6) (.tmp 42))⟩
  (.op false ⟨(some 7), none, (.mv (.tmp 43))⟩ .done))))) .ret))))))⟩

set_option maxHeartbeats 2000000 in
theorem rputr_ok {T : PHeap → Prop} (hTm : ∀ {d d' : PHeap}, T d → Le d d' → T d') {P : Program} {f f1 f2 : FuncId} (hd : decp P f = some (g_thimbleref08_put f1 f f2)) (h1 : IntoOk P f1) (h2 : RSetOk T P f2) : RPutROk T P f := by
  intro l
  induction l with
  | nil =>
    intro d cs es w v x ht hv hg hdep hb hw hst hx hbx hll
    obtain ⟨a, c, rfl⟩ := RSl.val hw
    refine GCall_of hd (Nat.le_of_ble_eq_true rfl) ?_
    obtain ⟨c0, c1, c2, c3, c4, c5, rfl⟩ := six hv.len
    obtain ⟨x0, x1, x2, x3, x4, x5, rfl⟩ := six hx.len
    show gwp P _ _ _ _ _
    apply w_sq; apply w_reg
    refine w_boxa (l := [c0, c1, c2, c3, c4, c5]) rfl (fun b3 T3 => ?_)
    refine w_boxa (l := [x0, x1, x2, x3, x4, x5]) rfl (fun b5 T5 => ?_)
    have hz : (([] : List St).length : Int) = 0 := rfl
    (apply w_alo; intro _ _; apply w_mvi; rfl; apply w_done0; apply w_sq; apply w_sq; apply w_reg; apply w_mvs; rfl; apply w_len; rfl; apply w_eql; rfl; rfl; apply w_done0; refine w_ifdT rfl (by omega) ?_; apply w_sq; apply w_reg; apply w_ldb 1; rfl; rfl; rfl)
    refine w_stE 0 [x0, x1, x2, x3, x4, x5] rfl rfl rfl rfl (Nat.le_of_ble_eq_true rfl) (cell1_val _ _ _ hx) rfl ?_
    (apply w_mvi; rfl; apply w_done0; apply w_ret)
    exact finVDE 0 rfl rfl rfl hx
  | cons s l ih =>
    intro d cs es w v x ht hv hg hdep hb hw hst hx hbx hll
    have n1 := RSl.len_le hw
    obtain ⟨a, c, rfl⟩ := RSl.val hw
    have hw' := hw
    have hcnt := put_cnt l (intoF v s).1 x (Nat.le_trans (into_txt v s) hb)
    have hcb := cnt_txt v
    have hlc : ((s :: l).length : Int) = l.length + 1 := by simp
    have hso := hst s (List.mem_cons_self ..)
    rw [List.length_cons] at hll
    refine GCall_of hd (Nat.le_of_ble_eq_true rfl) ?_
    have hv0 := hv
    obtain ⟨c0, c1, c2, c3, c4, c5, rfl⟩ := six hv.len
    obtain ⟨x0, x1, x2, x3, x4, x5, rfl⟩ := six hx.len
    show gwp P _ _ _ _ _
    apply w_sq; apply w_reg
    refine w_boxa (l := [c0, c1, c2, c3, c4, c5]) rfl (fun b3 T3 => ?_)
    refine w_boxa (l := [x0, x1, x2, x3, x4, x5]) rfl (fun b5 T5 => ?_)
    (apply w_alo; intro _ _; apply w_mvi; rfl; apply w_done0)
    rename_i b6 T6
    apply w_sq; apply w_sq; apply w_reg
    (apply w_mvs; rfl; apply w_len; rfl; apply w_eql; rfl; rfl; apply w_done0)
    refine w_ifdF rfl (by omega) ?_
    apply w_skip
    apply w_sq
    refine w_drawn ?_
    (apply w_ldb 2; rfl; rfl; rfl; apply w_mvs; rfl; refine w_idxR (m := 0) (sz := 6) (R := RSt) (by rfl) (by assumption) (by rfl) rfl (by omega) ?_; rintro _ _ _ _ _ ⟨rfl, _, _, _, _⟩; apply w_ldd; rfl; assumption; rfl)
    rename_i hcs hD ik' it' is id
    have hS : RSt d [.int .i64 s.kind, strV s.text, .int .i64 s.src, .int .i64 s.dst, .bool s.hf, .bool s.ht] s := ⟨rfl, ik', it', is, id⟩
    refine w_par (α := Nat × TypeId) (β := List Value) [(1, .slice a (s :: l).length c), (3, .pointer (some ⟨b3, 0, none⟩)), (5, .pointer (some ⟨b5, 0, none⟩)), (6, .pointer (some ⟨b6, 0, none⟩))] (fun x => [(8, .pointer (some ⟨x.1, 0, none⟩))]) (fun x d L => L = [bx x.1 x.2 zVal])
      (fun y => [(20, .agg y.toArray), (21, .int .i64 (intoF v s).2)]) (fun y d L => RVal d y (intoF v s).1 ∧ L = []) [] [] rfl
      (fun x d d' M hl h => h) (fun y d d' M hl h => ⟨RVal.mono hl h.1, h.2⟩) (fun x => rfl) (fun y => rfl) rfl ⟨rfl, rfl, rfl, rfl, trivial⟩ ?_ ?_ ?_
    · (apply w_alo; intro _ _; apply w_done)
      exact ⟨_, rfl, (_, _), ⟨rfl, trivial⟩, rfl⟩
    · refine w_call0 rfl (h1 hv (gd_one hg) (gd_text hg) hS) (fun r d3 L3 _ ⟨hdd, hL, cs', hr, hR'⟩ => ?_)
      subst hdd; subst hL; subst hr
      (apply w_mvu; rfl; apply w_ext; rfl; rfl; apply w_ext; rfl; rfl; apply w_done)
      exact ⟨_, rfl, cs', ⟨rfl, rfl, trivial⟩, hR', rfl⟩
    rintro ⟨b8, T8⟩ cs' ρ d' M1 M2 hl1 hM1 ⟨hR, hM2⟩
    subst hM1; subst hM2
    obtain ⟨e0, e1, e2, e3, e4, e5, rfl⟩ := six hR.len
    refine w_stE 0 [e0, e1, e2, e3, e4, e5] rfl rfl rfl rfl (Nat.le_of_ble_eq_true rfl) (cell1_val _ _ _ hR) rfl ?_
    (apply w_mvi; rfl; apply w_done)
    have ht1 := hTm ht hl1
    have hv1 := RVal.mono hl1 hv0
    have hx1 := RVal.mono hl1 hx
    have hw1 : RSl 6 RSt d' (.slice a (s :: l).length c) (s :: l) := RSl.mono (R := RSt) (fun hl h => h) hw' hl1
    by_cases he : (intoF v s).2 ≠ 0
    · rw [putF, if_pos he]
      (apply w_sq; apply w_sq; apply w_reg; apply w_mvi; rfl; apply w_eql; rfl; rfl; apply w_done0; refine w_ifdF rfl (by omega) ?_; apply w_skip; apply w_sq; apply w_sq; apply w_reg; apply w_mvi; rfl; apply w_eql; rfl; rfl; apply w_done0; refine w_ifdF rfl (by omega) ?_; apply w_skip; apply w_sq; apply w_reg; apply w_bvZ; apply w_mvi; rfl)
      refine w_stE 0 zVal rfl rfl rfl rfl (Nat.le_of_ble_eq_true rfl) rfl rfl ?_
      (apply w_mvi; rfl; apply w_done0; apply w_ret)
      exact finVDE 0 rfl rfl rfl RVal.zero
    rw [putF, if_neg he]
    (apply w_sq; apply w_sq; apply w_reg; apply w_mvi; rfl; apply w_eql; rfl; rfl; apply w_done0; refine w_ifdT rfl (by omega) ?_)
    refine w_drawnA [bx b6 T6 zVal, bx b5 T5 [x0, x1, x2, x3, x4, x5], bx b3 T3 [c0, c1, c2, c3, c4, c5]] [bx b8 T8 [e0, e1, e2, e3, e4, e5]] rfl ?_
    (apply w_mvs; rfl)
    refine w_slFrom (n := 1) rfl hw1 rfl rfl (by simp) (fun v' hv' => ?_)
    (apply w_ldb 1; rfl; rfl; rfl; apply w_ldb 3; rfl; rfl; rfl)
    refine w_call0 rfl (ih ht1 hR (into_gd hg s) (Nat.le_trans (into_depth v s) hdep) (Nat.le_trans (into_txt v s) hb) hv' (fun x hx => hst x (List.mem_cons_of_mem _ hx)) hx1 hbx (by omega)) (fun r d4 L4 hl4 ⟨hL, cs', hr, hR'⟩ => ?_)
    subst hL; subst hr
    obtain ⟨f0, f1', f2', f3', f4', f5, rfl⟩ := six hR'.len
    (apply w_mvu; rfl; apply w_ext; rfl; rfl; apply w_ext; rfl; rfl)
    refine w_stE 0 [f0, f1', f2', f3', f4', f5] rfl rfl rfl rfl (Nat.le_of_ble_eq_true rfl) (cell1_val _ _ _ hR') rfl ?_
    by_cases he2 : (putF (intoF v s).1 l x).2 ≠ 0
    · rw [if_pos he2]
      (apply w_mvi; rfl; apply w_done; apply w_sq; apply w_sq; apply w_reg; apply w_mvi; rfl; apply w_eql; rfl; rfl; apply w_done0; refine w_ifdF rfl (by omega) ?_; apply w_skip; apply w_sq; apply w_reg; apply w_bvZ; apply w_mvi; rfl)
      refine w_stE 0 zVal rfl rfl rfl rfl (Nat.le_of_ble_eq_true rfl) rfl rfl ?_
      (apply w_mvi; rfl; apply w_done0; apply w_ret)
      exact finVDE 0 rfl rfl rfl RVal.zero
    rw [if_neg he2]
    have hw4 : RSl 6 RSt d4 (.slice a (s :: l).length c) (s :: l) := RSl.mono (R := RSt) (fun hl h => h) hw1 hl4
    (apply w_mvi; rfl; apply w_done; apply w_sq; apply w_sq; apply w_reg; apply w_mvi; rfl; apply w_eql; rfl; rfl; apply w_done0; refine w_ifdT rfl (by omega) ?_; apply w_sq)
    refine w_drawn ?_
    (apply w_ldb 2; rfl; rfl; rfl; apply w_mvs; rfl; refine w_idxR (m := 0) (sz := 6) (R := RSt) (by rfl) (by assumption) (by rfl) rfl (by omega) ?_; rintro _ _ _ _ _ ⟨rfl, _, _, _, _⟩; apply w_ldd; rfl; assumption; rfl; apply w_ldb 3; rfl; rfl; rfl)
    refine w_call0 rfl (h2 (hTm ht1 hl4) (RVal.mono hl4 hv1) hg.1 hdep hS hso.1 hso.2.1 hso.2.2 hR' (by omega)) (fun r d5 L5 hl5 ⟨hL, cs', hr, hR2⟩ => ?_)
    subst hL; subst hr
    obtain ⟨g0, g1, g2, g3, g4, g5, rfl⟩ := six hR2.len
    (apply w_ext; rfl; rfl; apply w_ext; rfl; rfl; apply w_bar)
    refine w_stE 0 [g0, g1, g2, g3, g4, g5] rfl rfl rfl rfl (Nat.le_of_ble_eq_true rfl) (cell1_val _ _ _ hR2) rfl ?_
    (apply w_mvi; rfl; apply w_done0; apply w_ret)
    exact finVDE 0 rfl rfl rfl hR2
end Go.Gk.Val
end

section
/-
  Ways: the reference's put, from the top.
-/
namespace Go.Gk.Val
open Go Go.Gk Go.Gk.Utf
attribute [local irreducible] gwp gws

def RPutOk (T : PHeap → Prop) (P : Program) (f : FuncId) : Prop := ∀ {d : PHeap} {cs es : List Value} {w : Value} {v x : V} {l : List St}, T d → RVal d cs v → RSl 6 RSt d w l → RVal d es x → txtV v ≤ 1000000 → txtV x ≤ 1000000 → l.length ≤ 100 →
  GCall P f [.agg cs.toArray, w, .agg es.toArray] d [] (Ret fun r d' L' => L' = [] ∧ ∃ cs', r = .tuple #[.agg cs'.toArray, .int .i64 (putTop v l x).2] ∧ RVal d' cs' (putTop v l x).1)
/-- What is wrong with the three. -/
def badF (v : V) (l : List St) (x : V) : Int := if rightV v ≠ 0 then rightV v else if rightV x ≠ 0 then rightV x else wrongF v l
theorem put_bad {v x : V} {l : List St} (h : badF v l x ≠ 0) : putTop v l x = (V.zero, badF v l x) := by
  unfold badF at h ⊢
  rw [putTop]
  by_cases h1 : rightV v ≠ 0
  · rw [if_pos h1, if_pos h1]
  rw [if_neg h1] at h
  rw [if_neg h1, if_neg h1]
  by_cases h2 : rightV x ≠ 0
  · rw [if_pos h2, if_pos h2]
  rw [if_neg h2] at h
  rw [if_neg h2, if_neg h2, if_pos h]
theorem put_ok0 {v x : V} {l : List St} (h : badF v l x = 0) : rightV v = 0 ∧ rightV x = 0 ∧ wrongF v l = 0 := by
  unfold badF at h
  by_cases h1 : rightV v ≠ 0
  · rw [if_pos h1] at h; exact absurd h h1
  rw [if_neg h1] at h
  by_cases h2 : rightV x ≠ 0
  · rw [if_pos h2] at h; exact absurd h h2
  rw [if_neg h2] at h
  exact ⟨by simpa using h1, by simpa using h2, h⟩
def g_thimbleref08_Put (f_thimbleref03_Right f_thimbleref08_Wrong f_thimbleref08_put f_thimbleref03_Depth : Nat) : GFun :=
 ⟨43, [(.cell 6 (some 6)), (.tmp 7)],
 (.seq
 (.reg false (.op false ⟨(some 3), none, (.box (.tmp 0))⟩
  (.op false ⟨(some 5), none, (.box (.tmp 2))⟩
  (.op false ⟨(some 6), none, (.alo (.agg #[(.int .i64 0), (.int .i64 0), (.int .i64 0), (strV []), (.slice none 0 0), (.slice none 0 0)]))⟩
  (.op false ⟨(some 7), none, (.mv (.const (.int .i64 0)))⟩ .done)))))
 (.seq
 (.reg false (.op false ⟨(some 10), none, (.ld (some 6) (.tmp 3))⟩
  (.op false ⟨(some 11), none, (.call f_thimbleref03_Right [(.tmp 10)])⟩
  (.op false ⟨(some 8), none, (.mv (.tmp 11))⟩ .done))))
 (.seq (.seq
 (.reg false (.op false ⟨(some 12), none, (.mv (.tmp 8))⟩
  (.op false ⟨(some 13), none, (.bin .eql (.tmp 12) (.const (.int .i64 0)))⟩ .done))) (.cond (.tmp 13)
 (.reg false (.op false ⟨(some 14), none, (.ld (some 6) (.tmp 5))⟩
  (.op false ⟨(some 15), none, (.call f_thimbleref03_Right [(.tmp 14)])⟩
  (.op false ⟨(some 8), none, (.mv (.tmp 15))⟩ .done)))) .skip))
 (.seq (.seq
 (.reg false (.op false ⟨(some 16), none, (.mv (.tmp 8))⟩
  (.op false ⟨(some 17), none, (.bin .eql (.tmp 16) (.const (.int .i64 0)))⟩ .done))) (.cond (.tmp 17)
 (.reg false (.op false ⟨(some 18), none, (.mv (.tmp 1))⟩
  (.op false ⟨(some 19), none, (.call f_thimbleref08_Wrong [(.tmp 18)])⟩
  (.op false ⟨(some 8), none, (.mv (.tmp 19))⟩ .done)))) .skip))
 (.seq (.seq
 (.reg false (.op false ⟨(some 20), none, (.mv (.tmp 8))⟩
  (.op false ⟨(some 21), none, (.bin .neq (.tmp 20) (.const (.int .i64 0)))⟩ .done))) (.cond (.tmp 21)
 (.seq
 (.reg false (.op false ⟨(some 22), none, (.bld [(0, 1), (1, 2), (3, 1), (4, 1), (5, 1)] [(.int .i64 0), (.int .i64 0), (.int .i64 0), (strV []), (.slice none 0 0), (.slice none 0 0)] [])⟩
  (.op false ⟨(some 23), none, (.mv (.tmp 8))⟩
  (.op false ⟨none, none, (.st 6 (.tmp 6) (.tmp 22))⟩
  (.op false ⟨(some 7), none, (.mv (.tmp 23))⟩ .done))))) .ret) .skip))
 (.seq
 (.reg false (.op false ⟨(some 25), none, (.ld (some 6) (.tmp 3))⟩
  (.op false ⟨(some 26), none, (.mv (.tmp 1))⟩
  (.op false ⟨(some 27), none, (.ld (some 6) (.tmp 5))⟩
  (.op false ⟨(some 28), none, (.call f_thimbleref08_put [(.tmp 25), (.tmp 26), (.tmp 27)])⟩
  (.op false ⟨(some 24), none, (.mv (.tmp 28))⟩
  (.op false ⟨(some 29), none, (.ext (.tmp 24) 0)⟩
  (.op false ⟨(some 30), none, (.ext (.tmp 24) 1)⟩
  (.op false ⟨(some 9), none, (.alo (.agg #[(.int .i64 0), (.int .i64 0), (.int .i64 0), (strV []), (.slice none 0 0), (.slice none 0 0)]))⟩
  (.op false ⟨none, none, (.st 6 (.tmp 9) (.tmp 29))⟩
  (.op false ⟨(some 8), none, (.mv (.tmp 30))⟩ .done)))))))))))
 (.seq (.seq
 (.reg false (.op false ⟨(some 31), none, (.mv (.tmp 8))⟩
  (.op false ⟨(some 32), none, (.bin .eql (.tmp 31) (.const (.int .i64 0)))⟩
  (.op false ⟨(some 33), none, (.mv (.tmp 32))⟩
  (.op false ⟨(some 34), (some (33, true)), (.ld (some 6) (.tmp 9))⟩
  (.op false ⟨(some 35), (some (33, true)), (.call f_thimbleref03_Depth [(.tmp 34)])⟩
  (.op false ⟨(some 36), (some (33, true)), (.bin .gtr (.tmp 35) (.const (.int .i64 48)))⟩
  (.op false ⟨(some 37), none, (.pick (.tmp 33) (.tmp 36) (.const (.bool false)))⟩ .done)))))))) (.cond (.tmp 37)
 (.reg false (.op false ⟨(some 8), none, (.mv (.const (.int .i64 31)))⟩ .done)) .skip))
 (.seq (.seq
 (.reg false (.op false ⟨(some 38), none, (.mv (.tmp 8))⟩
  (.op false ⟨(some 39), none, (.bin .neq (.tmp 38) (.const (.int .i64 0)))⟩ .done))) (.cond (.tmp 39)
 (.seq
 (.reg false (.op false ⟨(some 40), none, (.bld [(0, 1), (1, 2), (3, 1), (4, 1), (5, 1)] [(.int .i64 0), (.int .i64 0), (.int .i64 0), (strV []), (.slice none 0 0), (.slice none 0 0)] [])⟩
  (.op false ⟨(some 41), none, (.mv (.tmp 8))⟩
  (.op false ⟨none, none, (.st 6 (.tmp 6) (.tmp 40))⟩
  (.op false ⟨(some 7), none, (.mv (.tmp 41))⟩ .done))))) .ret) .skip))
 (.seq
 (.reg false (.op false ⟨(some 42), none, (.ld (some 6) (.tmp 9))⟩
  (.op false ⟨none, none, (.st 6 (.tmp 6) (.tmp 42))⟩
  (.op false ⟨(some 7), none, (.mv (.const (.int .i64 0)))⟩ .done)))) .ret)))))))))⟩

set_option maxHeartbeats 1000000 in
theorem rput_ok {T : PHeap → Prop} (hTm : ∀ {d d' : PHeap}, T d → Le d d' → T d') {P : Program} {f f1 f2 f3 f4 : FuncId} (hd : decp P f = some (g_thimbleref08_Put f1 f2 f3 f4)) (h1 : RRightOk T P f1) (h2 : RWrongOk T P f2) (h3 : RPutROk T P f3) (h4 : RDepthOk P f4) : RPutOk T P f := by
  intro d cs es w v x l ht hv hw hx hb hbx hll
  have n1 := RSl.len_le hw
  obtain ⟨a, c, rfl⟩ := RSl.val hw
  refine GCall_of hd (Nat.le_of_ble_eq_true rfl) ?_
  have hv0 := hv
  have hx0 := hx
  have hdep := depth_txt v
  have hdepx := depth_txt x
  have hcx := cnt_txt x
  obtain ⟨c0, c1, c2, c3, c4, c5, rfl⟩ := six hv.len
  obtain ⟨x0, x1, x2, x3, x4, x5, rfl⟩ := six hx.len
  show gwp P _ _ _ _ _
  apply w_sq; apply w_reg
  refine w_boxa (l := [c0, c1, c2, c3, c4, c5]) rfl (fun b3 T3 => ?_)
  refine w_boxa (l := [x0, x1, x2, x3, x4, x5]) rfl (fun b5 T5 => ?_)
  (apply w_alo; intro _ _; apply w_mvi; rfl; apply w_done0)
  rename_i b6 T6
  apply w_sq; apply w_reg
  (apply w_ldb 2; rfl; rfl; rfl)
  refine w_pure rfl (h1 ht hv0 (by omega)) ?_
  (apply w_mvi; rfl; apply w_done0)
  refine w_mid (fun ρ d' L' => d' = d ∧ SlotsAre ρ [(1, .slice a l.length c), (3, .pointer (some ⟨b3, 0, none⟩)), (5, .pointer (some ⟨b5, 0, none⟩)), (6, .pointer (some ⟨b6, 0, none⟩)), (8, .int .i64 (if rightV v ≠ 0 then rightV v else rightV x))] ∧
    L' = [bx b6 T6 zVal, bx b5 T5 [x0, x1, x2, x3, x4, x5], bx b3 T3 [c0, c1, c2, c3, c4, c5]]) ?_ ?_
  · by_cases h0 : rightV v = 0
    · (apply w_sq; apply w_reg; apply w_mvi; rfl; apply w_eql; rfl; rfl; apply w_done0; refine w_ifdT rfl (by omega) ?_; apply w_reg; apply w_ldb 1; rfl; rfl; rfl)
      refine w_pure rfl (h1 ht hx0 (by omega)) ?_
      (apply w_mvi; rfl; apply w_done0)
      exact ⟨rfl, ⟨rfl, rfl, rfl, rfl, int_eq (by simp [h0]), trivial⟩, rfl⟩
    · (apply w_sq; apply w_reg; apply w_mvi; rfl; apply w_eql; rfl; rfl; apply w_done0; refine w_ifdF rfl (by omega) ?_; apply w_skip)
      exact ⟨rfl, ⟨rfl, rfl, rfl, rfl, int_eq (by simp [h0]), trivial⟩, rfl⟩
  rintro ρ d' L' ⟨hdd, hsl, hL⟩
  subst hdd; subst hL
  refine gwp_slots _ hsl ?_
  clear hsl
  refine w_mid (fun ρ e L' => e = d' ∧ SlotsAre ρ [(1, .slice a l.length c), (3, .pointer (some ⟨b3, 0, none⟩)), (5, .pointer (some ⟨b5, 0, none⟩)), (6, .pointer (some ⟨b6, 0, none⟩)), (8, .int .i64 (badF v l x))] ∧
    L' = [bx b6 T6 zVal, bx b5 T5 [x0, x1, x2, x3, x4, x5], bx b3 T3 [c0, c1, c2, c3, c4, c5]]) ?_ ?_
  · by_cases h0 : (if rightV v ≠ 0 then rightV v else rightV x) = 0
    · have hq : rightV v = 0 ∧ rightV x = 0 := by
        by_cases q : rightV v ≠ 0
        · rw [if_pos q] at h0; exact absurd h0 q
        · rw [if_neg q] at h0; exact ⟨by simpa using q, h0⟩
      (apply w_sq; apply w_reg; apply w_mvi; rfl; apply w_eql; rfl; rfl; apply w_done0; refine w_ifdT rfl (by omega) ?_; apply w_reg; apply w_mvs; rfl)
      refine w_pure rfl (h2 ht hw) ?_
      (apply w_mvi; rfl; apply w_done0)
      exact ⟨rfl, ⟨rfl, rfl, rfl, rfl, int_eq (by simp [badF, wrongF, hq.1, hq.2]), trivial⟩, rfl⟩
    · (apply w_sq; apply w_reg; apply w_mvi; rfl; apply w_eql; rfl; rfl; apply w_done0; refine w_ifdF rfl (by omega) ?_; apply w_skip)
      refine ⟨rfl, ⟨rfl, rfl, rfl, rfl, int_eq ?_, trivial⟩, rfl⟩
      unfold badF
      by_cases q : rightV v ≠ 0
      · rw [if_pos q, if_pos q]
      · rw [if_neg q] at h0 ⊢
        rw [if_neg q, if_pos h0]
  rintro ρ d' L' ⟨hdd, hsl, hL⟩
  subst hdd; subst hL
  refine gwp_slots _ hsl ?_
  clear hsl
  by_cases q : badF v l x ≠ 0
  · rw [put_bad q]
    (apply w_sq; apply w_sq; apply w_reg; apply w_mvi; rfl; apply w_neq; rfl; rfl; apply w_done0; refine w_ifdT rfl (by omega) ?_; apply w_sq; apply w_reg; apply w_bvZ; apply w_mvi; rfl)
    refine w_stE 0 zVal rfl rfl rfl rfl (Nat.le_of_ble_eq_true rfl) rfl rfl ?_
    (apply w_mvi; rfl; apply w_done0; apply w_ret)
    exact finVDE 0 rfl rfl rfl RVal.zero
  have hw0 : badF v l x = 0 := by omega
  obtain ⟨q1, q2, q3⟩ := put_ok0 hw0
  obtain ⟨k1, k2, k3⟩ := wrongF_eq.1 q3
  have hgd := right_gd q1 (by omega)
  rw [put_top' q1 q2 q3 (by omega)]
  (apply w_sq; apply w_sq; apply w_reg; apply w_mvi; rfl; apply w_neq; rfl; rfl; apply w_done0; refine w_ifdF rfl (by omega) ?_; apply w_skip; apply w_sq; apply w_reg; apply w_ldb 2; rfl; rfl; rfl; apply w_mvs; rfl; apply w_ldb 1; rfl; rfl; rfl)
  refine w_call0 rfl (h3 l ht hv0 hgd k2 hb hw (step_ok k3) hx0 (by omega) hll) (fun r d2 L2 hl2 ⟨hL, cs', hr, hR⟩ => ?_)
  subst hL; subst hr
  obtain ⟨g0, g1, g2, g3, g4, g5, rfl⟩ := six hR.len
  (apply w_mvu; rfl; apply w_ext; rfl; rfl; apply w_ext; rfl; rfl; apply w_alo; intro _ _)
  rename_i b9 T9
  refine w_stE 0 [g0, g1, g2, g3, g4, g5] rfl rfl rfl rfl (Nat.le_of_ble_eq_true rfl) (cell1_val _ _ _ hR) rfl ?_
  by_cases p1 : (putF v l x).2 ≠ 0
  · rw [putTop', if_pos p1]
    (apply w_mvi; rfl; apply w_done0; apply w_sq; apply w_sq; apply w_reg; apply w_mvi; rfl; apply w_eql; rfl; rfl; apply w_mvb; rfl; refine w_gdF rfl (by omega) ?_; apply w_gF; rfl; apply w_gF; rfl; apply w_gF; rfl; apply w_pickFb; rfl; rfl; apply w_done0; apply w_ifF; rfl; apply w_skip; apply w_sq; apply w_sq; apply w_reg; apply w_mvi; rfl; apply w_neq; rfl; rfl; apply w_done0; refine w_ifdT rfl (by omega) ?_; apply w_sq; apply w_reg; apply w_bvZ; apply w_mvi; rfl)
    refine w_stE 1 zVal rfl rfl rfl rfl (Nat.le_of_ble_eq_true rfl) rfl rfl ?_
    (apply w_mvi; rfl; apply w_done0; apply w_ret)
    exact finVDE 1 rfl rfl rfl RVal.zero
  obtain ⟨hm2, hd2⟩ := put_right l hgd (right_iff.1 q2).1 (wrong_iff.1 q3).2 k2 (right_iff.1 q2).2 (by omega)
  have p2 : (putF v l x).2 = 0 := by omega
  rw [putTop', if_neg p1]
  (apply w_mvi; rfl; apply w_done0; apply w_sq; apply w_sq; apply w_reg; apply w_mvi; rfl; apply w_eql; rfl; rfl; apply w_mvb; rfl; refine w_gdT rfl (by omega) ?_; apply w_gT; rfl; apply w_ldb 0; rfl; rfl; rfl; apply w_gT; rfl)
  refine w_pure rfl (h4 _ hR (by omega)) ?_
  by_cases p3 : 48 < depthV (putF v l x).1
  · rw [if_pos p3]
    (apply w_gT; rfl; apply w_gtr; rfl; rfl; apply w_pickTb; rfl; rfl; apply w_done0; refine w_ifdT rfl (by omega) ?_; apply w_reg; apply w_mvi; rfl; apply w_done0; apply w_sq; apply w_sq; apply w_reg; apply w_mvi; rfl; apply w_neq; rfl; rfl; apply w_done0; refine w_ifdT rfl (by omega) ?_; apply w_sq; apply w_reg; apply w_bvZ; apply w_mvi; rfl)
    refine w_stE 1 zVal rfl rfl rfl rfl (Nat.le_of_ble_eq_true rfl) rfl rfl ?_
    (apply w_mvi; rfl; apply w_done0; apply w_ret)
    exact finVDE 1 rfl rfl rfl RVal.zero
  · rw [if_neg p3]
    (apply w_gT; rfl; apply w_gtr; rfl; rfl; apply w_pickTb; rfl; rfl; apply w_done0; refine w_ifdF rfl (by omega) ?_; apply w_skip; apply w_sq; apply w_sq; apply w_reg; apply w_mvi; rfl; apply w_neq; rfl; rfl; apply w_done0; refine w_ifdF rfl (by omega) ?_; apply w_skip; apply w_sq; apply w_reg; apply w_ldb 0; rfl; rfl; rfl)
    refine w_stE 1 [g0, g1, g2, g3, g4, g5] rfl rfl rfl rfl (Nat.le_of_ble_eq_true rfl) (cell1_val _ _ _ hR) rfl ?_
    (apply w_mvi; rfl; apply w_done0; apply w_ret)
    exact finVDE 1 rfl rfl rfl hR
end Go.Gk.Val
end

section
/-
  The laws of ways: StepsPut.
-/
namespace Go.Gk.Val
open Go Go.Gk Go.Gk.Utf
attribute [local irreducible] gwp gws

def g_thimblelaw08_StepsPut (f_thimblelaw08_great f_thimblelaw08_works f_thimbleref03_Copy f_steps_Put f_thimbleref08_Put f_thimbleref03_Same f_thimblelaw08_spoil : Nat) : GFun :=
 ⟨59, [(.tmp 6)],
 (.seq
 (.reg false (.op false ⟨(some 3), none, (.box (.tmp 0))⟩
  (.op false ⟨(some 5), none, (.box (.tmp 2))⟩
  (.op false ⟨(some 6), none, (.mv (.const (.bool false)))⟩ .done))))
 (.seq (.seq
 (.reg false (.op false ⟨(some 13), none, (.mv (.tmp 1))⟩
  (.op false ⟨(some 14), none, (.ld (some 6) (.tmp 3))⟩
  (.op false ⟨(some 15), none, (.ld (some 6) (.tmp 5))⟩
  (.op false ⟨(some 16), none, (.bsl 2 6 [(.int .i64 0), (.int .i64 0), (.int .i64 0), (strV []), (.slice none 0 0), (.slice none 0 0)] [(0, (.tmp 14)), (1, (.tmp 15))])⟩
  (.op false ⟨(some 17), none, (.call f_thimblelaw08_great [(.tmp 13), (.tmp 16)])⟩ .done)))))) (.cond (.tmp 17)
 (.seq
 (.reg false (.op false ⟨(some 18), none, (.call f_thimblelaw08_works [])⟩
  (.op false ⟨(some 6), none, (.mv (.tmp 18))⟩ .done))) .ret) .skip))
 (.seq
 (.reg true (.op true ⟨(some 19), none, (.ld (some 6) (.tmp 3))⟩
  (.op true ⟨(some 21), none, (.ld (some 6) (.tmp 5))⟩ (.par (.op false ⟨(some 8), none, (.alo (.agg #[(.int .i64 0), (.int .i64 0), (.int .i64 0), (strV []), (.slice none 0 0), (.slice none 0 0)]))⟩ .done) (.par (.op false ⟨(some 20), none, (.call f_thimbleref03_Copy [(.tmp 19)])⟩
  (.op false ⟨(some 22), none, (.call f_thimbleref03_Copy [(.tmp 21)])⟩ .done)) (.op false ⟨(some 7), none, (.alo (.agg #[(.int .i64 0), (.int .i64 0), (.int .i64 0), (strV []), (.slice none 0 0), (.slice none 0 0)]))⟩ .done) .done) (.op false ⟨none, none, (.st 6 (.tmp 7) (.tmp 20))⟩
  (.op false ⟨none, none, (.st 6 (.tmp 8) (.tmp 22))⟩ .done))))))
 (.seq
 (.reg false (.op false ⟨(some 24), none, (.ld (some 6) (.tmp 7))⟩
  (.op false ⟨(some 25), none, (.mv (.tmp 1))⟩
  (.op false ⟨(some 26), none, (.ld (some 6) (.tmp 8))⟩
  (.op false ⟨(some 27), none, (.call f_steps_Put [(.tmp 24), (.tmp 25), (.tmp 26)])⟩
  (.op false ⟨(some 23), none, (.mv (.tmp 27))⟩
  (.op false ⟨(some 28), none, (.ext (.tmp 23) 0)⟩
  (.op false ⟨(some 29), none, (.ext (.tmp 23) 1)⟩
  (.op false ⟨(some 9), none, (.alo (.agg #[(.int .i64 0), (.int .i64 0), (.int .i64 0), (strV []), (.slice none 0 0), (.slice none 0 0)]))⟩
  (.op false ⟨none, none, (.st 6 (.tmp 9) (.tmp 28))⟩
  (.op false ⟨(some 10), none, (.mv (.tmp 29))⟩ .done)))))))))))
 (.seq
 (.reg false (.op false ⟨(some 31), none, (.ld (some 6) (.tmp 3))⟩
  (.op false ⟨(some 32), none, (.mv (.tmp 1))⟩
  (.op false ⟨(some 33), none, (.ld (some 6) (.tmp 5))⟩
  (.op false ⟨(some 34), none, (.call f_thimbleref08_Put [(.tmp 31), (.tmp 32), (.tmp 33)])⟩
  (.op false ⟨(some 30), none, (.mv (.tmp 34))⟩
  (.op false ⟨(some 35), none, (.ext (.tmp 30) 0)⟩
  (.op false ⟨(some 36), none, (.ext (.tmp 30) 1)⟩
  (.op false ⟨(some 11), none, (.alo (.agg #[(.int .i64 0), (.int .i64 0), (.int .i64 0), (strV []), (.slice none 0 0), (.slice none 0 0)]))⟩
  (.op false ⟨none, none, (.st 6 (.tmp 11) (.tmp 35))⟩
  (.op false ⟨(some 12), none, (.mv (.tmp 36))⟩ .done)))))))))))
 (.seq (.seq
 (.reg false (.op false ⟨(some 37), none, (.ld (some 6) (.tmp 9))⟩
  (.op false ⟨(some 38), none, (.ld (some 6) (.tmp 11))⟩
  (.op false ⟨(some 39), none, (.call f_thimbleref03_Same [(.tmp 37), (.tmp 38)])⟩
  (.op false ⟨(some 40), none, (.un .not (.tmp 39))⟩
  (.op false ⟨(some 41), none, (.mv (.tmp 40))⟩
  (.op false ⟨(some 42), (some (41, false)), (.mv (.tmp 10))⟩
  (.op false ⟨(some 43), (some (41, false)), (.mv (.tmp 12))⟩
  (.op false ⟨(some 44), (some (41, false)), (.bin .neq (.tmp 42) (.tmp 43))⟩
  (.op false ⟨(some 45), none, (.pick (.tmp 41) (.const (.bool true)) (.tmp 44))⟩ .done)))))))))) (.cond (.tmp 45)
 (.seq
 (.reg false (.op false ⟨(some 6), none, (.mv (.const (.bool false)))⟩ .done)) .ret) .skip))
 (.seq
 (.reg false (.op false ⟨(some 46), none, (.ld (some 6) (.tmp 9))⟩
  (.op false ⟨(some 47), none, (.call f_thimblelaw08_spoil [(.tmp 46)])⟩ .done)))
 (.seq
 (.reg false (.op false ⟨(some 48), none, (.ld (some 6) (.tmp 7))⟩
  (.op false ⟨(some 49), none, (.ld (some 6) (.tmp 3))⟩
  (.op false ⟨(some 50), none, (.call f_thimbleref03_Same [(.tmp 48), (.tmp 49)])⟩
  (.op false ⟨(some 51), none, (.mv (.tmp 50))⟩
  (.op false ⟨(some 52), (some (51, true)), (.ld (some 6) (.tmp 8))⟩
  (.op false ⟨(some 53), (some (51, true)), (.ld (some 6) (.tmp 5))⟩
  (.op false ⟨(some 54), (some (51, true)), (.call f_thimbleref03_Same [(.tmp 52), (.tmp 53)])⟩
  (.op false ⟨(some 55), none, (.pick (.tmp 51) (.tmp 54) (.const (.bool false)))⟩
  (.op false ⟨(some 56), none, (.mv (.tmp 55))⟩
  (.op false ⟨(some 57), (some (56, true)), (.call f_thimblelaw08_works [])⟩
  (.op false ⟨(some 58), none, (.pick (.tmp 56) (.tmp 57) (.const (.bool false)))⟩
  (.op false ⟨(some 6), none, (.mv (.tmp 58))⟩ .done))))))))))))) .ret))))))))⟩

set_option maxHeartbeats 600000 in
theorem stepsPut_ok {T : PHeap → Prop} {P : Program} {f f1 f2 f3 f4 f5 f6 f7 : FuncId} (hT : ∀ {d d' : PHeap}, Le d d' → T d → T d') (hd : decp P f = some (g_thimblelaw08_StepsPut f1 f2 f3 f4 f5 f6 f7)) (h1 : GreatOk P f1) (h2 : WorksOk T P f2) (h3 : RCopyOk P f3) (h4 : PutOk T P f4) (h5 : RPutOk T P f5) (h6 : SameOk P f6) (h7 : SpoilVOk P f7)
    {d : PHeap} {cs es : List Value} {w : Value} {v x : V} {l : List St} (ht : T d) (hv : RVal d cs v) (hw : RSl 6 RSt d w l) (hx : RVal d es x) : GPure P f [.agg cs.toArray, w, .agg es.toArray] d (.bool true) := by
  obtain ⟨a, c, rfl⟩ := RSl.val hw
  obtain ⟨c0, c1, c2, c3, c4, c5, rfl⟩ := six hv.len
  obtain ⟨x0, x1, x2, x3, x4, x5, rfl⟩ := six hx.len
  refine GPure.of' hd (Nat.le_of_ble_eq_true rfl) ?_
  show gwp P _ _ _ _ _
  apply w_sq; apply w_reg
  refine w_boxa (l := [c0, c1, c2, c3, c4, c5]) rfl (fun b3 T3 => ?_)
  refine w_boxa (l := [x0, x1, x2, x3, x4, x5]) rfl (fun b5 T5 => ?_)
  (apply w_mvb; rfl; apply w_done0; apply w_sq; apply w_sq; apply w_reg; apply w_mvs; rfl; apply w_ldb 1; rfl; rfl; rfl; apply w_ldb 0; rfl; rfl; rfl)
  refine w_bsV2 (a := [c0, c1, c2, c3, c4, c5]) (b := [x0, x1, x2, x3, x4, x5]) rfl rfl rfl rfl (fun b16 T16 => ?_)
  refine w_frz (fun d1 hl1 hg1 => ?_)
  have hv1 := RVal.mono hl1 hv
  have hx1 := RVal.mono hl1 hx
  have hw1 : RSl 6 RSt d1 (.slice a l.length c) l := RSl.mono (R := RSt) (fun hl h => h) hw hl1
  refine w_call0 rfl (h1 hw1 (rvals2 hv hx hl1 hg1)) (fun r d3 L3 _ ⟨hdd, hL, b, hr, hb⟩ => ?_)
  subst hdd; subst hL; subst hr
  cases b with
  | true =>
    (apply w_done0; apply w_ifT; rfl; apply w_sq; apply w_reg)
    refine w_pure rfl (h2 (hT hl1 ht)) ?_
    (apply w_mvb; rfl; apply w_done0; apply w_ret)
    exact finQ rfl
  | false =>
  obtain ⟨hll, hbv⟩ := hb rfl
  have hbv : bulkV v + bulkV x ≤ 1000 := by
    have e : bulkV (.mk 0 0 0 [] [v, x] []) = 1 + 0 + 0 + (bulkV v + (bulkV x + 0)) := rfl
    omega
  have hcb := cnt_bulk v
  have htx := txt_bulk v
  have hcx := cnt_bulk x
  have htxx := txt_bulk x
  (apply w_done0; apply w_ifF; rfl; apply w_skip; apply w_sq; apply w_drawn; apply w_ldb 1; rfl; rfl; rfl; apply w_ldb 0; rfl; rfl; rfl)
  refine w_par (α := Nat × TypeId) (β := (Nat × TypeId) × List Value × List Value) [(1, .slice a l.length c), (3, .pointer (some ⟨b3, 0, none⟩)), (5, .pointer (some ⟨b5, 0, none⟩))] (fun x => [(8, .pointer (some ⟨x.1, 0, none⟩))]) (fun x d L => L = [bx x.1 x.2 zVal])
    (fun y => [(20, .agg y.2.1.toArray), (22, .agg y.2.2.toArray), (7, .pointer (some ⟨y.1.1, 0, none⟩))]) (fun y d L => RVal d y.2.1 v ∧ RVal d y.2.2 x ∧ L = [bx y.1.1 y.1.2 zVal]) [] [] rfl
    (fun x d d' M hl h => h) (fun y d d' M hl h => ⟨RVal.mono hl h.1, RVal.mono hl h.2.1, h.2.2⟩) (fun x => rfl) (fun y => rfl) rfl ⟨rfl, rfl, rfl, trivial⟩ ?_ ?_ ?_
  · (apply w_alo; intro _ _; apply w_done)
    exact ⟨_, rfl, (_, _), ⟨rfl, trivial⟩, rfl⟩
  · refine w_par (α := List Value × List Value) (β := Nat × TypeId) [] (fun y => [(20, .agg y.1.toArray), (22, .agg y.2.toArray)]) (fun y d L => RVal d y.1 v ∧ RVal d y.2 x ∧ L = [])
      (fun z => [(7, .pointer (some ⟨z.1, 0, none⟩))]) (fun z d L => L = [bx z.1 z.2 zVal]) [] [] rfl
      (fun y d d' M hl h => ⟨RVal.mono hl h.1, RVal.mono hl h.2.1, h.2.2⟩) (fun x d d' M hl h => h) (fun x => rfl) (fun y => rfl) rfl trivial ?_ ?_ ?_
    · refine w_call0 rfl (h3 v hv1 (by omega)) (fun r d2 L2 hl2 ⟨hL, cs2, hr, hR2⟩ => ?_)
      subst hL; subst hr
      refine w_call0 rfl (h3 x (RVal.mono hl2 hx1) (by omega)) (fun r d3 L3 hl3 ⟨hL, cs3, hr, hR3⟩ => ?_)
      subst hL; subst hr
      (apply w_done)
      exact ⟨_, rfl, (cs2, cs3), ⟨rfl, rfl, trivial⟩, RVal.mono hl3 hR2, hR3, rfl⟩
    · (apply w_alo; intro _ _; apply w_done)
      exact ⟨_, rfl, (_, _), ⟨rfl, trivial⟩, rfl⟩
    rintro ⟨y1, y2⟩ ⟨b7, T7⟩ ρ d' M1 M2 hl1 ⟨hR2, hR3, hM1⟩ hM2
    subst hM1; subst hM2
    (apply w_done)
    exact ⟨_, rfl, ((b7, T7), y1, y2), ⟨rfl, rfl, rfl, trivial⟩, hR2, hR3, rfl⟩
  rintro ⟨b8, T8⟩ ⟨⟨b7, T7⟩, y1, y2⟩ ρ d2 M1 M2 hl2 hM1 ⟨hR2, hR3, hM2⟩
  subst hM1; subst hM2
  obtain ⟨o0, o1, o2, o3, o4, o5, rfl⟩ := six hR2.len
  obtain ⟨p0, p1, p2, p3, p4, p5, rfl⟩ := six hR3.len
  have hx2 := RVal.mono hl2 hx1
  have hv2 := RVal.mono hl2 hv1
  have hw2 : RSl 6 RSt d2 (.slice a l.length c) l := RSl.mono (R := RSt) (fun hl h => h) hw1 hl2
  have ht2 : T d2 := hT (hl1.trans hl2) ht
  refine w_stE 1 [o0, o1, o2, o3, o4, o5] rfl rfl rfl rfl (Nat.le_of_ble_eq_true rfl) (cell1_val _ _ _ hR2) rfl ?_
  refine w_stE 0 [p0, p1, p2, p3, p4, p5] rfl rfl rfl rfl (Nat.le_of_ble_eq_true rfl) (cell1_val _ _ _ hR3) rfl ?_
  have hR2 : RVal d2 [o0, o1, o2, o3, o4, o5] v := hR2
  have hR3 : RVal d2 [p0, p1, p2, p3, p4, p5] x := hR3
  (apply w_done; apply w_sq; apply w_reg; apply w_ldb 3; rfl; rfl; rfl; apply w_mvs; rfl; apply w_ldb 2; rfl; rfl; rfl)
  refine w_call0 rfl (h4 ht2 hR2 hw2 hR3 (by omega) (by omega) (by omega)) (fun r d4 L4 _ ⟨hdd, cs6, g, hr, hL, ho⟩ => ?_)
  subst hdd; subst hL; subst hr
  obtain ⟨g0, g1, g2, g3, g4, g5, rfl⟩ := six ho.cells.1
  (apply w_mvu; rfl; apply w_ext; rfl; rfl; apply w_ext; rfl; rfl; apply w_alo; intro _ _)
  rename_i b9 T9
  refine w_stE 0 [g0, g1, g2, g3, g4, g5] rfl rfl rfl rfl (Nat.le_of_ble_eq_true rfl) ho.cells.2 rfl ?_
  (apply w_mvi; rfl; apply w_done0; apply w_sq; apply w_reg; apply w_ldb 3; rfl; rfl; rfl; apply w_mvs; rfl; apply w_ldb 2; rfl; rfl; rfl)
  refine w_call0 rfl (h5 ht2 hv2 hw2 hx2 (by omega) (by omega) (by omega)) (fun r d5 L5 hl5 ⟨hL, cs8, hr, hR8⟩ => ?_)
  subst hL; subst hr
  have hv2 := RVal.mono hl5 hv2
  have hx2 := RVal.mono hl5 hx2
  have hR2 := RVal.mono hl5 hR2
  have hR3 := RVal.mono hl5 hR3
  have ht2 := hT hl5 ht2
  obtain ⟨e0, e1, e2, e3, e4, e5, rfl⟩ := six hR8.len
  (apply w_mvu; rfl; apply w_ext; rfl; rfl; apply w_ext; rfl; rfl; apply w_alo; intro _ _)
  rename_i b11 T11
  refine w_stE 0 [e0, e1, e2, e3, e4, e5] rfl rfl rfl rfl (Nat.le_of_ble_eq_true rfl) (cell1_val _ _ _ hR8) rfl ?_
  have hs1 : sameV (putTop v l x).1 (putTop v l x).1 = true := (sameV_iff _ _).2 rfl
  have hs2 : sameV v v = true := (sameV_iff _ _).2 rfl
  have hs3 : sameV x x = true := (sameV_iff _ _).2 rfl
  have hne : ¬ ((putTop v l x).2 ≠ (putTop v l x).2) := by simp
  (apply w_mvi; rfl; apply w_done0; apply w_sq; apply w_sq; apply w_reg; apply w_ldb 1; rfl; rfl; rfl; apply w_ldb 0; rfl; rfl; rfl)
  refine w_pureB rfl (fun d6 hl6 hk6 => h6 _ _ (ho.rval (hk6 g (by simp))) (RVal.mono hl6 hR8)) ?_
  rw [hs1]
  (apply w_not; rfl; apply w_mvb; rfl; apply w_gT; rfl; apply w_mvi; rfl; apply w_gT; rfl; apply w_mvi; rfl; apply w_gT; rfl; apply w_neq; rfl; rfl; apply w_pickFb; rfl; rfl; apply w_done0; refine w_ifdF rfl (by omega) ?_; apply w_skip; apply w_sq; apply w_reg; apply w_ldb 1; rfl; rfl; rfl)
  refine w_vs _ [g, bx b11 T11 [e0, e1, e2, e3, e4, e5], bx b9 T9 [g0, g1, g2, g3, g4, g5], bx b5 T5 [x0, x1, x2, x3, x4, x5], bx b3 T3 [c0, c1, c2, c3, c4, c5], bx b8 T8 [p0, p1, p2, p3, p4, p5], bx b7 T7 [o0, o1, o2, o3, o4, o5]] (Vs.pick [2, 0, 1, 3, 4, 5, 6] rfl) ?_
  refine w_callA (A := [g]) (B := [bx b11 T11 [e0, e1, e2, e3, e4, e5], bx b9 T9 [g0, g1, g2, g3, g4, g5], bx b5 T5 [x0, x1, x2, x3, x4, x5], bx b3 T3 [c0, c1, c2, c3, c4, c5], bx b8 T8 [p0, p1, p2, p3, p4, p5], bx b7 T7 [o0, o1, o2, o3, o4, o5]]) rfl rfl (h7 _ ho) (fun r d6 L6 _ ⟨hdd, hL⟩ => ?_)
  subst hdd; subst hL
  (apply w_done0; apply w_sq; apply w_reg; apply w_ldb 5; rfl; rfl; rfl; apply w_ldb 3; rfl; rfl; rfl)
  refine w_pure rfl (h6 v v hR2 hv2) ?_
  rw [hs2]
  (apply w_mvb; rfl; apply w_gT; rfl; apply w_ldb 4; rfl; rfl; rfl; apply w_gT; rfl; apply w_ldb 2; rfl; rfl; rfl; apply w_gT; rfl)
  refine w_pure rfl (h6 x x hR3 hx2) ?_
  rw [hs3]
  (apply w_pickTb; rfl; rfl; apply w_mvb; rfl; apply w_gT; rfl)
  refine w_pure rfl (h2 ht2) ?_
  (apply w_pickTb; rfl; rfl; apply w_mvb; rfl; apply w_done0; apply w_ret)
  exact finQ rfl
end Go.Gk.Val
end
