/-
  Our own texts, one behind the other: GkS8 GkS9 GkT1 Gk18 GkT2 GkVArg Gk19 GkT3 GkT4 GkL1 GkT5 GkL2.
-/
import Derived.Test.YtbnoplhkegcllaaDoorPkE
section
/-
  Ways: something is put; the whole.
-/
namespace Go.Gk.Val
open Go Go.Gk Go.Gk.Utf
attribute [local irreducible] gwp gws

def putTop (v : V) (l : List St) (x : V) : V × Int :=
  if rightV v ≠ 0 then (V.zero, rightV v) else if rightV x ≠ 0 then (V.zero, rightV x) else if wrongF v l ≠ 0 then (V.zero, wrongF v l)
  else if (putF v l x).2 ≠ 0 then (V.zero, (putF v l x).2) else if rightV (putF v l x).1 ≠ 0 then (V.zero, rightV (putF v l x).1) else ((putF v l x).1, 0)
def PutOk (T : PHeap → Prop) (P : Program) (f : FuncId) : Prop := ∀ {d : PHeap} {cs es : List Value} {w : Value} {v x : V} {l : List St}, T d → RVal d cs v → RSl 6 RSt d w l → RVal d es x → txtV v ≤ 1000000 → cntV x ≤ 1000000 → l.length ≤ 100 →
  GCall P f [.agg cs.toArray, w, .agg es.toArray] d [] (Ret fun r d' L' => d' = d ∧ ∃ cs' h, r = .tuple #[.agg cs'.toArray, .int .i64 (putTop v l x).2] ∧ L' = [h] ∧ OVal cs' (putTop v l x).1 h)
def g_steps_Put (f_value_Right f_steps_wrong f_steps_put f_value_Copy : Nat) : GFun :=
 ⟨49, [(.cell 6 (some 6)), (.tmp 7)],
 (.seq
 (.reg false (.op false ⟨(some 3), none, (.box (.tmp 0))⟩
  (.op false ⟨(some 5), none, (.box (.tmp 2))⟩
  (.op false ⟨(some 6), none, (.alo (.agg #[(.int .i64 0), (.int .i64 0), (.int .i64 0), (strV []), (.slice none 0 0), (.slice none 0 0)]))⟩
  (.op false ⟨(some 7), none, (.mv (.const (.int .i64 0)))⟩ .done)))))
 (.seq (.seq
 (.reg false (.op false ⟨(some 13), none, (.ld (some 6) (.tmp 3))⟩
  (.op false ⟨(some 14), none, (.call f_value_Right [(.tmp 13)])⟩
  (.op false ⟨(some 8), none, (.mv (.tmp 14))⟩ .done))))
 (.seq
 (.reg false (.op false ⟨(some 15), none, (.mv (.tmp 8))⟩
  (.op false ⟨(some 16), none, (.bin .neq (.tmp 15) (.const (.int .i64 0)))⟩ .done))) (.cond (.tmp 16)
 (.seq
 (.reg false (.op false ⟨(some 17), none, (.bld [(0, 1), (1, 2), (3, 1), (4, 1), (5, 1)] [(.int .i64 0), (.int .i64 0), (.int .i64 0), (strV []), (.slice none 0 0), (.slice none 0 0)] [])⟩
  (.op false ⟨(some 18), none, (.mv (.tmp 8))⟩
  (.op false ⟨none, none, (.st 6 (.tmp 6) (.tmp 17))⟩
  (.op false ⟨(some 7), none, (.mv (.tmp 18))⟩ .done))))) .ret) .skip)))
 (.seq (.seq
 (.reg false (.op false ⟨(some 19), none, (.ld (some 6) (.tmp 5))⟩
  (.op false ⟨(some 20), none, (.call f_value_Right [(.tmp 19)])⟩
  (.op false ⟨(some 9), none, (.mv (.tmp 20))⟩ .done))))
 (.seq
 (.reg false (.op false ⟨(some 21), none, (.mv (.tmp 9))⟩
  (.op false ⟨(some 22), none, (.bin .neq (.tmp 21) (.const (.int .i64 0)))⟩ .done))) (.cond (.tmp 22)
 (.seq
 (.reg false (.op false ⟨(some 23), none, (.bld [(0, 1), (1, 2), (3, 1), (4, 1), (5, 1)] [(.int .i64 0), (.int .i64 0), (.int .i64 0), (strV []), (.slice none 0 0), (.slice none 0 0)] [])⟩
  (.op false ⟨(some 24), none, (.mv (.tmp 9))⟩
  (.op false ⟨none, none, (.st 6 (.tmp 6) (.tmp 23))⟩
  (.op false ⟨(some 7), none, (.mv (.tmp 24))⟩ .done))))) .ret) .skip)))
 (.seq (.seq
 (.reg false (.op false ⟨(some 25), none, (.ld (some 6) (.tmp 3))⟩
  (.op false ⟨(some 26), none, (.mv (.tmp 1))⟩
  (.op false ⟨(some 27), none, (.call f_steps_wrong [(.tmp 25), (.tmp 26)])⟩
  (.op false ⟨(some 10), none, (.mv (.tmp 27))⟩ .done)))))
 (.seq
 (.reg false (.op false ⟨(some 28), none, (.mv (.tmp 10))⟩
  (.op false ⟨(some 29), none, (.bin .neq (.tmp 28) (.const (.int .i64 0)))⟩ .done))) (.cond (.tmp 29)
 (.seq
 (.reg false (.op false ⟨(some 30), none, (.bld [(0, 1), (1, 2), (3, 1), (4, 1), (5, 1)] [(.int .i64 0), (.int .i64 0), (.int .i64 0), (strV []), (.slice none 0 0), (.slice none 0 0)] [])⟩
  (.op false ⟨(some 31), none, (.mv (.tmp 10))⟩
  (.op false ⟨none, none, (.st 6 (.tmp 6) (.tmp 30))⟩
  (.op false ⟨(some 7), none, (.mv (.tmp 31))⟩ .done))))) .ret) .skip)))
 (.seq
 (.reg false (.op false ⟨(some 33), none, (.ld (some 6) (.tmp 3))⟩
  (.op false ⟨(some 34), none, (.mv (.tmp 1))⟩
  (.op false ⟨(some 35), none, (.ld (some 6) (.tmp 5))⟩
  (.op false ⟨(some 36), none, (.call f_steps_put [(.tmp 33), (.tmp 34), (.tmp 35)])⟩
  (.op false ⟨(some 32), none, (.mv (.tmp 36))⟩
  (.op false ⟨(some 37), none, (.ext (.tmp 32) 0)⟩
  (.op false ⟨(some 38), none, (.ext (.tmp 32) 1)⟩
  (.op false ⟨(some 11), none, (.alo (.agg #[(.int .i64 0), (.int .i64 0), (.int .i64 0), (strV []), (.slice none 0 0), (.slice none 0 0)]))⟩
  (.op false ⟨none, none, (.st 6 (.tmp 11) (.tmp 37))⟩
  (.op false ⟨(some 12), none, (.mv (.tmp 38))⟩ .done)))))))))))
 (.seq (.seq
 (.reg false (.op false ⟨(some 39), none, (.mv (.tmp 12))⟩
  (.op false ⟨(some 40), none, (.bin .eql (.tmp 39) (.const (.int .i64 0)))⟩ .done))) (.cond (.tmp 40)
 (.reg false (.op false ⟨(some 41), none, (.ld (some 6) (.tmp 11))⟩
  (.op false ⟨(some 42), none, (.call f_value_Right [(.tmp 41)])⟩
  (.op false ⟨(some 12), none, (.mv (.tmp 42))⟩ .done)))) .skip))
 (.seq (.seq
 (.reg false (.op false ⟨(some 43), none, (.mv (.tmp 12))⟩
  (.op false ⟨(some 44), none, (.bin .neq (.tmp 43) (.const (.int .i64 0)))⟩ .done))) (.cond (.tmp 44)
 (.seq
 (.reg false (.op false ⟨(some 45), none, (.bld [(0, 1), (1, 2), (3, 1), (4, 1), (5, 1)] [(.int .i64 0), (.int .i64 0), (.int .i64 0), (strV []), (.slice none 0 0), (.slice none 0 0)] [])⟩
  (.op false ⟨(some 46), none, (.mv (.tmp 12))⟩
  (.op false ⟨none, none, (.st 6 (.tmp 6) (.tmp 45))⟩
  (.op false ⟨(some 7), none, (.mv (.tmp 46))⟩ .done))))) .ret) .skip))
 (.seq
 (.reg false (.op false ⟨(some 47), none, (.ld (some 6) (.tmp 11))⟩
  (.op false ⟨(some 48), none, (.call f_value_Copy [(.tmp 47)])⟩
  (.op false ⟨none, none, (.st 6 (.tmp 6) (.tmp 48))⟩
  (.op false ⟨(some 7), none, (.mv (.const (.int .i64 0)))⟩ .done))))) .ret))))))))⟩

set_option maxHeartbeats 1000000 in
theorem put_ok {T : PHeap → Prop} {P : Program} {f f1 f2 f3 f4 : FuncId} (hT : ∀ {d d' : PHeap}, Le d d' → T d → T d') (hd : dec P f = some (g_steps_Put f1 f2 f3 f4)) (h1 : RightOk T P f1) (h2 : WrongOk T P f2) (h3 : PutROk P f3) (h4 : VCopyOk P f4) : PutOk T P f := by
  intro d cs es w v x l ht hv hw hx hbv hbx hll
  have n1 := RSl.len_le hw
  obtain ⟨a, c, rfl⟩ := RSl.val hw
  have hcnt := put_cnt l v x hbv
  refine GCall.forget (Q := fun r L' => ∃ cs' h, r = .tuple #[.agg cs'.toArray, .int .i64 (putTop v l x).2] ∧ L' = [h] ∧ OVal cs' (putTop v l x).1 h) ?_
  refine GCall_of hd (Nat.le_of_ble_eq_true rfl) ?_
  obtain ⟨c0, c1, c2, c3, c4, c5, rfl⟩ := six hv.len
  obtain ⟨x0, x1, x2, x3, x4, x5, rfl⟩ := six hx.len
  show gwp P _ _ _ _ _
  apply w_sq; apply w_reg
  refine w_boxa (l := [c0, c1, c2, c3, c4, c5]) rfl (fun b3 T3 => ?_)
  refine w_boxa (l := [x0, x1, x2, x3, x4, x5]) rfl (fun b5 T5 => ?_)
  (apply w_alo; intro _ _; apply w_mvi; rfl; apply w_done0; apply w_sq; apply w_sq; apply w_reg; apply w_ldb 2; rfl; rfl; rfl)
  rename_i b6 T6
  refine w_pure rfl (h1 ht hv) ?_
  by_cases q1 : rightV v ≠ 0
  · rw [putTop, if_pos q1]
    (apply w_mvi; rfl; apply w_done0; apply w_sq; apply w_reg; apply w_mvi; rfl; apply w_neq; rfl; rfl; apply w_done0; refine w_ifdT rfl (by omega) ?_; apply w_sq; apply w_reg; apply w_bvZ; apply w_mvi; rfl)
    refine w_stE 0 [.int .i64 0, .int .i64 0, .int .i64 0, strV [], .slice none 0 0, .slice none 0 0] rfl rfl rfl rfl (Nat.le_of_ble_eq_true rfl) rfl rfl ?_
    (apply w_mvi; rfl; apply w_done0; apply w_ret)
    exact finOE 0 rfl rfl rfl OVal.zero vs_zero
  (apply w_mvi; rfl; apply w_done0; apply w_sq; apply w_reg; apply w_mvi; rfl; apply w_neq; rfl; rfl; apply w_done0; refine w_ifdF rfl (by omega) ?_; apply w_skip; apply w_sq; apply w_sq; apply w_reg; apply w_ldb 1; rfl; rfl; rfl)
  refine w_pure rfl (h1 ht hx) ?_
  by_cases q2 : rightV x ≠ 0
  · rw [putTop, if_neg q1, if_pos q2]
    (apply w_mvi; rfl; apply w_done0; apply w_sq; apply w_reg; apply w_mvi; rfl; apply w_neq; rfl; rfl; apply w_done0; refine w_ifdT rfl (by omega) ?_; apply w_sq; apply w_reg; apply w_bvZ; apply w_mvi; rfl)
    refine w_stE 0 [.int .i64 0, .int .i64 0, .int .i64 0, strV [], .slice none 0 0, .slice none 0 0] rfl rfl rfl rfl (Nat.le_of_ble_eq_true rfl) rfl rfl ?_
    (apply w_mvi; rfl; apply w_done0; apply w_ret)
    exact finOE 0 rfl rfl rfl OVal.zero vs_zero
  (apply w_mvi; rfl; apply w_done0; apply w_sq; apply w_reg; apply w_mvi; rfl; apply w_neq; rfl; rfl; apply w_done0; refine w_ifdF rfl (by omega) ?_; apply w_skip; apply w_sq; apply w_sq; apply w_reg; apply w_ldb 2; rfl; rfl; rfl; apply w_mvs; rfl)
  refine w_pure rfl (h2 ht hv hw) ?_
  by_cases q3 : wrongF v l ≠ 0
  · rw [putTop, if_neg q1, if_neg q2, if_pos q3]
    (apply w_mvi; rfl; apply w_done0; apply w_sq; apply w_reg; apply w_mvi; rfl; apply w_neq; rfl; rfl; apply w_done0; refine w_ifdT rfl (by omega) ?_; apply w_sq; apply w_reg; apply w_bvZ; apply w_mvi; rfl)
    refine w_stE 0 [.int .i64 0, .int .i64 0, .int .i64 0, strV [], .slice none 0 0, .slice none 0 0] rfl rfl rfl rfl (Nat.le_of_ble_eq_true rfl) rfl rfl ?_
    (apply w_mvi; rfl; apply w_done0; apply w_ret)
    exact finOE 0 rfl rfl rfl OVal.zero vs_zero
  rw [putTop, if_neg q1, if_neg q2, if_neg q3]
  have hgd := right_gd (v := v) (by simpa using q1) (by omega)
  (apply w_mvi; rfl; apply w_done0; apply w_sq; apply w_reg; apply w_mvi; rfl; apply w_neq; rfl; rfl; apply w_done0; refine w_ifdF rfl (by omega) ?_; apply w_skip; apply w_sq; apply w_reg; apply w_ldb 2; rfl; rfl; rfl; apply w_mvs; rfl; apply w_ldb 1; rfl; rfl; rfl)
  refine w_call0 rfl (h3 l hv hgd hbv hw hx hbx hll) (fun r d2 L2 hl2 ⟨hL, cs', hr, hR⟩ => ?_)
  subst hL; subst hr
  obtain ⟨f0, f1', f2', f3', f4', f5, rfl⟩ := six hR.len
  (apply w_mvu; rfl; apply w_ext; rfl; rfl; apply w_ext; rfl; rfl; apply w_alo; intro _ _)
  rename_i b11 T11
  refine w_stE 0 [f0, f1', f2', f3', f4', f5] rfl rfl rfl rfl (Nat.le_of_ble_eq_true rfl) (cell1_val _ _ _ hR) rfl ?_
  by_cases q4 : (putF v l x).2 ≠ 0
  · rw [if_pos q4]
    (apply w_mvi; rfl; apply w_done0; apply w_sq; apply w_sq; apply w_reg; apply w_mvi; rfl; apply w_eql; rfl; rfl; apply w_done0; refine w_ifdF rfl (by omega) ?_; apply w_skip; apply w_sq; apply w_sq; apply w_reg; apply w_mvi; rfl; apply w_neq; rfl; rfl; apply w_done0; refine w_ifdT rfl (by omega) ?_; apply w_sq; apply w_reg; apply w_bvZ; apply w_mvi; rfl)
    refine w_stE 1 [.int .i64 0, .int .i64 0, .int .i64 0, strV [], .slice none 0 0, .slice none 0 0] rfl rfl rfl rfl (Nat.le_of_ble_eq_true rfl) rfl rfl ?_
    (apply w_mvi; rfl; apply w_done0; apply w_ret)
    exact finOE 1 rfl rfl rfl OVal.zero vs_zero
  rw [if_neg q4]
  (apply w_mvi; rfl; apply w_done0; apply w_sq; apply w_sq; apply w_reg; apply w_mvi; rfl; apply w_eql; rfl; rfl; apply w_done0; refine w_ifdT rfl (by omega) ?_; apply w_reg; apply w_ldb 0; rfl; rfl; rfl)
  refine w_pure rfl (h1 (hT hl2 ht) hR) ?_
  by_cases q5 : rightV (putF v l x).1 ≠ 0
  · rw [if_pos q5]
    (apply w_mvi; rfl; apply w_done0; apply w_sq; apply w_sq; apply w_reg; apply w_mvi; rfl; apply w_neq; rfl; rfl; apply w_done0; refine w_ifdT rfl (by omega) ?_; apply w_sq; apply w_reg; apply w_bvZ; apply w_mvi; rfl)
    refine w_stE 1 [.int .i64 0, .int .i64 0, .int .i64 0, strV [], .slice none 0 0, .slice none 0 0] rfl rfl rfl rfl (Nat.le_of_ble_eq_true rfl) rfl rfl ?_
    (apply w_mvi; rfl; apply w_done0; apply w_ret)
    exact finOE 1 rfl rfl rfl OVal.zero vs_zero
  rw [if_neg q5]
  (apply w_mvi; rfl; apply w_done0; apply w_sq; apply w_sq; apply w_reg; apply w_mvi; rfl; apply w_neq; rfl; rfl; apply w_done0; refine w_ifdF rfl (by omega) ?_; apply w_skip; apply w_sq; apply w_reg; apply w_ldb 0; rfl; rfl; rfl)
  refine w_call0 rfl (h4 _ hR (by omega)) (fun r d3 L3 _ ⟨hdd, cs', g, hr, hL, ho⟩ => ?_)
  subst hdd; subst hL; subst hr
  obtain ⟨e0, e1, e2, e3, e4, e5, rfl⟩ := six ho.cells.1
  refine w_stE 2 [e0, e1, e2, e3, e4, e5] rfl rfl rfl rfl (Nat.le_of_ble_eq_true rfl) ho.cells.2 rfl ?_
  (apply w_mvi; rfl; apply w_done0; apply w_ret)
  exact finOE 2 rfl rfl rfl ho (Vs.drop ((List.nil_sublist _).cons_cons _))

/-! ### without -/
def withoutF (v : V) (s : St) : V × Int :=
  if v.kind = 0 then (v, 0)
  else if s.kind = 0 ∧ v.kind = 6 then
    (if s.text ∈ v.keys then .mk 6 0 0 [] (v.list.take (lowK v.keys s.text) ++ [] ++ v.list.drop (lowK v.keys s.text + 1)) (v.keys.take (lowK v.keys s.text) ++ [] ++ v.keys.drop (lowK v.keys s.text + 1)) else v, 0)
  else if s.kind = 1 ∧ v.kind = 5 then
    (if placeF s.src v.list.length < 0 ∨ (v.list.length : Int) ≤ placeF s.src v.list.length then v else .mk 5 0 0 [] (v.list.take (placeF s.src v.list.length).toNat ++ [] ++ v.list.drop ((placeF s.src v.list.length).toNat + 1)) [], 0)
  else if s.kind = 2 ∧ v.kind = 5 then (.mk 5 0 0 [] (v.list.take (endsF s v.list.length).1.toNat ++ [] ++ v.list.drop (endsF s v.list.length).2.toNat) [], 0)
  else (V.zero, 80)
def WithoutOk (P : Program) (f : FuncId) : Prop := ∀ {d : PHeap} {cs ds : List Value} {v : V} {s : St}, RVal d cs v → oneB v = true → RSt d ds s → cntV v ≤ 900000000 →
  GCall P f [.agg cs.toArray, .agg ds.toArray] d [] (Ret fun r d' L' => L' = [] ∧ ∃ cs', r = .tuple #[.agg cs'.toArray, .int .i64 (withoutF v s).2] ∧ RVal d' cs' (withoutF v s).1)
def g_steps_without (f_slices_BinarySearch_string_string f_steps_cut_string f_steps_cut_api_Value f_steps_place f_steps_ends : Nat) : GFun :=
 ⟨105, [(.cell 4 (some 6)), (.tmp 5)],
 (.seq
 (.reg false (.op false ⟨(some 2), none, (.box (.tmp 0))⟩
  (.op false ⟨(some 3), none, (.box (.tmp 1))⟩
  (.op false ⟨(some 4), none, (.alo (.agg #[(.int .i64 0), (.int .i64 0), (.int .i64 0), (strV []), (.slice none 0 0), (.slice none 0 0)]))⟩
  (.op false ⟨(some 5), none, (.mv (.const (.int .i64 0)))⟩ .done)))))
 (.seq (.block 0
 (.seq
 (.reg false (.op false ⟨(some 12), none, (.fld 0 (.tmp 2))⟩
  (.op false ⟨(some 13), none, (.ld none (.tmp 12))⟩
  (.op false ⟨(some 14), none, (.bin .eql (.tmp 13) (.const (.int .i64 0)))⟩
  (.op false ⟨(some 11), none, (.mv (.tmp 14))⟩ .done))))) (.cond (.tmp 11)
 (.seq
 (.reg false (.op false ⟨(some 15), none, (.ld (some 6) (.tmp 2))⟩
  (.op false ⟨none, none, (.st 6 (.tmp 4) (.tmp 15))⟩
  (.op false ⟨(some 5), none, (.mv (.const (.int .i64 0)))⟩ .done)))) .ret)
 (.seq
 (.reg false (.op false ⟨(some 17), none, (.fld 0 (.tmp 3))⟩
  (.op false ⟨(some 18), none, (.ld none (.tmp 17))⟩
  (.op false ⟨(some 19), none, (.bin .eql (.tmp 18) (.const (.int .i64 0)))⟩
  (.op false ⟨(some 20), none, (.mv (.tmp 19))⟩
  (.op false ⟨(some 21), (some (20, true)), (.fld 0 (.tmp 2))⟩
  (.op false ⟨(some 22), (some (20, true)), (.ld none (.tmp 21))⟩
  (.op false ⟨(some 23), (some (20, true)), (.bin .eql (.tmp 22) (.const (.int .i64 6)))⟩
  (.op false ⟨(some 24), none, (.pick (.tmp 20) (.tmp 23) (.const (.bool false)))⟩
  (.op false ⟨(some 16), none, (.mv (.tmp 24))⟩ .done)))))))))) (.cond (.tmp 16)
 (.seq
 (.reg false (.op false ⟨(some 26), none, (.fld 5 (.tmp 2))⟩
  (.op false ⟨(some 27), none, (.ld none (.tmp 26))⟩
  (.op false ⟨(some 28), none, (.fld 1 (.tmp 3))⟩
  (.op false ⟨(some 29), none, (.ld none (.tmp 28))⟩
  (.op false ⟨(some 30), none, (.call f_slices_BinarySearch_string_string [(.tmp 27), (.tmp 29)])⟩
  (.op false ⟨(some 25), none, (.mv (.tmp 30))⟩
  (.op false ⟨(some 31), none, (.ext (.tmp 25) 0)⟩
  (.op false ⟨(some 32), none, (.ext (.tmp 25) 1)⟩
  (.op false ⟨(some 6), none, (.mv (.tmp 31))⟩
  (.op false ⟨(some 7), none, (.mv (.tmp 32))⟩ .done)))))))))))
 (.seq (.seq
 (.reg false (.op false ⟨(some 33), none, (.mv (.tmp 7))⟩
  (.op false ⟨(some 34), none, (.un .not (.tmp 33))⟩ .done))) (.cond (.tmp 34)
 (.seq
 (.reg false (.op false ⟨(some 35), none, (.ld (some 6) (.tmp 2))⟩
  (.op false ⟨none, none, (.st 6 (.tmp 4) (.tmp 35))⟩
  (.op false ⟨(some 5), none, (.mv (.const (.int .i64 0)))⟩ .done)))) .ret) .skip))
 (.seq
 (.reg true (.op true ⟨(some 36), none, (.fld 5 (.tmp 2))⟩
  (.op true ⟨(some 37), none, (.ld none (.tmp 36))⟩
  (.op true ⟨(some 38), none, (.mv (.tmp 6))⟩
  (.op true ⟨(some 39), none, (.mv (.tmp 6))⟩
  (.op true ⟨(some 40), none, (.bin .add (.tmp 39) (.const (.int .i64 1)))⟩
  (.op true ⟨(some 42), none, (.fld 4 (.tmp 2))⟩
  (.op true ⟨(some 43), none, (.ld none (.tmp 42))⟩
  (.op true ⟨(some 44), none, (.mv (.tmp 6))⟩
  (.op true ⟨(some 45), none, (.mv (.tmp 6))⟩
  (.op true ⟨(some 46), none, (.bin .add (.tmp 45) (.const (.int .i64 1)))⟩
  (.op false ⟨(some 41), none, (.call f_steps_cut_string [(.tmp 37), (.tmp 38), (.tmp 40), (.const (.slice none 0 0))])⟩
  (.op false ⟨(some 47), none, (.call f_steps_cut_api_Value [(.tmp 43), (.tmp 44), (.tmp 46), (.const (.slice none 0 0))])⟩
  (.op true ⟨(some 48), none, (.bld [(0, 1), (1, 2), (3, 1), (4, 1), (5, 1)] [(.int .i64 0), (.int .i64 0), (.int .i64 0), (strV []), (.slice none 0 0), (.slice none 0 0)] [(0, (.const (.int .i64 6))), (4, (.tmp 41)), (3, (.tmp 47))])⟩
  (.bar (.op false ⟨none, none, (.st 6 (.tmp 4) (.tmp 48))⟩
  (.op true ⟨(some 5), none, (.mv (.const (.int .i64 0)))⟩ .done))))))))))))))))) .ret)))
 (.seq
 (.reg false (.op false ⟨(some 50), none, (.fld 0 (.tmp 3))⟩
  (.op false ⟨(some 51), none, (.ld none (.tmp 50))⟩
  (.op false ⟨(some 52), none, (.bin .eql (.tmp 51) (.const (.int .i64 1)))⟩
  (.op false ⟨(some 53), none, (.mv (.tmp 52))⟩
  (.op false ⟨(some 54), (some (53, true)), (.fld 0 (.tmp 2))⟩
  (.op false ⟨(some 55), (some (53, true)), (.ld none (.tmp 54))⟩
  (.op false ⟨(some 56), (some (53, true)), (.bin .eql (.tmp 55) (.const (.int .i64 5)))⟩
  (.op false ⟨(some 57), none, (.pick (.tmp 53) (.tmp 56) (.const (.bool false)))⟩
  (.op false ⟨(some 49), none, (.mv (.tmp 57))⟩ .done)))))))))) (.cond (.tmp 49)
 (.seq
 (.reg false (.op false ⟨(some 58), none, (.fld 2 (.tmp 3))⟩
  (.op false ⟨(some 59), none, (.ld none (.tmp 58))⟩
  (.op false ⟨(some 60), none, (.fld 4 (.tmp 2))⟩
  (.op false ⟨(some 61), none, (.ld none (.tmp 60))⟩
  (.op false ⟨(some 62), none, (.len (.tmp 61))⟩
  (.op false ⟨(some 63), none, (.call f_steps_place [(.tmp 59), (.tmp 62)])⟩
  (.op false ⟨(some 8), none, (.mv (.tmp 63))⟩ .done))))))))
 (.seq (.seq
 (.reg false (.op false ⟨(some 64), none, (.mv (.tmp 8))⟩
  (.op false ⟨(some 65), none, (.bin .lss (.tmp 64) (.const (.int .i64 0)))⟩
  (.op false ⟨(some 66), none, (.mv (.tmp 65))⟩
  (.op false ⟨(some 67), (some (66, false)), (.mv (.tmp 8))⟩
  (.op false ⟨(some 68), (some (66, false)), (.fld 4 (.tmp 2))⟩
  (.op false ⟨(some 69), (some (66, false)), (.ld none (.tmp 68))⟩
  (.op false ⟨(some 70), (some (66, false)), (.len (.tmp 69))⟩
  (.op false ⟨(some 71), (some (66, false)), (.bin .geq (.tmp 67) (.tmp 70))⟩
  (.op false ⟨(some 72), none, (.pick (.tmp 66) (.const (.bool true)) (.tmp 71))⟩ .done)))))))))) (.cond (.tmp 72)
 (.seq
 (.reg false (.op false ⟨(some 73), none, (.ld (some 6) (.tmp 2))⟩
  (.op false ⟨none, none, (.st 6 (.tmp 4) (.tmp 73))⟩
  (.op false ⟨(some 5), none, (.mv (.const (.int .i64 0)))⟩ .done)))) .ret) .skip))
 (.seq
 (.reg false (.op false ⟨(some 74), none, (.fld 4 (.tmp 2))⟩
  (.op false ⟨(some 75), none, (.ld none (.tmp 74))⟩
  (.op false ⟨(some 76), none, (.mv (.tmp 8))⟩
  (.op false ⟨(some 77), none, (.mv (.tmp 8))⟩
  (.op false ⟨(some 78), none, (.bin .add (.tmp 77) (.const (.int .i64 1)))⟩
  (.op false ⟨(some 79), none, (.call f_steps_cut_api_Value [(.tmp 75), (.tmp 76), (.tmp 78), (.const (.slice none 0 0))])⟩
  (.op false ⟨(some 80), none, (.bld [(0, 1), (1, 2), (3, 1), (4, 1), (5, 1)] [(.int .i64 0), (.int .i64 0), (.int .i64 0), (strV []), (.slice none 0 0), (.slice none 0 0)] [(0, (.const (.int .i64 5))), (3, (.tmp 79))])⟩
  (.op false ⟨none, none, (.st 6 (.tmp 4) (.tmp 80))⟩
  (.op false ⟨(some 5), none, (.mv (.const (.int .i64 0)))⟩ .done)))))))))) .ret)))
 (.seq
 (.reg false (.op false ⟨(some 82), none, (.fld 0 (.tmp 3))⟩
  (.op false ⟨(some 83), none, (.ld none (.tmp 82))⟩
  (.op false ⟨(some 84), none, (.bin .eql (.tmp 83) (.const (.int .i64 2)))⟩
  (.op false ⟨(some 85), none, (.mv (.tmp 84))⟩
  (.op false ⟨(some 86), (some (85, true)), (.fld 0 (.tmp 2))⟩
  (.op false ⟨(some 87), (some (85, true)), (.ld none (.tmp 86))⟩
  (.op false ⟨(some 88), (some (85, true)), (.bin .eql (.tmp 87) (.const (.int .i64 5)))⟩
  (.op false ⟨(some 89), none, (.pick (.tmp 85) (.tmp 88) (.const (.bool false)))⟩
  (.op false ⟨(some 81), none, (.mv (.tmp 89))⟩ .done)))))))))) (.cond (.tmp 81)
 (.seq
 (.reg false (.op false ⟨(some 91), none, (.ld (some 6) (.tmp 3))⟩
  (.op false ⟨(some 92), none, (.fld 4 (.tmp 2))⟩
  (.op false ⟨(some 93), none, (.ld none (.tmp 92))⟩
  (.op false ⟨(some 94), none, (.len (.tmp 93))⟩
  (.op false ⟨(some 95), none, (.call f_steps_ends [(.tmp 91), (.tmp 94)])⟩
  (.op false ⟨(some 90), none, (.mv (.tmp 95))⟩
  (.op false ⟨(some 96), none, (.ext (.tmp 90) 0)⟩
  (.op false ⟨(some 97), none, (.ext (.tmp 90) 1)⟩
  (.op false ⟨(some 9), none, (.mv (.tmp 96))⟩
  (.op false ⟨(some 10), none, (.mv (.tmp 97))⟩ .done)))))))))))
 (.seq
 (.reg false (.op false ⟨(some 98), none, (.fld 4 (.tmp 2))⟩
  (.op false ⟨(some 99), none, (.ld none (.tmp 98))⟩
  (.op false ⟨(some 100), none, (.mv (.tmp 9))⟩
  (.op false ⟨(some 101), none, (.mv (.tmp 10))⟩
  (.op false ⟨(some 102), none, (.call f_steps_cut_api_Value [(.tmp 99), (.tmp 100), (.tmp 101), (.const (.slice none 0 0))])⟩
  (.op false ⟨(some 103), none, (.bld [(0, 1), (1, 2), (3, 1), (4, 1), (5, 1)] [(.int .i64 0), (.int .i64 0), (.int .i64 0), (strV []), (.slice none 0 0), (.slice none 0 0)] [(0, (.const (.int .i64 5))), (3, (.tmp 102))])⟩
  (.op false ⟨none, none, (.st 6 (.tmp 4) (.tmp 103))⟩
  (.op false ⟨(some 5), none, (.mv (.const (.int .i64 0)))⟩ .done))))))))) .ret)) .skip)))))))))
 (.seq
 (.reg false (.op false ⟨(some 104), none, (.bld [(0, 1), (1, 2), (3, 1), (4, 1), (5, 1)] [(.int .i64 0), (.int .i64 0), (.int .i64 0), (strV []), (.slice none 0 0), (.slice none 0 0)] [])⟩
  (.op false ⟨none, none, (.st 6 (.tmp 4) (.tmp 104))⟩
  (.op false ⟨(some 5), none, (.mv (.const (.int .i64 80)))⟩ .done)))) .ret)))⟩

set_option maxHeartbeats 2000000 in
theorem without_ok {P : Program} {f f1 f2 f3 f4 f5 : FuncId} (hd : dec P f = some (g_steps_without f1 f2 f3 f4 f5)) (h1 : SearchOk P f1) (h2 : CutOk 1 RStr P f2) (h3 : CutOk 6 RVal P f3) (h4 : PlaceOk P f4) (h5 : EndsOk P f5) : WithoutOk P f := by
  intro d cs ds v s hv hone hs hb
  refine GCall_of hd (Nat.le_of_ble_eq_true rfl) ?_
  have hr := one_rising hone
  have b1 := cnt_list (v := v)
  have b2' := cnt_keys (v := v)
  obtain ⟨w, e, hF⟩ : ∃ w e, withoutF v s = (w, e) := ⟨_, _, rfl⟩
  rw [hF]
  have hs' := hs
  obtain ⟨hds, ik', it', is, id⟩ := hs'
  subst hds
  have hv0 := hv
  obtain ⟨lv, kv, rfl, ik, im, ie, it, hl, hks⟩ := hv.open
  obtain ⟨la, lc, rfl⟩ := RSl.val hl
  obtain ⟨ka, kc, rfl⟩ := RSl.val hks
  have n1 := RSl.len_le hl
  show gwp P _ _ _ _ _
  apply w_sq; apply w_reg
  refine w_boxa (l := [.int .i64 v.kind, .int .i64 v.m, .int .i64 v.e, strV v.text, .slice la v.list.length lc, .slice ka v.keys.length kc]) rfl (fun b2 T2 => ?_)
  refine w_boxa (l := [.int .i64 s.kind, strV s.text, .int .i64 s.src, .int .i64 s.dst, .bool s.hf, .bool s.ht]) rfl (fun b3 T3 => ?_)
  (apply w_alo; intro _ _; apply w_mvi; rfl; apply w_done0)
  rename_i b4 T4
  by_cases k0 : v.kind = 0
  · rw [withoutF, if_pos k0] at hF; cases hF
    (apply w_sq; apply w_block; apply w_sq; apply w_reg; apply w_fld; rfl; apply w_ld; rfl; exact hc_i 2 rfl rfl; apply w_eql; rfl; rfl; apply w_mvb; rfl; apply w_done0; refine w_ifdT rfl (by omega) ?_; apply w_sq; apply w_reg; apply w_ldb 2; rfl; rfl; rfl)
    refine w_stE 0 [.int .i64 v.kind, .int .i64 v.m, .int .i64 v.e, strV v.text, .slice la v.list.length lc, .slice ka v.keys.length kc] rfl rfl rfl rfl (Nat.le_of_ble_eq_true rfl) rfl rfl ?_
    (apply w_mvi; rfl; apply w_done0; apply w_ret)
    exact finVDE 0 rfl rfl rfl hv0
  by_cases s0 : s.kind = 0
  · by_cases v6 : v.kind = 6
    · rw [withoutF, if_neg k0, if_pos ⟨s0, v6⟩] at hF
      have hlens := one_keys hone v6
      (apply w_sq; apply w_block; apply w_sq; apply w_reg; apply w_fld; rfl; apply w_ld; rfl; exact hc_i 2 rfl rfl; apply w_eql; rfl; rfl; apply w_mvb; rfl; apply w_done0; refine w_ifdF rfl (by omega) ?_; apply w_sq; apply w_reg; apply w_fld; rfl; apply w_ld; rfl; exact hc_i 1 rfl rfl; apply w_eql; rfl; rfl; apply w_mvb; rfl; refine w_gdT rfl (by omega) ?_; apply w_gT; rfl; apply w_fld; rfl; apply w_gT; rfl; apply w_ld; rfl; exact hc_i 2 rfl rfl; apply w_gT; rfl; apply w_eql; rfl; rfl; apply w_pickTb; rfl; rfl; apply w_mvb; rfl; apply w_done0; refine w_ifdT rfl (by omega) ?_; apply w_sq; apply w_reg; apply w_fld; rfl; apply w_ld; rfl; exact hc_i 2 rfl rfl; apply w_fld; rfl; apply w_ld; rfl; exact hc_i 1 rfl rfl)
      refine w_pure rfl (h1 hks hr) ?_
      by_cases hm : s.text ∈ v.keys
      · rw [if_pos hm] at hF; cases hF
        obtain ⟨hlo, _⟩ := (mem_iff hr).1 hm
        have hm' : (!decide (s.text ∈ v.keys)) = false := by simp [hm]
        (apply w_mvu; rfl; apply w_ext; rfl; rfl; apply w_ext; rfl; rfl; apply w_mvi; rfl; apply w_mvb; rfl; apply w_done0; apply w_sq; apply w_sq; apply w_reg; apply w_mvb; rfl; apply w_not; rfl; apply w_done0; apply w_ifbF; rfl; (with_reducible assumption); apply w_skip; apply w_sq)
        refine w_drawn ?_
        (apply w_fld; rfl; apply w_ld; rfl; exact hc_i 2 rfl rfl; apply w_mvi; rfl; apply w_mvi; rfl; apply w_add; rfl; rfl; omega; omega; apply w_fld; rfl; apply w_ld; rfl; exact hc_i 2 rfl rfl; apply w_mvi; rfl; apply w_mvi; rfl; apply w_add; rfl; rfl; omega; omega)
        refine w_call0 rfl (h2 (i := lowK v.keys s.text) (j := lowK v.keys s.text + 1) (ys := []) hks RSl.nil (by omega) (by omega) (by simp; omega)) (fun r d2 L2 hl2 ⟨hL, hr2⟩ => ?_)
        subst hL
        obtain ⟨ra, rc, rfl⟩ := RSl.val hr2
        refine w_call0 rfl (h3 (i := lowK v.keys s.text) (j := lowK v.keys s.text + 1) (ys := []) (RVals.mono hl hl2) RSl.nil (by omega) (by omega) (by simp; omega)) (fun r d4 L4 hl4 ⟨hL, hr4⟩ => ?_)
        subst hL
        obtain ⟨sa, sc, rfl⟩ := RSl.val hr4
        (apply w_bvM; rfl; rfl; rfl; apply w_bar)
        refine w_stE 0 [.int .i64 6, .int .i64 0, .int .i64 0, strV [], .slice sa _ sc, .slice ra _ rc] rfl rfl rfl rfl (Nat.le_of_ble_eq_true rfl) rfl rfl ?_
        (apply w_mvi; rfl; apply w_done0; apply w_ret)
        exact finVDE 0 rfl rfl rfl (RVal.close (v := .mk 6 0 0 [] (v.list.take (lowK v.keys s.text) ++ [] ++ v.list.drop (lowK v.keys s.text + 1)) (v.keys.take (lowK v.keys s.text) ++ [] ++ v.keys.drop (lowK v.keys s.text + 1))) i64_6 i64_0 i64_0 (by simp) hr4 (RStrs.mono hr2 hl4))
      · rw [if_neg hm] at hF; cases hF
        have hm' : (!decide (s.text ∈ v.keys)) = true := by simp [hm]
        (apply w_mvu; rfl; apply w_ext; rfl; rfl; apply w_ext; rfl; rfl; apply w_mvi; rfl; apply w_mvb; rfl; apply w_done0; apply w_sq; apply w_sq; apply w_reg; apply w_mvb; rfl; apply w_not; rfl; apply w_done0; apply w_ifbT; rfl; (with_reducible assumption); apply w_sq; apply w_reg; apply w_ldb 2; rfl; rfl; rfl)
        refine w_stE 0 [.int .i64 v.kind, .int .i64 v.m, .int .i64 v.e, strV v.text, .slice la v.list.length lc, .slice ka v.keys.length kc] rfl rfl rfl rfl (Nat.le_of_ble_eq_true rfl) rfl rfl ?_
        (apply w_mvi; rfl; apply w_done0; apply w_ret)
        exact finVDE 0 rfl rfl rfl hv0
    · rw [withoutF, if_neg k0, if_neg (fun h => v6 h.2), if_neg (fun h => by omega), if_neg (fun h => by omega)] at hF; cases hF
      (apply w_sq; apply w_block; apply w_sq; apply w_reg; apply w_fld; rfl; apply w_ld; rfl; exact hc_i 2 rfl rfl; apply w_eql; rfl; rfl; apply w_mvb; rfl; apply w_done0; refine w_ifdF rfl (by omega) ?_; apply w_sq; apply w_reg; apply w_fld; rfl; apply w_ld; rfl; exact hc_i 1 rfl rfl; apply w_eql; rfl; rfl; apply w_mvb; rfl; refine w_gdT rfl (by omega) ?_; apply w_gT; rfl; apply w_fld; rfl; apply w_gT; rfl; apply w_ld; rfl; exact hc_i 2 rfl rfl; apply w_gT; rfl; apply w_eql; rfl; rfl; apply w_pickTb; rfl; rfl; apply w_mvb; rfl; apply w_done0; refine w_ifdF rfl (by omega) ?_; apply w_sq; apply w_reg; apply w_fld; rfl; apply w_ld; rfl; exact hc_i 1 rfl rfl; apply w_eql; rfl; rfl; apply w_mvb; rfl; refine w_gdF rfl (by omega) ?_; apply w_gF; rfl; apply w_gF; rfl; apply w_gF; rfl; apply w_pickFb; rfl; rfl; apply w_mvb; rfl; apply w_done0; apply w_ifF; rfl; apply w_sq; apply w_reg; apply w_fld; rfl; apply w_ld; rfl; exact hc_i 1 rfl rfl; apply w_eql; rfl; rfl; apply w_mvb; rfl; refine w_gdF rfl (by omega) ?_; apply w_gF; rfl; apply w_gF; rfl; apply w_gF; rfl; apply w_pickFb; rfl; rfl; apply w_mvb; rfl; apply w_done0; apply w_ifF; rfl; apply w_skip; apply w_sq; apply w_reg; apply w_bvZ)
      refine w_stE 0 [.int .i64 0, .int .i64 0, .int .i64 0, strV [], .slice none 0 0, .slice none 0 0] rfl rfl rfl rfl (Nat.le_of_ble_eq_true rfl) rfl rfl ?_
      (apply w_mvi; rfl; apply w_done0; apply w_ret)
      exact finVDE 0 rfl rfl rfl RVal.zero
  by_cases s1 : s.kind = 1
  · by_cases v5 : v.kind = 5
    · rw [withoutF, if_neg k0, if_neg (fun h => s0 h.1), if_pos ⟨s1, v5⟩] at hF
      obtain ⟨p, hp⟩ : ∃ p, placeF s.src v.list.length = p := ⟨_, rfl⟩
      rw [hp] at hF
      (apply w_sq; apply w_block; apply w_sq; apply w_reg; apply w_fld; rfl; apply w_ld; rfl; exact hc_i 2 rfl rfl; apply w_eql; rfl; rfl; apply w_mvb; rfl; apply w_done0; refine w_ifdF rfl (by omega) ?_; apply w_sq; apply w_reg; apply w_fld; rfl; apply w_ld; rfl; exact hc_i 1 rfl rfl; apply w_eql; rfl; rfl; apply w_mvb; rfl; refine w_gdF rfl (by omega) ?_; apply w_gF; rfl; apply w_gF; rfl; apply w_gF; rfl; apply w_pickFb; rfl; rfl; apply w_mvb; rfl; apply w_done0; apply w_ifF; rfl; apply w_sq; apply w_reg; apply w_fld; rfl; apply w_ld; rfl; exact hc_i 1 rfl rfl; apply w_eql; rfl; rfl; apply w_mvb; rfl; refine w_gdT rfl (by omega) ?_; apply w_gT; rfl; apply w_fld; rfl; apply w_gT; rfl; apply w_ld; rfl; exact hc_i 2 rfl rfl; apply w_gT; rfl; apply w_eql; rfl; rfl; apply w_pickTb; rfl; rfl; apply w_mvb; rfl; apply w_done0; refine w_ifdT rfl (by omega) ?_; apply w_sq; apply w_reg; apply w_fld; rfl; apply w_ld; rfl; exact hc_i 1 rfl rfl; apply w_fld; rfl; apply w_ld; rfl; exact hc_i 2 rfl rfl; apply w_len; rfl)
      refine w_pure rfl (h4 is (by omega) (by omega)) ?_
      rw [hp]
      by_cases q0 : p < 0
      · rw [if_pos (.inl q0)] at hF; cases hF
        (apply w_mvi; rfl; apply w_done0; apply w_sq; apply w_sq; apply w_reg; apply w_mvi; rfl; apply w_lss; rfl; rfl; apply w_mvb; rfl; refine w_gdT rfl (by omega) ?_; apply w_gF; rfl; apply w_gF; rfl; apply w_gF; rfl; apply w_gF; rfl; apply w_gF; rfl; apply w_pickTb; rfl; rfl; apply w_done0; apply w_ifT; rfl; apply w_sq; apply w_reg; apply w_ldb 2; rfl; rfl; rfl)
        refine w_stE 0 [.int .i64 v.kind, .int .i64 v.m, .int .i64 v.e, strV v.text, .slice la v.list.length lc, .slice ka v.keys.length kc] rfl rfl rfl rfl (Nat.le_of_ble_eq_true rfl) rfl rfl ?_
        (apply w_mvi; rfl; apply w_done0; apply w_ret)
        exact finVDE 0 rfl rfl rfl hv0
      by_cases q1 : (v.list.length : Int) ≤ p
      · rw [if_pos (.inr q1)] at hF; cases hF
        (apply w_mvi; rfl; apply w_done0; apply w_sq; apply w_sq; apply w_reg; apply w_mvi; rfl; apply w_lss; rfl; rfl; apply w_mvb; rfl; refine w_gdF rfl (by omega) ?_; apply w_gT; rfl; apply w_mvi; rfl; apply w_gT; rfl; apply w_fld; rfl; apply w_gT; rfl; apply w_ld; rfl; exact hc_i 2 rfl rfl; apply w_gT; rfl; apply w_len; rfl; apply w_gT; rfl; apply w_geq; rfl; rfl; apply w_pickFb; rfl; rfl; apply w_done0; refine w_ifdT rfl (by omega) ?_; apply w_sq; apply w_reg; apply w_ldb 2; rfl; rfl; rfl)
        refine w_stE 0 [.int .i64 v.kind, .int .i64 v.m, .int .i64 v.e, strV v.text, .slice la v.list.length lc, .slice ka v.keys.length kc] rfl rfl rfl rfl (Nat.le_of_ble_eq_true rfl) rfl rfl ?_
        (apply w_mvi; rfl; apply w_done0; apply w_ret)
        exact finVDE 0 rfl rfl rfl hv0
      rw [if_neg (fun h => by omega)] at hF; cases hF
      obtain ⟨n, rfl⟩ : ∃ n : Nat, p = (n : Int) := ⟨p.toNat, by omega⟩
      simp only [Int.toNat_natCast]
      (apply w_mvi; rfl; apply w_done0; apply w_sq; apply w_sq; apply w_reg; apply w_mvi; rfl; apply w_lss; rfl; rfl; apply w_mvb; rfl; refine w_gdF rfl (by omega) ?_; apply w_gT; rfl; apply w_mvi; rfl; apply w_gT; rfl; apply w_fld; rfl; apply w_gT; rfl; apply w_ld; rfl; exact hc_i 2 rfl rfl; apply w_gT; rfl; apply w_len; rfl; apply w_gT; rfl; apply w_geq; rfl; rfl; apply w_pickFb; rfl; rfl; apply w_done0; refine w_ifdF rfl (by omega) ?_; apply w_skip; apply w_sq; apply w_reg; apply w_fld; rfl; apply w_ld; rfl; exact hc_i 2 rfl rfl; apply w_mvi; rfl; apply w_mvi; rfl; apply w_add; rfl; rfl; omega; omega)
      refine w_call0 rfl (h3 (i := n) (j := n + 1) (ys := []) hl RSl.nil (by omega) (by omega) (by simp; omega)) (fun r d4 L4 hl4 ⟨hL, hr4⟩ => ?_)
      subst hL
      obtain ⟨sa, sc, rfl⟩ := RSl.val hr4
      (apply w_bvKL; rfl; rfl)
      refine w_stE 0 [.int .i64 5, .int .i64 0, .int .i64 0, strV [], .slice sa _ sc, .slice none 0 0] rfl rfl rfl rfl (Nat.le_of_ble_eq_true rfl) rfl rfl ?_
      (apply w_mvi; rfl; apply w_done0; apply w_ret)
      exact finVDE 0 rfl rfl rfl (RVal.close (v := .mk 5 0 0 [] (v.list.take n ++ [] ++ v.list.drop (n + 1)) []) i64_5 i64_0 i64_0 (by simp) hr4 RSl.nil)
    · rw [withoutF, if_neg k0, if_neg (fun h => s0 h.1), if_neg (fun h => v5 h.2), if_neg (fun h => by omega)] at hF; cases hF
      (apply w_sq; apply w_block; apply w_sq; apply w_reg; apply w_fld; rfl; apply w_ld; rfl; exact hc_i 2 rfl rfl; apply w_eql; rfl; rfl; apply w_mvb; rfl; apply w_done0; refine w_ifdF rfl (by omega) ?_; apply w_sq; apply w_reg; apply w_fld; rfl; apply w_ld; rfl; exact hc_i 1 rfl rfl; apply w_eql; rfl; rfl; apply w_mvb; rfl; refine w_gdF rfl (by omega) ?_; apply w_gF; rfl; apply w_gF; rfl; apply w_gF; rfl; apply w_pickFb; rfl; rfl; apply w_mvb; rfl; apply w_done0; apply w_ifF; rfl; apply w_sq; apply w_reg; apply w_fld; rfl; apply w_ld; rfl; exact hc_i 1 rfl rfl; apply w_eql; rfl; rfl; apply w_mvb; rfl; refine w_gdT rfl (by omega) ?_; apply w_gT; rfl; apply w_fld; rfl; apply w_gT; rfl; apply w_ld; rfl; exact hc_i 2 rfl rfl; apply w_gT; rfl; apply w_eql; rfl; rfl; apply w_pickTb; rfl; rfl; apply w_mvb; rfl; apply w_done0; refine w_ifdF rfl (by omega) ?_; apply w_sq; apply w_reg; apply w_fld; rfl; apply w_ld; rfl; exact hc_i 1 rfl rfl; apply w_eql; rfl; rfl; apply w_mvb; rfl; refine w_gdF rfl (by omega) ?_; apply w_gF; rfl; apply w_gF; rfl; apply w_gF; rfl; apply w_pickFb; rfl; rfl; apply w_mvb; rfl; apply w_done0; apply w_ifF; rfl; apply w_skip; apply w_sq; apply w_reg; apply w_bvZ)
      refine w_stE 0 [.int .i64 0, .int .i64 0, .int .i64 0, strV [], .slice none 0 0, .slice none 0 0] rfl rfl rfl rfl (Nat.le_of_ble_eq_true rfl) rfl rfl ?_
      (apply w_mvi; rfl; apply w_done0; apply w_ret)
      exact finVDE 0 rfl rfl rfl RVal.zero
  by_cases s2 : s.kind = 2
  · by_cases v5 : v.kind = 5
    · rw [withoutF, if_neg k0, if_neg (fun h => s0 h.1), if_neg (fun h => s1 h.1), if_pos ⟨s2, v5⟩] at hF; cases hF
      have hends := ends_le s (k := v.list.length) (by omega)
      (apply w_sq; apply w_block; apply w_sq; apply w_reg; apply w_fld; rfl; apply w_ld; rfl; exact hc_i 2 rfl rfl; apply w_eql; rfl; rfl; apply w_mvb; rfl; apply w_done0; refine w_ifdF rfl (by omega) ?_; apply w_sq; apply w_reg; apply w_fld; rfl; apply w_ld; rfl; exact hc_i 1 rfl rfl; apply w_eql; rfl; rfl; apply w_mvb; rfl; refine w_gdF rfl (by omega) ?_; apply w_gF; rfl; apply w_gF; rfl; apply w_gF; rfl; apply w_pickFb; rfl; rfl; apply w_mvb; rfl; apply w_done0; apply w_ifF; rfl; apply w_sq; apply w_reg; apply w_fld; rfl; apply w_ld; rfl; exact hc_i 1 rfl rfl; apply w_eql; rfl; rfl; apply w_mvb; rfl; refine w_gdF rfl (by omega) ?_; apply w_gF; rfl; apply w_gF; rfl; apply w_gF; rfl; apply w_pickFb; rfl; rfl; apply w_mvb; rfl; apply w_done0; apply w_ifF; rfl; apply w_sq; apply w_reg; apply w_fld; rfl; apply w_ld; rfl; exact hc_i 1 rfl rfl; apply w_eql; rfl; rfl; apply w_mvb; rfl; refine w_gdT rfl (by omega) ?_; apply w_gT; rfl; apply w_fld; rfl; apply w_gT; rfl; apply w_ld; rfl; exact hc_i 2 rfl rfl; apply w_gT; rfl; apply w_eql; rfl; rfl; apply w_pickTb; rfl; rfl; apply w_mvb; rfl; apply w_done0; refine w_ifdT rfl (by omega) ?_; apply w_sq; apply w_reg; apply w_ldb 1; rfl; rfl; rfl; apply w_fld; rfl; apply w_ld; rfl; exact hc_i 2 rfl rfl; apply w_len; rfl)
      refine w_pure rfl (h5 hs (by omega) (by omega)) ?_
      obtain ⟨A, B, hab⟩ : ∃ A B : Int, endsF s v.list.length = (A, B) := ⟨_, _, rfl⟩
      rw [hab] at hends ⊢
      simp only at hends ⊢
      obtain ⟨a, rfl⟩ : ∃ a : Nat, A = (a : Int) := ⟨A.toNat, by omega⟩
      obtain ⟨b, rfl⟩ : ∃ b : Nat, B = (b : Int) := ⟨B.toNat, by omega⟩
      simp only [Int.toNat_natCast]
      (apply w_mvu; rfl; apply w_ext; rfl; rfl; apply w_ext; rfl; rfl; apply w_mvi; rfl; apply w_mvi; rfl; apply w_done0; apply w_sq; apply w_reg; apply w_fld; rfl; apply w_ld; rfl; exact hc_i 2 rfl rfl; apply w_mvi; rfl; apply w_mvi; rfl)
      refine w_call0 rfl (h3 (i := a) (j := b) (ys := []) hl RSl.nil (by omega) (by omega) (by simp; omega)) (fun r d4 L4 hl4 ⟨hL, hr4⟩ => ?_)
      subst hL
      obtain ⟨sa, sc, rfl⟩ := RSl.val hr4
      (apply w_bvKL; rfl; rfl)
      refine w_stE 0 [.int .i64 5, .int .i64 0, .int .i64 0, strV [], .slice sa _ sc, .slice none 0 0] rfl rfl rfl rfl (Nat.le_of_ble_eq_true rfl) rfl rfl ?_
      (apply w_mvi; rfl; apply w_done0; apply w_ret)
      exact finVDE 0 rfl rfl rfl (RVal.close (v := .mk 5 0 0 [] (v.list.take a ++ [] ++ v.list.drop b) []) i64_5 i64_0 i64_0 (by simp) hr4 RSl.nil)
    rw [withoutF, if_neg k0, if_neg (fun h => s0 h.1), if_neg (fun h => s1 h.1), if_neg (fun h => v5 h.2)] at hF; cases hF
    (apply w_sq; apply w_block; apply w_sq; apply w_reg; apply w_fld; rfl; apply w_ld; rfl; exact hc_i 2 rfl rfl; apply w_eql; rfl; rfl; apply w_mvb; rfl; apply w_done0; refine w_ifdF rfl (by omega) ?_; apply w_sq; apply w_reg; apply w_fld; rfl; apply w_ld; rfl; exact hc_i 1 rfl rfl; apply w_eql; rfl; rfl; apply w_mvb; rfl; refine w_gdF rfl (by omega) ?_; apply w_gF; rfl; apply w_gF; rfl; apply w_gF; rfl; apply w_pickFb; rfl; rfl; apply w_mvb; rfl; apply w_done0; apply w_ifF; rfl; apply w_sq; apply w_reg; apply w_fld; rfl; apply w_ld; rfl; exact hc_i 1 rfl rfl; apply w_eql; rfl; rfl; apply w_mvb; rfl; refine w_gdF rfl (by omega) ?_; apply w_gF; rfl; apply w_gF; rfl; apply w_gF; rfl; apply w_pickFb; rfl; rfl; apply w_mvb; rfl; apply w_done0; apply w_ifF; rfl; apply w_sq; apply w_reg; apply w_fld; rfl; apply w_ld; rfl; exact hc_i 1 rfl rfl; apply w_eql; rfl; rfl; apply w_mvb; rfl; refine w_gdT rfl (by omega) ?_; apply w_gT; rfl; apply w_fld; rfl; apply w_gT; rfl; apply w_ld; rfl; exact hc_i 2 rfl rfl; apply w_gT; rfl; apply w_eql; rfl; rfl; apply w_pickTb; rfl; rfl; apply w_mvb; rfl; apply w_done0; refine w_ifdF rfl (by omega) ?_; apply w_skip; apply w_sq; apply w_reg; apply w_bvZ)
    refine w_stE 0 [.int .i64 0, .int .i64 0, .int .i64 0, strV [], .slice none 0 0, .slice none 0 0] rfl rfl rfl rfl (Nat.le_of_ble_eq_true rfl) rfl rfl ?_
    (apply w_mvi; rfl; apply w_done0; apply w_ret)
    exact finVDE 0 rfl rfl rfl RVal.zero
  rw [withoutF, if_neg k0, if_neg (fun h => s0 h.1), if_neg (fun h => s1 h.1), if_neg (fun h => s2 h.1)] at hF; cases hF
  (apply w_sq; apply w_block; apply w_sq; apply w_reg; apply w_fld; rfl; apply w_ld; rfl; exact hc_i 2 rfl rfl; apply w_eql; rfl; rfl; apply w_mvb; rfl; apply w_done0; refine w_ifdF rfl (by omega) ?_; apply w_sq; apply w_reg; apply w_fld; rfl; apply w_ld; rfl; exact hc_i 1 rfl rfl; apply w_eql; rfl; rfl; apply w_mvb; rfl; refine w_gdF rfl (by omega) ?_; apply w_gF; rfl; apply w_gF; rfl; apply w_gF; rfl; apply w_pickFb; rfl; rfl; apply w_mvb; rfl; apply w_done0; apply w_ifF; rfl; apply w_sq; apply w_reg; apply w_fld; rfl; apply w_ld; rfl; exact hc_i 1 rfl rfl; apply w_eql; rfl; rfl; apply w_mvb; rfl; refine w_gdF rfl (by omega) ?_; apply w_gF; rfl; apply w_gF; rfl; apply w_gF; rfl; apply w_pickFb; rfl; rfl; apply w_mvb; rfl; apply w_done0; apply w_ifF; rfl; apply w_sq; apply w_reg; apply w_fld; rfl; apply w_ld; rfl; exact hc_i 1 rfl rfl; apply w_eql; rfl; rfl; apply w_mvb; rfl; refine w_gdF rfl (by omega) ?_; apply w_gF; rfl; apply w_gF; rfl; apply w_gF; rfl; apply w_pickFb; rfl; rfl; apply w_mvb; rfl; apply w_done0; apply w_ifF; rfl; apply w_skip; apply w_sq; apply w_reg; apply w_bvZ)
  refine w_stE 0 [.int .i64 0, .int .i64 0, .int .i64 0, strV [], .slice none 0 0, .slice none 0 0] rfl rfl rfl rfl (Nat.le_of_ble_eq_true rfl) rfl rfl ?_
  (apply w_mvi; rfl; apply w_done0; apply w_ret)
  exact finVDE 0 rfl rfl rfl RVal.zero
end Go.Gk.Val
end

section
/-
  Ways: something is dropped.
-/
namespace Go.Gk.Val
open Go Go.Gk Go.Gk.Utf
attribute [local irreducible] gwp gws

def dropF : V → List St → V × Int
  | _, [] => (V.zero, 0)
  | v, [s] => withoutF v s
  | v, s :: s2 :: l => if (intoF v s).2 ≠ 0 ∨ (intoF v s).1.kind = 0 then (v, (intoF v s).2) else if (dropF (intoF v s).1 (s2 :: l)).2 ≠ 0 then (v, (dropF (intoF v s).1 (s2 :: l)).2) else setF v s (dropF (intoF v s).1 (s2 :: l)).1
theorem without_cnt (v : V) (s : St) : cntV (withoutF v s).1 ≤ cntV v := by
  have h3 := cntV_eq v
  have hz : cntV V.zero = 1 := by decide
  have key : ∀ (i j : Nat), i ≤ j → ∀ ks : List (List UInt8), ks.length ≤ v.keys.length → cntV (.mk 5 0 0 [] (v.list.take i ++ [] ++ v.list.drop j) ks) ≤ cntV v ∧ cntV (.mk 6 0 0 [] (v.list.take i ++ [] ++ v.list.drop j) ks) ≤ cntV v := by
    intro i j hij ks hk
    have h4 := cnts_cut (l := v.list) hij
    rw [cntV_eq, cntV_eq]
    show 1 + ks.length + cnts (v.list.take i ++ [] ++ v.list.drop j) ≤ _ ∧ 1 + ks.length + cnts (v.list.take i ++ [] ++ v.list.drop j) ≤ _
    rw [cnts_app, cnts_app]
    simp only [cnts]
    omega
  unfold withoutF
  split
  · exact Nat.le_refl _
  split
  · simp only
    split
    · exact (key _ _ (by omega) _ (by simp; omega)).2
    · exact Nat.le_refl _
  split
  · simp only
    split
    · exact Nat.le_refl _
    · exact (key _ _ (by omega) _ (by simp)).1
  split
  · have he := ends_le s (k := v.list.length) (by omega)
    exact (key _ _ (by omega) _ (by simp)).1
  · simp only [hz]; omega
theorem drop_cnt : ∀ (l : List St) (v : V), txtV v ≤ 1000000 → cntV (dropF v l).1 ≤ 1000000 + l.length * 1004100
  | [], v, _ => by
    have hz : cntV V.zero = 1 := by decide
    simp [dropF, hz]
  | [s], v, hb => by
    have h1 := without_cnt v s
    have h4 := cnt_txt v
    simp only [dropF, List.length_singleton]; omega
  | s :: s2 :: l, v, hb => by
    have h2 := drop_cnt (s2 :: l) (intoF v s).1 (Nat.le_trans (into_txt v s) hb)
    have h3 := set_cnt v s (dropF (intoF v s).1 (s2 :: l)).1
    have h4 := cnt_txt v
    rw [dropF]
    simp only [List.length_cons] at h2 ⊢
    split
    · simp only; omega
    split
    · simp only; omega
    · omega
def DropROk (P : Program) (f : FuncId) : Prop := ∀ (l : List St) {d : PHeap} {cs : List Value} {w : Value} {v : V}, RVal d cs v → Gd v → txtV v ≤ 1000000 → RSl 6 RSt d w l → l.length ≤ 100 →
  GCall P f [.agg cs.toArray, w] d [] (Ret fun r d' L' => L' = [] ∧ ∃ cs', r = .tuple #[.agg cs'.toArray, .int .i64 (dropF v l).2] ∧ RVal d' cs' (dropF v l).1)
def g_steps_drop (f_steps_without f_steps_into f_steps_drop f_steps_set : Nat) : GFun :=
 ⟨58, [(.cell 4 (some 6)), (.tmp 5)],
 (.seq
 (.reg false (.op false ⟨(some 2), none, (.box (.tmp 0))⟩
  (.op false ⟨(some 4), none, (.alo (.agg #[(.int .i64 0), (.int .i64 0), (.int .i64 0), (strV []), (.slice none 0 0), (.slice none 0 0)]))⟩
  (.op false ⟨(some 5), none, (.mv (.const (.int .i64 0)))⟩ .done))))
 (.seq (.seq
 (.reg false (.op false ⟨(some 8), none, (.mv (.tmp 1))⟩
  (.op false ⟨(some 9), none, (.len (.tmp 8))⟩ .done))) (.block 0
 (.seq
 (.reg false (.op false ⟨(some 11), none, (.bin .eql (.tmp 9) (.const (.int .i64 0)))⟩
  (.op false ⟨(some 10), none, (.mv (.tmp 11))⟩ .done))) (.cond (.tmp 10)
 (.seq
 (.reg false (.op false ⟨(some 12), none, (.bld [(0, 1), (1, 2), (3, 1), (4, 1), (5, 1)] [(.int .i64 0), (.int .i64 0), (.int .i64 0), (strV []), (.slice none 0 0), (.slice none 0 0)] [])⟩
  (.op false ⟨none, none, (.st 6 (.tmp 4) (.tmp 12))⟩
  (.op false ⟨(some 5), none, (.mv (.const (.int .i64 0)))⟩ .done)))) .ret)
 (.seq
 (.reg false (.op false ⟨(some 14), none, (.bin .eql (.tmp 9) (.const (.int .i64 1)))⟩
  (.op false ⟨(some 13), none, (.mv (.tmp 14))⟩ .done))) (.cond (.tmp 13)
 (.seq
 (.reg true (.op true ⟨(some 15), none, (.ld (some 6) (.tmp 2))⟩
  (.op true ⟨(some 16), none, (.mv (.tmp 1))⟩
  (.op true ⟨(some 17), none, (.idx 6 (.tmp 16) (.const (.int .i64 0)))⟩
  (.op true ⟨(some 18), none, (.ld (some 6) (.tmp 17))⟩
  (.op false ⟨(some 19), none, (.call f_steps_without [(.tmp 15), (.tmp 18)])⟩
  (.op true ⟨(some 20), none, (.ext (.tmp 19) 0)⟩
  (.op true ⟨(some 21), none, (.ext (.tmp 19) 1)⟩
  (.bar (.op false ⟨none, none, (.st 6 (.tmp 4) (.tmp 20))⟩
  (.op true ⟨(some 5), none, (.mv (.tmp 21))⟩ .done))))))))))) .ret) .skip))))))
 (.seq
 (.reg true (.op true ⟨(some 23), none, (.ld (some 6) (.tmp 2))⟩
  (.op true ⟨(some 24), none, (.mv (.tmp 1))⟩
  (.op true ⟨(some 25), none, (.idx 6 (.tmp 24) (.const (.int .i64 0)))⟩
  (.op true ⟨(some 26), none, (.ld (some 6) (.tmp 25))⟩
  (.alt ⟨(some 27), none, (.call f_steps_into [(.tmp 23), (.tmp 26)])⟩
  (.op true ⟨(some 22), none, (.mv (.tmp 27))⟩
  (.op true ⟨(some 28), none, (.ext (.tmp 22) 0)⟩
  (.op true ⟨(some 29), none, (.ext (.tmp 22) 1)⟩
  (.op false ⟨(some 6), none, (.alo (.agg #[(.int .i64 0), (.int .i64 0), (.int .i64 0), (strV []), (.slice none 0 0), (.slice none 0 0)]))⟩
  (.op false ⟨none, none, (.st 6 (.tmp 6) (.tmp 28))⟩
  (.op true ⟨(some 7), none, (.mv (.tmp 29))⟩ .done)))))) (.op false ⟨(some 6), none, (.alo (.agg #[(.int .i64 0), (.int .i64 0), (.int .i64 0), (strV []), (.slice none 0 0), (.slice none 0 0)]))⟩
  (.op false ⟨(some 27), none, (.call f_steps_into [(.tmp 23), (.tmp 26)])⟩
  (.op true ⟨(some 22), none, (.mv (.tmp 27))⟩
  (.op true ⟨(some 28), none, (.ext (.tmp 22) 0)⟩
  (.op true ⟨(some 29), none, (.ext (.tmp 22) 1)⟩
  (.op false ⟨none, none, (.st 6 (.tmp 6) (.tmp 28))⟩
  (.op true ⟨(some 7), none, (.mv (.tmp 29))⟩ .done)))))))))))))
 (.seq (.seq
 (.reg false (.op false ⟨(some 30), none, (.mv (.tmp 7))⟩
  (.op false ⟨(some 31), none, (.bin .neq (.tmp 30) (.const (.int .i64 0)))⟩
  (.op false ⟨(some 32), none, (.mv (.tmp 31))⟩
  (.op false ⟨(some 33), (some (32, false)), (.fld 0 (.tmp 6))⟩
  (.op false ⟨(some 34), (some (32, false)), (.ld none (.tmp 33))⟩
  (.op false ⟨(some 35), (some (32, false)), (.bin .eql (.tmp 34) (.const (.int .i64 0)))⟩
  (.op false ⟨(some 36), none, (.pick (.tmp 32) (.const (.bool true)) (.tmp 35))⟩ .done)))))))) (.cond (.tmp 36)
 (.seq
 (.reg false (.op false ⟨(some 37), none, (.ld (some 6) (.tmp 2))⟩
  (.op false ⟨(some 38), none, (.mv (.tmp 7))⟩
  (.op false ⟨none, none, (.st 6 (.tmp 4) (.tmp 37))⟩
  (.op false ⟨(some 5), none, (.mv (.tmp 38))⟩ .done))))) .ret) .skip))
 (.seq
 (.reg true (.op true ⟨(some 41), none, (.mv (.tmp 1))⟩
  (.op true ⟨(some 42), none, (.sl 6 (.tmp 41) (some (.const (.int .i64 1))) none none)⟩
  (.op false ⟨(some 40), none, (.ld (some 6) (.tmp 6))⟩
  (.op false ⟨(some 43), none, (.call f_steps_drop [(.tmp 40), (.tmp 42)])⟩
  (.op true ⟨(some 39), none, (.mv (.tmp 43))⟩
  (.op true ⟨(some 44), none, (.ext (.tmp 39) 0)⟩
  (.op true ⟨(some 45), none, (.ext (.tmp 39) 1)⟩
  (.op false ⟨none, none, (.st 6 (.tmp 6) (.tmp 44))⟩
  (.op true ⟨(some 7), none, (.mv (.tmp 45))⟩ .done))))))))))
 (.seq (.seq
 (.reg false (.op false ⟨(some 46), none, (.mv (.tmp 7))⟩
  (.op false ⟨(some 47), none, (.bin .neq (.tmp 46) (.const (.int .i64 0)))⟩ .done))) (.cond (.tmp 47)
 (.seq
 (.reg false (.op false ⟨(some 48), none, (.ld (some 6) (.tmp 2))⟩
  (.op false ⟨(some 49), none, (.mv (.tmp 7))⟩
  (.op false ⟨none, none, (.st 6 (.tmp 4) (.tmp 48))⟩
  (.op false ⟨(some 5), none, (.mv (.tmp 49))⟩ .done))))) .ret) .skip))
 (.seq
 (.reg true (.op true ⟨(some 50), none, (.ld (some 6) (.tmp 2))⟩
  (.op true ⟨(some 51), none, (.mv (.tmp 1))⟩
  (.op true ⟨(some 52), none, (.idx 6 (.tmp 51) (.const (.int .i64 0)))⟩
  (.op true ⟨(some 53), none, (.ld (some 6) (.tmp 52))⟩
  (.op true ⟨(some 54), none, (.ld (some 6) (.tmp 6))⟩
  (.op false ⟨(some 55), none, (.call f_steps_set [(.tmp 50), (.tmp 53), (.tmp 54)])⟩
  (.op true ⟨(some 56), none, (.ext (.tmp 55) 0)⟩
  (.op true ⟨(some 57), none, (.ext (.tmp 55) 1)⟩
  (.bar (.op false ⟨none, none, (.st 6 (.tmp 4) (.tmp 56))⟩
  (.op true ⟨(some 5), none, (.mv (.tmp 57))⟩ .done)))))))))))) .ret)))))))⟩

set_option maxHeartbeats 2000000 in
theorem dropr_ok {P : Program} {f f1 f2 f3 : FuncId} (hd : dec P f = some (g_steps_drop f1 f2 f f3)) (h1 : WithoutOk P f1) (h2 : IntoOk P f2) (h3 : SetOk P f3) : DropROk P f := by
  intro l
  induction l with
  | nil =>
    intro d cs w v hv hg hb hw hll
    obtain ⟨a, c, rfl⟩ := RSl.val hw
    refine GCall_of hd (Nat.le_of_ble_eq_true rfl) ?_
    obtain ⟨c0, c1, c2, c3, c4, c5, rfl⟩ := six hv.len
    show gwp P _ _ _ _ _
    apply w_sq; apply w_reg
    refine w_boxa (l := [c0, c1, c2, c3, c4, c5]) rfl (fun b2 T2 => ?_)
    have hz : (([] : List St).length : Int) = 0 := rfl
    (apply w_alo; intro _ _; apply w_mvi; rfl; apply w_done0; apply w_sq; apply w_sq; apply w_reg; apply w_mvs; rfl; apply w_len; rfl; apply w_done0; apply w_block; apply w_sq; apply w_reg; apply w_eql; rfl; rfl; apply w_mvb; rfl; apply w_done0; refine w_ifdT rfl (by omega) ?_; apply w_sq; apply w_reg; apply w_bvZ)
    refine w_stE 0 [.int .i64 0, .int .i64 0, .int .i64 0, strV [], .slice none 0 0, .slice none 0 0] rfl rfl rfl rfl (Nat.le_of_ble_eq_true rfl) rfl rfl ?_
    (apply w_mvi; rfl; apply w_done0; apply w_ret)
    exact finVDE 0 rfl rfl rfl RVal.zero
  | cons s l ih =>
    intro d cs w v hv hg hb hw hll
    have n1 := RSl.len_le hw
    obtain ⟨a, c, rfl⟩ := RSl.val hw
    have hw' := hw
    have hcb := cnt_txt v
    refine GCall_of hd (Nat.le_of_ble_eq_true rfl) ?_
    have hv0 := hv
    obtain ⟨c0, c1, c2, c3, c4, c5, rfl⟩ := six hv.len
    show gwp P _ _ _ _ _
    apply w_sq; apply w_reg
    refine w_boxa (l := [c0, c1, c2, c3, c4, c5]) rfl (fun b2 T2 => ?_)
    (apply w_alo; intro _ _; apply w_mvi; rfl; apply w_done0)
    rename_i b4 T4
    cases l with
    | nil =>
      have hz : (([s] : List St).length : Int) = 1 := rfl
      (apply w_sq; apply w_sq; apply w_reg; apply w_mvs; rfl; apply w_len; rfl; apply w_done0; apply w_block; apply w_sq; apply w_reg; apply w_eql; rfl; rfl; apply w_mvb; rfl; apply w_done0; refine w_ifdF rfl (by omega) ?_; apply w_sq; apply w_reg; apply w_eql; rfl; rfl; apply w_mvb; rfl; apply w_done0; refine w_ifdT rfl (by omega) ?_; apply w_sq)
      refine w_drawn ?_
      (apply w_ldb 1; rfl; rfl; rfl; apply w_mvs; rfl; refine w_idxR (m := 0) (sz := 6) (R := RSt) (by rfl) (by assumption) (by rfl) rfl (by omega) ?_; rintro _ _ _ _ _ ⟨rfl, _, _, _, _⟩; apply w_ldd; rfl; assumption; rfl)
      rename_i hcs hD ik' it' is id
      refine w_call0 rfl (h1 hv (gd_one hg) ⟨rfl, ik', it', is, id⟩ (by omega)) (fun r d5 L5 hl5 ⟨hL, cs', hr, hR2⟩ => ?_)
      subst hL; subst hr
      obtain ⟨g0, g1, g2, g3, g4, g5, rfl⟩ := six hR2.len
      (apply w_ext; rfl; rfl; apply w_ext; rfl; rfl; apply w_bar)
      refine w_stE 0 [g0, g1, g2, g3, g4, g5] rfl rfl rfl rfl (Nat.le_of_ble_eq_true rfl) (cell1_val _ _ _ hR2) rfl ?_
      (apply w_mvi; rfl; apply w_done0; apply w_ret)
      exact finVDE 0 rfl rfl rfl hR2
    | cons s2 l =>
    have hz : ((s :: s2 :: l).length : Int) = l.length + 2 := by simp; omega
    have hcnt := drop_cnt (s2 :: l) (intoF v s).1 (Nat.le_trans (into_txt v s) hb)
    have hll' : (s2 :: l).length ≤ 99 := by rw [List.length_cons] at hll; omega
    (apply w_sq; apply w_sq; apply w_reg; apply w_mvs; rfl; apply w_len; rfl; apply w_done0; apply w_block; apply w_sq; apply w_reg; apply w_eql; rfl; rfl; apply w_mvb; rfl; apply w_done0; refine w_ifdF rfl (by omega) ?_; apply w_sq; apply w_reg; apply w_eql; rfl; rfl; apply w_mvb; rfl; apply w_done0; refine w_ifdF rfl (by omega) ?_)
    apply w_skip
    refine w_mid (fun ρ d' L' => d' = d ∧ ∃ b6 T6 e1 e2 e3 e4 e5, SlotsAre ρ [(1, .slice a (s :: s2 :: l).length c), (2, .pointer (some ⟨b2, 0, none⟩)), (4, .pointer (some ⟨b4, 0, none⟩)), (6, .pointer (some ⟨b6, 0, none⟩)), (7, .int .i64 (intoF v s).2)] ∧ RVal d [.int .i64 (intoF v s).1.kind, e1, e2, e3, e4, e5] (intoF v s).1 ∧
      L' = [bx b4 T4 [.int .i64 0, .int .i64 0, .int .i64 0, strV [], .slice none 0 0, .slice none 0 0], bx b2 T2 [c0, c1, c2, c3, c4, c5], bx b6 T6 [.int .i64 (intoF v s).1.kind, e1, e2, e3, e4, e5]]) ?_ ?_
    · refine w_drawn ?_
      (apply w_ldb 1; rfl; rfl; rfl; apply w_mvs; rfl; refine w_idxR (m := 0) (sz := 6) (R := RSt) (by rfl) (by assumption) (by rfl) rfl (by omega) ?_; rintro _ _ _ _ _ ⟨rfl, _, _, _, _⟩; apply w_ldd; rfl; assumption; rfl)
      rename_i hcs hD ik' it' is id
      have hS : RSt d [.int .i64 s.kind, strV s.text, .int .i64 s.src, .int .i64 s.dst, .bool s.hf, .bool s.ht] s := ⟨rfl, ik', it', is, id⟩
      refine w_alt ?_ ?_
      · refine w_call0 rfl (h2 hv (gd_one hg) (gd_text hg) hS) (fun r d3 L3 _ ⟨hdd, hL, cs', hr, hR'⟩ => ?_)
        subst hdd; subst hL; subst hr
        obtain ⟨lv', kv', rfl, _⟩ := hR'.open
        (apply w_mvu; rfl; apply w_ext; rfl; rfl; apply w_ext; rfl; rfl; apply w_alo; intro _ _)
        rename_i b6 T6
        refine w_stE 0 [.int .i64 (intoF v s).1.kind, .int .i64 (intoF v s).1.m, .int .i64 (intoF v s).1.e, strV (intoF v s).1.text, lv', kv'] rfl rfl rfl rfl (Nat.le_of_ble_eq_true rfl) (cell1_val _ _ _ hR') rfl ?_
        (apply w_mvi; rfl; apply w_done)
        exact ⟨rfl, b6, T6, _, _, _, _, _, ⟨rfl, rfl, rfl, rfl, rfl, trivial⟩, hR', rfl⟩
      · (apply w_alo; intro _ _)
        rename_i b6 T6
        refine w_call0 rfl (h2 hv (gd_one hg) (gd_text hg) hS) (fun r d3 L3 _ ⟨hdd, hL, cs', hr, hR'⟩ => ?_)
        subst hdd; subst hL; subst hr
        obtain ⟨lv', kv', rfl, _⟩ := hR'.open
        (apply w_mvu; rfl; apply w_ext; rfl; rfl; apply w_ext; rfl; rfl)
        refine w_stE 0 [.int .i64 (intoF v s).1.kind, .int .i64 (intoF v s).1.m, .int .i64 (intoF v s).1.e, strV (intoF v s).1.text, lv', kv'] rfl rfl rfl rfl (Nat.le_of_ble_eq_true rfl) (cell1_val _ _ _ hR') rfl ?_
        (apply w_mvi; rfl; apply w_done)
        exact ⟨rfl, b6, T6, _, _, _, _, _, ⟨rfl, rfl, rfl, rfl, rfl, trivial⟩, hR', rfl⟩
    rintro ρ d' L' ⟨hdd, b6, T6, e1, e2, e3, e4, e5, hsl, hR, hL⟩
    subst hdd; subst hL
    refine gwp_slots _ hsl ?_
    clear hsl
    rw [dropF]
    by_cases he : (intoF v s).2 ≠ 0
    · rw [if_pos (.inl he)]
      (apply w_sq; apply w_sq; apply w_reg; apply w_mvi; rfl; apply w_neq; rfl; rfl; apply w_mvb; rfl; refine w_gdT rfl (by omega) ?_; apply w_gF; rfl; apply w_gF; rfl; apply w_gF; rfl; apply w_pickTb; rfl; rfl; apply w_done0; apply w_ifT; rfl; apply w_sq; apply w_reg; apply w_ldb 1; rfl; rfl; rfl; apply w_mvi; rfl)
      refine w_stE 0 [c0, c1, c2, c3, c4, c5] rfl rfl rfl rfl (Nat.le_of_ble_eq_true rfl) (cell1_val _ _ _ hv0) rfl ?_
      (apply w_mvi; rfl; apply w_done0; apply w_ret)
      exact finVDE 0 rfl rfl rfl hv0
    by_cases hk0 : (intoF v s).1.kind = 0
    · rw [if_pos (.inr hk0)]
      (apply w_sq; apply w_sq; apply w_reg; apply w_mvi; rfl; apply w_neq; rfl; rfl; apply w_mvb; rfl; refine w_gdF rfl (by omega) ?_; apply w_gT; rfl; apply w_fld; rfl; apply w_gT; rfl; apply w_ld; rfl; exact hc_i 2 rfl rfl; apply w_gT; rfl; apply w_eql; rfl; rfl; apply w_pickFb; rfl; rfl; apply w_done0; refine w_ifdT rfl (by omega) ?_; apply w_sq; apply w_reg; apply w_ldb 1; rfl; rfl; rfl; apply w_mvi; rfl)
      refine w_stE 0 [c0, c1, c2, c3, c4, c5] rfl rfl rfl rfl (Nat.le_of_ble_eq_true rfl) (cell1_val _ _ _ hv0) rfl ?_
      (apply w_mvi; rfl; apply w_done0; apply w_ret)
      exact finVDE 0 rfl rfl rfl hv0
    rw [if_neg (fun h => h.elim he hk0)]
    (apply w_sq; apply w_sq; apply w_reg; apply w_mvi; rfl; apply w_neq; rfl; rfl; apply w_mvb; rfl; refine w_gdF rfl (by omega) ?_; apply w_gT; rfl; apply w_fld; rfl; apply w_gT; rfl; apply w_ld; rfl; exact hc_i 2 rfl rfl; apply w_gT; rfl; apply w_eql; rfl; rfl; apply w_pickFb; rfl; rfl; apply w_done0; refine w_ifdF rfl (by omega) ?_; apply w_skip; apply w_sq)
    refine w_drawnA [bx b4 T4 [.int .i64 0, .int .i64 0, .int .i64 0, strV [], .slice none 0 0, .slice none 0 0], bx b2 T2 [c0, c1, c2, c3, c4, c5]] [bx b6 T6 [.int .i64 (intoF v s).1.kind, e1, e2, e3, e4, e5]] rfl ?_
    (apply w_mvs; rfl)
    refine w_slFrom (n := 1) rfl hw' rfl rfl (by simp) (fun v' hv' => ?_)
    (apply w_ldb 2; rfl; rfl; rfl)
    refine w_call0 rfl (ih hR (into_gd hg s) (Nat.le_trans (into_txt v s) hb) hv' (by omega)) (fun r d4 L4 hl4 ⟨hL, cs', hr, hR'⟩ => ?_)
    subst hL; subst hr
    obtain ⟨f0, f1, f2, f3, f4, f5, rfl⟩ := six hR'.len
    (apply w_mvu; rfl; apply w_ext; rfl; rfl; apply w_ext; rfl; rfl)
    refine w_stE 0 [f0, f1, f2, f3, f4, f5] rfl rfl rfl rfl (Nat.le_of_ble_eq_true rfl) (cell1_val _ _ _ hR') rfl ?_
    have hv4 := RVal.mono hl4 hv0
    by_cases he2 : (dropF (intoF v s).1 (s2 :: l)).2 ≠ 0
    · rw [if_pos he2]
      (apply w_mvi; rfl; apply w_done; apply w_sq; apply w_sq; apply w_reg; apply w_mvi; rfl; apply w_neq; rfl; rfl; apply w_done0; refine w_ifdT rfl (by omega) ?_; apply w_sq; apply w_reg; apply w_ldb 1; rfl; rfl; rfl; apply w_mvi; rfl)
      refine w_stE 0 [c0, c1, c2, c3, c4, c5] rfl rfl rfl rfl (Nat.le_of_ble_eq_true rfl) (cell1_val _ _ _ hv0) rfl ?_
      (apply w_mvi; rfl; apply w_done0; apply w_ret)
      exact finVDE 0 rfl rfl rfl hv4
    rw [if_neg he2]
    have hw4 : RSl 6 RSt d4 (.slice a (s :: s2 :: l).length c) (s :: s2 :: l) := RSl.mono (R := RSt) (fun hl h => h) hw' hl4
    (apply w_mvi; rfl; apply w_done; apply w_sq; apply w_sq; apply w_reg; apply w_mvi; rfl; apply w_neq; rfl; rfl; apply w_done0; refine w_ifdF rfl (by omega) ?_; apply w_skip; apply w_sq)
    refine w_drawn ?_
    (apply w_ldb 1; rfl; rfl; rfl; apply w_mvs; rfl; refine w_idxR (m := 0) (sz := 6) (R := RSt) (by rfl) (by assumption) (by rfl) rfl (by omega) ?_; rintro _ _ _ _ _ ⟨rfl, _, _, _, _⟩; apply w_ldd; rfl; assumption; rfl; apply w_ldb 2; rfl; rfl; rfl)
    rename_i hcs hD ik' it' is id
    refine w_call0 rfl (h3 hv4 (gd_one hg) ⟨rfl, ik', it', is, id⟩ hR' (by omega)) (fun r d5 L5 hl5 ⟨hL, cs', hr, hR2⟩ => ?_)
    subst hL; subst hr
    obtain ⟨g0, g1, g2, g3, g4, g5, rfl⟩ := six hR2.len
    (apply w_ext; rfl; rfl; apply w_ext; rfl; rfl; apply w_bar)
    refine w_stE 0 [g0, g1, g2, g3, g4, g5] rfl rfl rfl rfl (Nat.le_of_ble_eq_true rfl) (cell1_val _ _ _ hR2) rfl ?_
    (apply w_mvi; rfl; apply w_done0; apply w_ret)
    exact finVDE 0 rfl rfl rfl hR2
def dropTop (v : V) (l : List St) : V × Int := if wrongF v l ≠ 0 then (V.zero, wrongF v l) else if (dropF v l).2 ≠ 0 then (V.zero, (dropF v l).2) else ((dropF v l).1, 0)
def DropOk (T : PHeap → Prop) (P : Program) (f : FuncId) : Prop := ∀ {d : PHeap} {cs : List Value} {w : Value} {v : V} {l : List St}, T d → RVal d cs v → RSl 6 RSt d w l → txtV v ≤ 1000000 → l.length ≤ 100 →
  GCall P f [.agg cs.toArray, w] d [] (Ret fun r d' L' => d' = d ∧ ∃ cs' h, r = .tuple #[.agg cs'.toArray, .int .i64 (dropTop v l).2] ∧ L' = [h] ∧ OVal cs' (dropTop v l).1 h)
def g_steps_Drop (f_steps_wrong f_steps_drop f_value_Copy : Nat) : GFun :=
 ⟨28, [(.cell 4 (some 6)), (.tmp 5)],
 (.seq
 (.reg false (.op false ⟨(some 2), none, (.box (.tmp 0))⟩
  (.op false ⟨(some 4), none, (.alo (.agg #[(.int .i64 0), (.int .i64 0), (.int .i64 0), (strV []), (.slice none 0 0), (.slice none 0 0)]))⟩
  (.op false ⟨(some 5), none, (.mv (.const (.int .i64 0)))⟩ .done))))
 (.seq (.seq
 (.reg false (.op false ⟨(some 9), none, (.ld (some 6) (.tmp 2))⟩
  (.op false ⟨(some 10), none, (.mv (.tmp 1))⟩
  (.op false ⟨(some 11), none, (.call f_steps_wrong [(.tmp 9), (.tmp 10)])⟩
  (.op false ⟨(some 6), none, (.mv (.tmp 11))⟩ .done)))))
 (.seq
 (.reg false (.op false ⟨(some 12), none, (.mv (.tmp 6))⟩
  (.op false ⟨(some 13), none, (.bin .neq (.tmp 12) (.const (.int .i64 0)))⟩ .done))) (.cond (.tmp 13)
 (.seq
 (.reg false (.op false ⟨(some 14), none, (.bld [(0, 1), (1, 2), (3, 1), (4, 1), (5, 1)] [(.int .i64 0), (.int .i64 0), (.int .i64 0), (strV []), (.slice none 0 0), (.slice none 0 0)] [])⟩
  (.op false ⟨(some 15), none, (.mv (.tmp 6))⟩
  (.op false ⟨none, none, (.st 6 (.tmp 4) (.tmp 14))⟩
  (.op false ⟨(some 5), none, (.mv (.tmp 15))⟩ .done))))) .ret) .skip)))
 (.seq
 (.reg false (.op false ⟨(some 17), none, (.ld (some 6) (.tmp 2))⟩
  (.op false ⟨(some 18), none, (.mv (.tmp 1))⟩
  (.op false ⟨(some 19), none, (.call f_steps_drop [(.tmp 17), (.tmp 18)])⟩
  (.op false ⟨(some 16), none, (.mv (.tmp 19))⟩
  (.op false ⟨(some 20), none, (.ext (.tmp 16) 0)⟩
  (.op false ⟨(some 21), none, (.ext (.tmp 16) 1)⟩
  (.op false ⟨(some 7), none, (.alo (.agg #[(.int .i64 0), (.int .i64 0), (.int .i64 0), (strV []), (.slice none 0 0), (.slice none 0 0)]))⟩
  (.op false ⟨none, none, (.st 6 (.tmp 7) (.tmp 20))⟩
  (.op false ⟨(some 8), none, (.mv (.tmp 21))⟩ .done))))))))))
 (.seq (.seq
 (.reg false (.op false ⟨(some 22), none, (.mv (.tmp 8))⟩
  (.op false ⟨(some 23), none, (.bin .neq (.tmp 22) (.const (.int .i64 0)))⟩ .done))) (.cond (.tmp 23)
 (.seq
 (.reg false (.op false ⟨(some 24), none, (.bld [(0, 1), (1, 2), (3, 1), (4, 1), (5, 1)] [(.int .i64 0), (.int .i64 0), (.int .i64 0), (strV []), (.slice none 0 0), (.slice none 0 0)] [])⟩
  (.op false ⟨(some 25), none, (.mv (.tmp 8))⟩
  (.op false ⟨none, none, (.st 6 (.tmp 4) (.tmp 24))⟩
  (.op false ⟨(some 5), none, (.mv (.tmp 25))⟩ .done))))) .ret) .skip))
 (.seq
 (.reg false (.op false ⟨(some 26), none, (.ld (some 6) (.tmp 7))⟩
  (.op false ⟨(some 27), none, (.call f_value_Copy [(.tmp 26)])⟩
  (.op false ⟨none, none, (.st 6 (.tmp 4) (.tmp 27))⟩
  (.op false ⟨(some 5), none, (.mv (.const (.int .i64 0)))⟩ .done))))) .ret)))))⟩

theorem drop_ok {T : PHeap → Prop} {P : Program} {f f1 f2 f3 : FuncId} (hd : dec P f = some (g_steps_Drop f1 f2 f3)) (h1 : WrongOk T P f1) (h2 : DropROk P f2) (h3 : VCopyOk P f3) : DropOk T P f := by
  intro d cs w v l ht hv hw hbv hll
  have n1 := RSl.len_le hw
  obtain ⟨a, c, rfl⟩ := RSl.val hw
  have hcnt := drop_cnt l v hbv
  refine GCall.forget (Q := fun r L' => ∃ cs' h, r = .tuple #[.agg cs'.toArray, .int .i64 (dropTop v l).2] ∧ L' = [h] ∧ OVal cs' (dropTop v l).1 h) ?_
  refine GCall_of hd (Nat.le_of_ble_eq_true rfl) ?_
  obtain ⟨c0, c1, c2, c3, c4, c5, rfl⟩ := six hv.len
  show gwp P _ _ _ _ _
  apply w_sq; apply w_reg
  refine w_boxa (l := [c0, c1, c2, c3, c4, c5]) rfl (fun b2 T2 => ?_)
  (apply w_alo; intro _ _; apply w_mvi; rfl; apply w_done0; apply w_sq; apply w_sq; apply w_reg; apply w_ldb 1; rfl; rfl; rfl; apply w_mvs; rfl)
  rename_i b4 T4
  refine w_pure rfl (h1 ht hv hw) ?_
  by_cases q3 : wrongF v l ≠ 0
  · rw [dropTop, if_pos q3]
    (apply w_mvi; rfl; apply w_done0; apply w_sq; apply w_reg; apply w_mvi; rfl; apply w_neq; rfl; rfl; apply w_done0; refine w_ifdT rfl (by omega) ?_; apply w_sq; apply w_reg; apply w_bvZ; apply w_mvi; rfl)
    refine w_stE 0 [.int .i64 0, .int .i64 0, .int .i64 0, strV [], .slice none 0 0, .slice none 0 0] rfl rfl rfl rfl (Nat.le_of_ble_eq_true rfl) rfl rfl ?_
    (apply w_mvi; rfl; apply w_done0; apply w_ret)
    exact finOE 0 rfl rfl rfl OVal.zero vs_zero
  rw [dropTop, if_neg q3]
  have hgd := right_gd (wrong_right (v := v) (l := l) (by omega)) (by omega)
  (apply w_mvi; rfl; apply w_done0; apply w_sq; apply w_reg; apply w_mvi; rfl; apply w_neq; rfl; rfl; apply w_done0; refine w_ifdF rfl (by omega) ?_; apply w_skip; apply w_sq; apply w_reg; apply w_ldb 1; rfl; rfl; rfl; apply w_mvs; rfl)
  refine w_call0 rfl (h2 l hv hgd hbv hw hll) (fun r d2 L2 hl2 ⟨hL, cs', hr, hR⟩ => ?_)
  subst hL; subst hr
  obtain ⟨f0, f1', f2', f3', f4', f5, rfl⟩ := six hR.len
  (apply w_mvu; rfl; apply w_ext; rfl; rfl; apply w_ext; rfl; rfl; apply w_alo; intro _ _)
  rename_i b7 T7
  refine w_stE 0 [f0, f1', f2', f3', f4', f5] rfl rfl rfl rfl (Nat.le_of_ble_eq_true rfl) (cell1_val _ _ _ hR) rfl ?_
  by_cases q4 : (dropF v l).2 ≠ 0
  · rw [if_pos q4]
    (apply w_mvi; rfl; apply w_done0; apply w_sq; apply w_sq; apply w_reg; apply w_mvi; rfl; apply w_neq; rfl; rfl; apply w_done0; refine w_ifdT rfl (by omega) ?_; apply w_sq; apply w_reg; apply w_bvZ; apply w_mvi; rfl)
    refine w_stE 1 [.int .i64 0, .int .i64 0, .int .i64 0, strV [], .slice none 0 0, .slice none 0 0] rfl rfl rfl rfl (Nat.le_of_ble_eq_true rfl) rfl rfl ?_
    (apply w_mvi; rfl; apply w_done0; apply w_ret)
    exact finOE 1 rfl rfl rfl OVal.zero vs_zero
  rw [if_neg q4]
  (apply w_mvi; rfl; apply w_done0; apply w_sq; apply w_sq; apply w_reg; apply w_mvi; rfl; apply w_neq; rfl; rfl; apply w_done0; refine w_ifdF rfl (by omega) ?_; apply w_skip; apply w_sq; apply w_reg; apply w_ldb 0; rfl; rfl; rfl)
  refine w_call0 rfl (h3 _ hR (by omega)) (fun r d3 L3 _ ⟨hdd, cs', g, hr, hL, ho⟩ => ?_)
  subst hdd; subst hL; subst hr
  obtain ⟨e0, e1, e2, e3, e4, e5, rfl⟩ := six ho.cells.1
  refine w_stE 2 [e0, e1, e2, e3, e4, e5] rfl rfl rfl rfl (Nat.le_of_ble_eq_true rfl) ho.cells.2 rfl ?_
  (apply w_mvi; rfl; apply w_done0; apply w_ret)
  exact finOE 2 rfl rfl rfl ho (Vs.drop ((List.nil_sublist _).cons_cons _))
end Go.Gk.Val
end

section
/-
  The laws of ways: marks over what is handed out; how great.
-/
namespace Go.Gk.Val
open Go Go.Gk Go.Gk.Utf
attribute [local irreducible] gwp gws

theorem orow_openN {sz n : Nat} {v : Value} {us : List Value} {h : PHeap} (o : ORow sz v n us h) {m : Nat} (hm : m < n * sz) :
    ∃ b T l c, v = .slice (some ⟨b, 0, none⟩) n c ∧ h = bx b T l ∧ n * sz ≤ l.length ∧ l.take (n * sz) = us ∧ ∀ x, ORow sz v n (us.set m x) (bx b T (patch l m [x])) := by
  obtain ⟨h1, h2, ⟨rfl, rfl, rfl⟩ | ⟨b, T, l, c, rfl, rfl, h3, h4, h5, h6⟩⟩ := o
  · simp at hm
  · have hnc : n * sz ≤ c * sz := Nat.mul_le_mul_right sz h3
    have hml : m < l.length := by omega
    refine ⟨b, T, l, c, rfl, rfl, by omega, by rw [← h1]; exact h6, fun x => ?_⟩
    rw [patch_set hml]
    refine ⟨by simpa using h1, h2, .inr ⟨b, T, l.set m x, c, rfl, rfl, h3, h4, by simpa using h5, ?_⟩⟩
    rw [List.length_set, List.take_set, h6]
def SpoilVOk (P : Program) (f : FuncId) : Prop := ∀ (v : V) {d : PHeap} {cs : List Value} {h : PHeap}, OVal cs v h → GCall P f [.agg cs.toArray] d [h] (Ret fun _ d' L' => d' = d ∧ L' = [])
def g_thimblelaw08_spoil (f_thimblelaw08_spoil : Nat) : GFun :=
 ⟨33, [],
 (.seq
 (.reg false (.op false ⟨(some 1), none, (.box (.tmp 0))⟩ .done))
 (.seq (.seq
 (.reg false (.op false ⟨(some 4), none, (.fld 5 (.tmp 1))⟩
  (.op false ⟨(some 5), none, (.ld none (.tmp 4))⟩
  (.op false ⟨(some 6), none, (.len (.tmp 5))⟩
  (.op false ⟨(some 7), none, (.mv (.const (.int .i64 0)))⟩ .done))))) (.block 0 (.loop
 (.seq
 (.reg false (.op false ⟨(some 8), none, (.bin .lss (.tmp 7) (.tmp 6))⟩ .done))
 (.seq (.cond (.tmp 8) .skip (.exit 0))
 (.seq (.block 1
 (.seq
 (.reg false (.op false ⟨(some 9), none, (.mv (.tmp 7))⟩
  (.op false ⟨(some 2), none, (.mv (.tmp 9))⟩ .done)))
 (.reg false (.op false ⟨(some 10), none, (.fld 5 (.tmp 1))⟩
  (.op false ⟨(some 11), none, (.ld none (.tmp 10))⟩
  (.op false ⟨(some 12), none, (.mv (.tmp 2))⟩
  (.op false ⟨(some 13), none, (.idx 1 (.tmp 11) (.tmp 12))⟩
  (.op false ⟨none, none, (.st 1 (.tmp 13) (.const (strV [115, 112, 111, 105, 108, 116])))⟩ .done))))))))
 (.reg false (.op false ⟨(some 14), none, (.bin .add (.tmp 7) (.const (.int .i64 1)))⟩
  (.op false ⟨(some 7), none, (.mv (.tmp 14))⟩ .done)))))))))
 (.seq
 (.reg false (.op false ⟨(some 15), none, (.fld 4 (.tmp 1))⟩
  (.op false ⟨(some 16), none, (.ld none (.tmp 15))⟩
  (.op false ⟨(some 17), none, (.len (.tmp 16))⟩
  (.op false ⟨(some 18), none, (.mv (.const (.int .i64 0)))⟩ .done))))) (.block 2 (.loop
 (.seq
 (.reg false (.op false ⟨(some 19), none, (.bin .lss (.tmp 18) (.tmp 17))⟩ .done))
 (.seq (.cond (.tmp 19) .skip (.exit 2))
 (.seq (.block 3
 (.seq
 (.reg false (.op false ⟨(some 20), none, (.mv (.tmp 18))⟩
  (.op false ⟨(some 3), none, (.mv (.tmp 20))⟩ .done)))
 (.seq
 (.reg false (.op false ⟨(some 21), none, (.fld 4 (.tmp 1))⟩
  (.op false ⟨(some 22), none, (.ld none (.tmp 21))⟩
  (.op false ⟨(some 23), none, (.mv (.tmp 3))⟩
  (.op false ⟨(some 24), none, (.idx 6 (.tmp 22) (.tmp 23))⟩
  (.op false ⟨(some 25), none, (.ld (some 6) (.tmp 24))⟩
  (.op false ⟨(some 26), none, (.call f_thimblelaw08_spoil [(.tmp 25)])⟩ .done)))))))
 (.reg false (.op false ⟨(some 27), none, (.fld 4 (.tmp 1))⟩
  (.op false ⟨(some 28), none, (.ld none (.tmp 27))⟩
  (.op false ⟨(some 29), none, (.mv (.tmp 3))⟩
  (.op false ⟨(some 30), none, (.idx 6 (.tmp 28) (.tmp 29))⟩
  (.op false ⟨(some 31), none, (.fld 0 (.tmp 30))⟩
  (.op false ⟨none, none, (.st 1 (.tmp 31) (.const (.int .i64 (-3))))⟩ .done))))))))))
 (.reg false (.op false ⟨(some 32), none, (.bin .add (.tmp 18) (.const (.int .i64 1)))⟩
  (.op false ⟨(some 18), none, (.mv (.tmp 32))⟩ .done)))))))))))⟩

set_option maxHeartbeats 2000000 in
theorem spoilv_ok {P : Program} {f : FuncId} (hd : dec P f = some (g_thimblelaw08_spoil f)) : SpoilVOk P f := by
  intro v
  induction v using V.ind with
  | h v ih =>
  intro d cs h ho
  obtain ⟨lv, kv, hk, hl, ccs, hs, rfl, ik, im, ie, it, gk, gl, hsl, el, dj, rfl⟩ := ho.open
  obtain ⟨us, ok, _⟩ := gk
  obtain ⟨ka, _, kc, rfl, _⟩ := ok.slice
  obtain ⟨la, _, lc, rfl, _⟩ := gl.slice
  have n1 := ok.2.1
  have n2 := gl.2.1
  have hu1 := ok.1
  have hu2 := gl.1
  refine GCall.vs (d1 := d) (L1 := hk :: hl :: hs) (by have := Vs.openL (d := d) (L0 := []) dj; simpa using this) ?_
  refine GCall_of hd (Nat.le_of_ble_eq_true rfl) ?_
  show gwp P _ _ _ _ _
  apply w_sq; apply w_reg
  refine w_boxa (l := [.int .i64 v.kind, .int .i64 v.m, .int .i64 v.e, strV v.text, .slice la v.list.length lc, .slice ka v.keys.length kc]) rfl (fun b1 T1 => ?_)
  (apply w_done0; apply w_sq; apply w_sq; apply w_reg; apply w_fld; rfl; apply w_ld; rfl; exact hc_i 0 rfl rfl; apply w_len; rfl; apply w_mvi; rfl; apply w_done0; apply w_block)
  refine w_loopS (α := Nat × List Value × PHeap) (fun x => [(1, .pointer (some ⟨b1, 0, none⟩)), (6, .int .i64 v.keys.length), (7, .int .i64 x.1)])
    (fun x d' L' => d' = d ∧ x.1 ≤ v.keys.length ∧ ORow 1 (.slice ka v.keys.length kc) v.keys.length x.2.1 x.2.2 ∧ L' = bx b1 T1 [.int .i64 v.kind, .int .i64 v.m, .int .i64 v.e, strV v.text, .slice la v.list.length lc, .slice ka v.keys.length kc] :: x.2.2 :: hl :: hs)
    (fun x => v.keys.length - x.1) (0, us, hk) ⟨rfl, rfl, rfl, trivial⟩ ⟨rfl, Nat.zero_le _, ok, rfl⟩ ?_
  rintro ⟨i, us', hk'⟩ ρ d' L' ⟨hdd, hi, ok', hL⟩
  simp only at hi ok' hL
  subst hdd; subst hL
  by_cases hc : i < v.keys.length
  · obtain ⟨gb, gT, gl', gc, e1, rfl, hml, hmg, hset⟩ := ok'.open1 hc
    cases e1
    (apply w_sq; apply w_reg; apply w_lss; rfl; rfl; apply w_done0; apply w_sq; refine w_ifdT rfl (by omega) ?_; apply w_skip; apply w_sq; apply w_block; apply w_sq; apply w_reg; apply w_mvi; rfl; apply w_mvi; rfl; apply w_done0; apply w_reg; apply w_fld; rfl; apply w_ld; rfl; exact hc_i 0 rfl rfl; apply w_mvi; rfl)
    refine w_idx1 i rfl rfl rfl hc ?_
    refine w_st 1 rfl rfl rfl rfl (by first | omega | (simp [Value.cells, strV]; omega)) rfl ?_
    (apply w_done0; apply w_reg; apply w_add; rfl; rfl; omega; omega; apply w_mvi; rfl; apply w_done0)
    exact ⟨(i + 1, us'.set i (strV [115, 112, 111, 105, 108, 116]), _), by simp only; omega, ⟨rfl, rfl, int_eq (by simp), trivial⟩, rfl, hc, hset _, rfl⟩
  obtain rfl : i = v.keys.length := by omega
  (apply w_sq; apply w_reg; apply w_lss; rfl; rfl; apply w_done0; apply w_sq; refine w_ifdF rfl (by omega) ?_; apply w_exit; apply w_sq; apply w_reg; apply w_fld; rfl; apply w_ld; rfl; exact hc_i 0 rfl rfl; apply w_len; rfl; apply w_mvi; rfl; apply w_done0; apply w_block)
  refine w_loopS (α := Nat × List Value × PHeap) (fun x => [(1, .pointer (some ⟨b1, 0, none⟩)), (17, .int .i64 v.list.length), (18, .int .i64 x.1)])
    (fun x dd L' => dd = d' ∧ x.1 ≤ v.list.length ∧ ORow 6 (.slice la v.list.length lc) v.list.length x.2.1 x.2.2 ∧ (∀ m, x.1 * 6 ≤ m → x.2.1[m]? = ccs[m]?) ∧ L' = [bx b1 T1 [.int .i64 v.kind, .int .i64 v.m, .int .i64 v.e, strV v.text, .slice la v.list.length lc, .slice ka v.keys.length kc], hk', x.2.2] ++ hs.drop x.1)
    (fun x => v.list.length - x.1) (0, ccs, hl) ⟨rfl, rfl, rfl, trivial⟩ ⟨rfl, Nat.zero_le _, gl, fun _ _ => rfl, rfl⟩ ?_
  rintro ⟨i, us2, hl'⟩ ρ d2 L' ⟨hdd, hi, ol', hsame, hL⟩
  simp only at hi ol' hsame hL
  subst hdd
  by_cases hc : i < v.list.length
  · have hih : i < hs.length := by omega
    rw [List.drop_eq_getElem_cons hih] at hL
    subst hL
    have hu3 := ol'.1
    obtain ⟨gb, gT, gl', gc, e1, rfl, hml, hmg, hset⟩ := orow_openN ol' (m := i * 6) (by omega)
    cases e1
    have hch : (gl'.drop (i * 6)).take 6 = chunk ccs i 6 := by
      apply List.ext_getElem?
      intro j
      by_cases hj : j < 6
      · rw [List.getElem?_take_of_lt hj, List.getElem?_drop, chunk, List.getElem?_take_of_lt hj, List.getElem?_drop, ← hsame (i * 6 + j) (by omega), ← hmg, List.getElem?_take_of_lt (by omega)]
      · rw [List.getElem?_eq_none (by simp; omega), List.getElem?_eq_none (by simp [chunk]; omega)]
    (apply w_sq; apply w_reg; apply w_lss; rfl; rfl; apply w_done0; apply w_sq; refine w_ifdT rfl (by omega) ?_; apply w_skip; apply w_sq; apply w_block; apply w_sq; apply w_reg; apply w_mvi; rfl; apply w_mvi; rfl; apply w_done0; apply w_sq; apply w_reg; apply w_fld; rfl; apply w_ld; rfl; exact hc_i 0 rfl rfl; apply w_mvi; rfl)
    refine w_idx (a := some ⟨gb, 0, none⟩) i rfl rfl rfl hc (SAd.some _ gb 0) ?_
    rw [Nat.zero_add (i * 6)]
    refine w_ldp 2 rfl rfl (Nat.ble_eq_true_of_le (by omega)) ?_
    rw [hch]
    refine w_vs _ (hs[i] :: ([bx b1 T1 [.int .i64 v.kind, .int .i64 v.m, .int .i64 v.e, strV v.text, .slice (some ⟨gb, 0, none⟩) v.list.length lc, .slice ka v.keys.length kc], hk', bx gb gT gl'] ++ hs.drop (i + 1)))
      (Vs.perm (List.perm_middle (l₁ := [bx b1 T1 [.int .i64 v.kind, .int .i64 v.m, .int .i64 v.e, strV v.text, .slice (some ⟨gb, 0, none⟩) v.list.length lc, .slice ka v.keys.length kc], hk', bx gb gT gl']))) ?_
    refine w_callA (A := [hs[i]]) (B := [bx b1 T1 [.int .i64 v.kind, .int .i64 v.m, .int .i64 v.e, strV v.text, .slice (some ⟨gb, 0, none⟩) v.list.length lc, .slice ka v.keys.length kc], hk', bx gb gT gl'] ++ hs.drop (i + 1)) rfl rfl (ih _ (List.getElem_mem hc) (by have := el i hc; rwa [show hs.getD i emp = hs[i] by simp [hih]] at this)) (fun r d3 L3 _ ⟨hdd, hL⟩ => ?_)
    subst hdd; subst hL
    (apply w_done0; apply w_reg; apply w_fld; rfl; apply w_ld; rfl; exact hc_i 0 rfl rfl; apply w_mvi; rfl)
    refine w_idx (a := some ⟨gb, 0, none⟩) i rfl rfl rfl hc (SAd.some _ gb 0) ?_
    rw [Nat.zero_add (i * 6)]
    (apply w_fld; rfl)
    refine w_st 2 rfl rfl rfl rfl (by first | omega | (simp [Value.cells]; omega)) rfl ?_
    (apply w_done0; apply w_reg; apply w_add; rfl; rfl; omega; omega; apply w_mvi; rfl; apply w_done0)
    refine ⟨(i + 1, us2.set (i * 6) (.int .i64 (-3)), _), by simp only; omega, ⟨rfl, rfl, int_eq (by simp), trivial⟩, rfl, hc, hset _, fun m hm => ?_, rfl⟩
    simp only at hm ⊢
    rw [List.getElem?_set_ne (by omega)]
    exact hsame m (by omega)
  · (apply w_sq; apply w_reg; apply w_lss; rfl; rfl; apply w_done0; apply w_sq; refine w_ifdF rfl (by omega) ?_; apply w_exit)
    exact finS [] trivial (List.nil_sublist _) ⟨rfl, rfl⟩

def GreatOk (P : Program) (f : FuncId) : Prop := ∀ {d : PHeap} {w u : Value} {l : List St} {vs : List V}, RSl 6 RSt d w l → RVals d u vs →
  GCall P f [w, u] d [] (Ret fun r d' L' => d' = d ∧ L' = [] ∧ ∃ b : Bool, r = .bool b ∧ (b = false → l.length ≤ 12 ∧ bulkV (.mk 0 0 0 [] vs []) ≤ 1000))
def g_thimblelaw08_great (f_thimbleref03_Bulk : Nat) : GFun :=
 ⟨14, [(.tmp 4)],
 (.seq
 (.reg false (.op false ⟨(some 4), none, (.mv (.const (.bool false)))⟩ .done))
 (.seq
 (.reg false (.op false ⟨(some 5), none, (.mv (.tmp 0))⟩
  (.op false ⟨(some 6), none, (.len (.tmp 5))⟩
  (.op false ⟨(some 7), none, (.bin .gtr (.tmp 6) (.const (.int .i64 12)))⟩
  (.op false ⟨(some 8), none, (.mv (.tmp 7))⟩
  (.op false ⟨(some 9), (some (8, false)), (.mv (.tmp 1))⟩
  (.op false ⟨(some 10), (some (8, false)), (.bld [(0, 1), (1, 2), (3, 1), (4, 1), (5, 1)] [(.int .i64 0), (.int .i64 0), (.int .i64 0), (strV []), (.slice none 0 0), (.slice none 0 0)] [(3, (.tmp 9))])⟩
  (.op false ⟨(some 11), (some (8, false)), (.call f_thimbleref03_Bulk [(.tmp 10), (.const (.int .i64 1000))])⟩
  (.op false ⟨(some 12), (some (8, false)), (.bin .gtr (.tmp 11) (.const (.int .i64 1000)))⟩
  (.op false ⟨(some 13), none, (.pick (.tmp 8) (.const (.bool true)) (.tmp 12))⟩
  (.op false ⟨(some 4), none, (.mv (.tmp 13))⟩ .done))))))))))) .ret))⟩

theorem great_ok {P : Program} {f f1 : FuncId} (hd : dec P f = some (g_thimblelaw08_great f1)) (h1 : BulkOk P f1) : GreatOk P f := by
  intro d w u l vs hw hu
  have n1 := RSl.len_le hw
  obtain ⟨a, c, rfl⟩ := RSl.val hw
  obtain ⟨a2, c2, rfl⟩ := RSl.val hu
  refine GCall_of hd (Nat.le_of_ble_eq_true rfl) ?_
  show gwp P _ _ _ _ _
  have hv : RVal d [.int .i64 0, .int .i64 0, .int .i64 0, strV [], .slice a2 vs.length c2, .slice none 0 0] (.mk 0 0 0 [] vs []) := RVal.close (v := .mk 0 0 0 [] vs []) i64_0 i64_0 i64_0 (by simp) hu RSl.nil
  by_cases q : 12 < l.length
  · (apply w_sq; apply w_reg; apply w_mvb; rfl; apply w_done0; apply w_sq; apply w_reg; apply w_mvs; rfl; apply w_len; rfl; apply w_gtr; rfl; rfl; apply w_mvb; rfl; refine w_gdT rfl (by omega) ?_; apply w_gF; rfl; apply w_gF; rfl; apply w_gF; rfl; apply w_gF; rfl; apply w_pickTb; rfl; rfl; apply w_mvb; rfl; apply w_done0; apply w_ret)
    exact fin1n rfl ⟨rfl, rfl, true, rfl, fun h => by cases h⟩
  · (apply w_sq; apply w_reg; apply w_mvb; rfl; apply w_done0; apply w_sq; apply w_reg; apply w_mvs; rfl; apply w_len; rfl; apply w_gtr; rfl; rfl; apply w_mvb; rfl; refine w_gdF rfl (by omega) ?_; apply w_gT; rfl; apply w_mvs; rfl; apply w_gT; rfl; apply w_bvL; rfl; apply w_gT; rfl)
    refine w_call0 rfl (h1 (.mk 0 0 0 [] vs []) (most := 1000) hv (by omega)) (fun r d3 L3 _ ⟨hdd, z, hr, hz1, hz2, hz3, hL⟩ => ?_)
    subst hdd; subst hr; subst hL
    by_cases q2 : 1000 < z
    · (apply w_gT; rfl; apply w_gtr; rfl; rfl; apply w_pickFb; rfl; rfl; apply w_mvb; rfl; apply w_done0; apply w_ret)
      exact fin1n rfl ⟨rfl, rfl, _, rfl, fun h => by simp [q2] at h⟩
    · (apply w_gT; rfl; apply w_gtr; rfl; rfl; apply w_pickFb; rfl; rfl; apply w_mvb; rfl; apply w_done0; apply w_ret)
      exact fin1n rfl ⟨rfl, rfl, _, rfl, fun _ => ⟨by omega, by have := hz3 (by omega); omega⟩⟩
end Go.Gk.Val
end

section
/-
  Steps that are built of some of their parts.
-/
namespace Go.Gk
open Go
section
variable {P : Program} {pan : List PanicEntry → Post} {Qn : Env → Post} {Ls L : List PHeap} {ρ : Env} {d : PHeap} {s : GS} {t : Nat} {tk : Bool}
theorem w_bstF {y : Operand} {l : List UInt8} (ey : ev ρ y = strV l) (h : gws P pan Qn s Ls (upd ρ t (.agg [.int .i64 0, strV l, .int .i64 0, .int .i64 0, .bool false, .bool false].toArray)) d L) :
    gws P pan Qn (.op tk ⟨some t, none, .bld [(0, 1), (1, 1), (2, 1), (3, 1), (4, 1), (5, 1)] [.int .i64 0, strV [], .int .i64 0, .int .i64 0, .bool false, .bool false] [(0, .const (.int .i64 0)), (1, y)]⟩ s) Ls ρ d L :=
  w_bld (cs := [.int .i64 0, strV l, .int .i64 0, .int .i64 0, .bool false, .bool false]) (by have e0 : ev ρ (.const (.int .i64 0)) = .int .i64 0 := rfl; simp [Instr.fill, e0, ey, Value.cells, strV]) h
theorem w_bstI {y : Operand} {a : Int} (ey : ev ρ y = .int .i64 a) (h : gws P pan Qn s Ls (upd ρ t (.agg [.int .i64 1, strV [], .int .i64 a, .int .i64 0, .bool false, .bool false].toArray)) d L) :
    gws P pan Qn (.op tk ⟨some t, none, .bld [(0, 1), (1, 1), (2, 1), (3, 1), (4, 1), (5, 1)] [.int .i64 0, strV [], .int .i64 0, .int .i64 0, .bool false, .bool false] [(0, .const (.int .i64 1)), (2, y)]⟩ s) Ls ρ d L :=
  w_bld (cs := [.int .i64 1, strV [], .int .i64 a, .int .i64 0, .bool false, .bool false]) (by have e0 : ev ρ (.const (.int .i64 1)) = .int .i64 1 := rfl; simp [Instr.fill, e0, ey, Value.cells, strV]) h
end
end Go.Gk
end

section
/-
  The laws of ways: steps; the example.
-/
namespace Go.Gk.Val
open Go Go.Gk Go.Gk.Utf
attribute [local irreducible] gwp gws

def FieldOk (P : Program) (f : FuncId) : Prop := ∀ {d : PHeap} {k : List UInt8}, GPure P f [strV k] d (.agg [.int .i64 0, strV k, .int .i64 0, .int .i64 0, .bool false, .bool false].toArray)
def g_thimblelaw08_field : GFun :=
 ⟨5, [(.cell 2 (some 6))],
 (.seq
 (.reg false (.op false ⟨(some 2), none, (.alo (.agg #[(.int .i64 0), (strV []), (.int .i64 0), (.int .i64 0), (.bool false), (.bool false)]))⟩ .done))
 (.seq
 (.reg false (.op false ⟨(some 3), none, (.mv (.tmp 0))⟩
  (.op false ⟨(some 4), none, (.bld [(0, 1), (1, 1), (2, 1), (3, 1), (4, 1), (5, 1)] [(.int .i64 0), (strV []), (.int .i64 0), (.int .i64 0), (.bool false), (.bool false)] [(0, (.const (.int .i64 0))), (1, (.tmp 3))])⟩
  (.op false ⟨none, none, (.st 6 (.tmp 2) (.tmp 4))⟩ .done)))) .ret))⟩

theorem field_ok {P : Program} {f : FuncId} (hd : dec P f = some g_thimblelaw08_field) : FieldOk P f := by
  intro d k
  refine GPure.of' hd (Nat.le_of_ble_eq_true rfl) ?_
  show gwp P _ _ _ _ _
  (apply w_sq; apply w_reg; apply w_alo; intro _ _; apply w_done0; apply w_sq; apply w_reg; apply w_mvt; rfl; apply w_bstF; rfl)
  refine w_stE 0 [.int .i64 0, strV k, .int .i64 0, .int .i64 0, .bool false, .bool false] rfl rfl rfl rfl (Nat.le_of_ble_eq_true rfl) rfl rfl ?_
  (apply w_done0; apply w_ret)
  exact finS (L' := []) [.agg [.int .i64 0, strV k, .int .i64 0, .int .i64 0, .bool false, .bool false].toArray] ⟨res_cell 0 rfl rfl rfl, trivial⟩ (List.nil_sublist _) ⟨rfl, rfl⟩
def IndexOk (P : Program) (f : FuncId) : Prop := ∀ {d : PHeap} {n : Int}, GPure P f [.int .i64 n] d (.agg [.int .i64 1, strV [], .int .i64 n, .int .i64 0, .bool false, .bool false].toArray)
def g_thimblelaw08_index : GFun :=
 ⟨5, [(.cell 2 (some 6))],
 (.seq
 (.reg false (.op false ⟨(some 2), none, (.alo (.agg #[(.int .i64 0), (strV []), (.int .i64 0), (.int .i64 0), (.bool false), (.bool false)]))⟩ .done))
 (.seq
 (.reg false (.op false ⟨(some 3), none, (.mv (.tmp 0))⟩
  (.op false ⟨(some 4), none, (.bld [(0, 1), (1, 1), (2, 1), (3, 1), (4, 1), (5, 1)] [(.int .i64 0), (strV []), (.int .i64 0), (.int .i64 0), (.bool false), (.bool false)] [(0, (.const (.int .i64 1))), (2, (.tmp 3))])⟩
  (.op false ⟨none, none, (.st 6 (.tmp 2) (.tmp 4))⟩ .done)))) .ret))⟩

theorem index_ok {P : Program} {f : FuncId} (hd : dec P f = some g_thimblelaw08_index) : IndexOk P f := by
  intro d n
  refine GPure.of' hd (Nat.le_of_ble_eq_true rfl) ?_
  show gwp P _ _ _ _ _
  (apply w_sq; apply w_reg; apply w_alo; intro _ _; apply w_done0; apply w_sq; apply w_reg; apply w_mvi; rfl; apply w_bstI; rfl)
  refine w_stE 0 [.int .i64 1, strV [], .int .i64 n, .int .i64 0, .bool false, .bool false] rfl rfl rfl rfl (Nat.le_of_ble_eq_true rfl) rfl rfl ?_
  (apply w_done0; apply w_ret)
  exact finS (L' := []) [.agg [.int .i64 1, strV [], .int .i64 n, .int .i64 0, .bool false, .bool false].toArray] ⟨res_cell 0 rfl rfl rfl, trivial⟩ (List.nil_sublist _) ⟨rfl, rfl⟩

/-! ### the example -/
def fieldS (k : List UInt8) : St := ⟨0, k, 0, 0, false, false⟩
def indexS (n : Int) : St := ⟨1, [], n, 0, false, false⟩
def trueV : V := .mk 2 0 0 [] [] []
def exV : V := .mk 6 0 0 [] [.mk 5 0 0 [] [V.zero, trueV] []] [[97]]
def exW : V := .mk 6 0 0 [] [.mk 5 0 0 [] [trueV] []] [[97]]
theorem ex_put : putTop V.zero [fieldS [97], indexS 1] trueV = (exV, 0) := by rfl
theorem ex_get : getF exV [fieldS [97], indexS (-1)] = (trueV, 0) := by rfl
theorem ex_drop : dropTop exV [fieldS [97], indexS 0] = (exW, 0) := by rfl
end Go.Gk.Val
end

section
/-
  Values, steps and lists of them as arguments.
-/
namespace Go.Gk.Val
open Go Go.Gk
section
variable {H : Type} {enc : TypeId × Value → H} {P : Program} {W : World}
/-- The types' numbers: of value, number, int64, int, string, []value, []string. -/
structure VTy (P : Program) (t tn t6 ti ts tl tk : TypeId) : Prop where
  fs : ∃ fs : Array Field, P.underlying t = some (.struct fs) ∧ (fs[0]?).map (fun f => (f.offset, f.type)) = some (0, ti) ∧ (fs[1]?).map (fun f => (f.offset, f.type)) = some (1, tn) ∧ (fs[2]?).map (fun f => (f.offset, f.type)) = some (3, ts) ∧
    (fs[3]?).map (fun f => (f.offset, f.type)) = some (4, tl) ∧ (fs[4]?).map (fun f => (f.offset, f.type)) = some (5, tk)
  ns : ∃ fs : Array Field, P.underlying tn = some (.struct fs) ∧ (fs[0]?).map (fun f => (f.offset, f.type)) = some (0, t6) ∧ (fs[1]?).map (fun f => (f.offset, f.type)) = some (1, ti)
  c : P.cellsOf t = 6
  cn : P.cellsOf tn = 2
  c6 : P.cellsOf t6 = 1
  ci : P.cellsOf ti = 1
  cs : P.cellsOf ts = 1
  cl : P.cellsOf tl = 1
  ck : P.cellsOf tk = 1
  u6 : P.underlying t6 = some (.int .i64)
  ui : P.underlying ti = some (.int .i64)
  us : P.underlying ts = some .string
  ul : P.underlying tl = some (.slice t)
  uk : P.underlying tk = some (.slice ts)
  b : 1 ≤ P.bytesOf t
  bs : 1 ≤ P.bytesOf ts
theorem rd_num {t t6 ti : TypeId} (hf : ∃ fs : Array Field, P.underlying t = some (.struct fs) ∧ (fs[0]?).map (fun f => (f.offset, f.type)) = some (0, t6) ∧ (fs[1]?).map (fun f => (f.offset, f.type)) = some (1, ti))
    (c : P.cellsOf t = 2) (c6 : P.cellsOf t6 = 1) (ci : P.cellsOf ti = 1) (u6 : P.underlying t6 = some (.int .i64)) (ui : P.underlying ti = some (.int .i64)) :
    Rd enc P W t (fun _ cs (x : Int × Int) => cs = [.int .i64 x.1, .int .i64 x.2] ∧ I64 x.1 ∧ I64 x.2) := by
  intro held fuel cs x h hw
  obtain ⟨fs, hu, f0, f1⟩ := hf
  obtain ⟨hl, hfs⟩ := rd_fields hu h hw
  obtain ⟨m, e0, hm⟩ := hfs 0 0 t6 1 f0 c6 (rd_int u6)
  obtain ⟨e, e1, he⟩ := hfs 1 1 ti 1 f1 ci (rd_int ui)
  obtain ⟨a0, a1, rfl⟩ := list2 (hl.trans c)
  simp only [List.drop, List.take, List.cons.injEq, and_true] at e0 e1
  subst e0; subst e1
  exact ⟨(m, e), rfl, hm, he⟩
theorem rd_val {t tn t6 ti ts tl tk : TypeId} (T : VTy P t tn t6 ti ts tl tk) : Rd enc P W t RVal := by
  intro held fuel
  show RdAt enc P W held fuel t RVal
  induction fuel using Nat.strongRecOn with
  | ind fuel ih =>
  intro cs x h hw
  obtain ⟨fs, hu, f0, f1, f2, f3, f4⟩ := T.fs
  obtain ⟨hl, hfs⟩ := rdAt_fields hu h hw
  obtain ⟨k, e0, hk⟩ := hfs 0 0 ti 1 f0 T.ci (fun n _ => (rd_int T.ui).at)
  obtain ⟨⟨m, e⟩, e1, hm, he⟩ := hfs 1 1 tn 2 f1 T.cn (fun n _ => (rd_num T.ns T.cn T.c6 T.ci T.u6 T.ui).at)
  obtain ⟨s, e2, hs⟩ := hfs 2 3 ts 1 f2 T.cs (fun n _ => (rd_str T.us).at)
  obtain ⟨l, lv, e3, hll⟩ := hfs 3 4 tl 1 f3 T.cl (fun n hn => rdAt_slice T.ul T.c (by omega) T.b (fun k hk => ih k (by omega)))
  obtain ⟨ks, kv, e4, hks⟩ := hfs 4 5 tk 1 f4 T.ck (fun n hn => rdAt_slice T.uk T.cs (by omega) T.bs (fun k hk => (rd_str T.us).at))
  obtain ⟨a0, a1, a2, a3, a4, a5, rfl⟩ := six (hl.trans T.c)
  simp only [List.drop, List.take, List.cons.injEq, and_true] at e0 e1 e2 e3 e4
  obtain ⟨e1, e1'⟩ := e1
  subst e0; subst e1; subst e1'; subst e2; subst e3; subst e4
  exact ⟨.mk k m e s l ks, RVal.close (v := .mk k m e s l ks) hk hm he hs hll hks⟩
/-- The types' numbers: of step, int, string, bool. -/
theorem rd_st {t ti ts tb : TypeId} (hf : ∃ fs : Array Field, P.underlying t = some (.struct fs) ∧ (fs[0]?).map (fun f => (f.offset, f.type)) = some (0, ti) ∧ (fs[1]?).map (fun f => (f.offset, f.type)) = some (1, ts) ∧ (fs[2]?).map (fun f => (f.offset, f.type)) = some (2, ti) ∧
      (fs[3]?).map (fun f => (f.offset, f.type)) = some (3, ti) ∧ (fs[4]?).map (fun f => (f.offset, f.type)) = some (4, tb) ∧ (fs[5]?).map (fun f => (f.offset, f.type)) = some (5, tb))
    (c : P.cellsOf t = 6) (ci : P.cellsOf ti = 1) (cs : P.cellsOf ts = 1) (cb : P.cellsOf tb = 1) (ui : P.underlying ti = some (.int .i64)) (us : P.underlying ts = some .string) (ub : P.underlying tb = some .bool) : Rd enc P W t RSt := by
  intro held fuel cs' x h hw
  obtain ⟨fs, hu, f0, f1, f2, f3, f4, f5⟩ := hf
  obtain ⟨hl, hfs⟩ := rd_fields hu h hw
  obtain ⟨k, e0, hk⟩ := hfs 0 0 ti 1 f0 ci (rd_int ui)
  obtain ⟨s, e1, hs⟩ := hfs 1 1 ts 1 f1 cs (rd_str us)
  obtain ⟨a, e2, ha⟩ := hfs 2 2 ti 1 f2 ci (rd_int ui)
  obtain ⟨b, e3, hb⟩ := hfs 3 3 ti 1 f3 ci (rd_int ui)
  obtain ⟨p, e4⟩ := hfs 4 4 tb 1 f4 cb (rd_bool ub)
  obtain ⟨q, e5⟩ := hfs 5 5 tb 1 f5 cb (rd_bool ub)
  obtain ⟨a0, a1, a2, a3, a4, a5, rfl⟩ := six (hl.trans c)
  simp only [List.drop, List.take, List.cons.injEq, and_true] at e0 e1 e2 e3 e4 e5
  subst e0; subst e1; subst e2; subst e3; subst e4; subst e5
  exact ⟨⟨k, s, a, b, p, q⟩, rfl, hk, hs, ha, hb⟩
end
end Go.Gk.Val
end

section
/-
  Two steps as a literal.
-/
namespace Go.Gk.Val
open Go Go.Gk
section
variable {P : Program} {pan : List PanicEntry → Post} {Qn : Env → Post} {Ls L : List PHeap} {ρ : Env} {d : PHeap} {s : GS} {t : Nat} {tk : Bool}
def stL (s : St) : List Value := [.int .i64 s.kind, strV s.text, .int .i64 s.src, .int .i64 s.dst, .bool s.hf, .bool s.ht]
theorem w_bsS2 {x y : Operand} {a b : St} (ex : ev ρ x = .agg (stL a).toArray) (ey : ev ρ y = .agg (stL b).toArray) (h : ∀ q T, gws P pan Qn s Ls (upd ρ t (.slice (some ⟨q, 0, none⟩) 2 2)) d (bx q T (stL a ++ stL b) :: L)) :
    gws P pan Qn (.op false ⟨some t, none, .bsl 2 6 [.int .i64 0, strV [], .int .i64 0, .int .i64 0, .bool false, .bool false] [(0, x), (1, y)]⟩ s) Ls ρ d L := by
  refine w_bsl (by omega) ?_ h
  simp [Instr.fill, zrow, List.range, List.range.loop, ex, ey, Value.cells, stL]
end
def okS (s : St) : Prop := I64 s.kind ∧ s.text.length ≤ 140737488355328 ∧ I64 s.src ∧ I64 s.dst
theorem rsl_st2 {d : PHeap} {b : Nat} {T : TypeId} {s1 s2 : St} (h1 : okS s1) (h2 : okS s2) (h : Le (bx b T (stL s1 ++ stL s2)) d) : RSl 6 RSt d (.slice (some ⟨b, 0, none⟩) 2 2) [s1, s2] := by
  have o : ORow 6 (.slice (some ⟨b, 0, none⟩) 2 2) 2 (stL s1 ++ stL s2) (bx b T (stL s1 ++ stL s2)) := ORow.lit rfl (by omega)
  refine o.rsl (R := RSt) h rfl (by omega) (fun i hi => ?_)
  have hi2 : i < 2 := hi
  obtain rfl | rfl : i = 0 ∨ i = 1 := by omega
  · exact ⟨rfl, h1⟩
  · exact ⟨rfl, h2⟩
end Go.Gk.Val
end

section
/-
  The laws of ways: the example works.
-/
namespace Go.Gk.Val
open Go Go.Gk Go.Gk.Utf
attribute [local irreducible] gwp gws

def WorksOk (T : PHeap → Prop) (P : Program) (f : FuncId) : Prop := ∀ {d : PHeap}, T d → GPure P f [] d (.bool true)
def g_thimblelaw08_works (f_thimblelaw08_field f_thimblelaw08_index f_steps_Put f_steps_Get f_steps_Drop : Nat) : GFun :=
 ⟨82, [(.tmp 0)],
 (.seq
 (.reg false (.op false ⟨(some 0), none, (.mv (.const (.bool false)))⟩ .done))
 (.seq
 (.reg false (.op false ⟨(some 8), none, (.bld [(0, 1), (1, 2), (3, 1), (4, 1), (5, 1)] [(.int .i64 0), (.int .i64 0), (.int .i64 0), (strV []), (.slice none 0 0), (.slice none 0 0)] [])⟩
  (.op false ⟨(some 9), none, (.call f_thimblelaw08_field [(.const (strV [97]))])⟩
  (.op false ⟨(some 10), none, (.call f_thimblelaw08_index [(.const (.int .i64 1))])⟩
  (.op false ⟨(some 11), none, (.bsl 2 6 [(.int .i64 0), (strV []), (.int .i64 0), (.int .i64 0), (.bool false), (.bool false)] [(0, (.tmp 9)), (1, (.tmp 10))])⟩
  (.op false ⟨(some 12), none, (.bld [(0, 1), (1, 2), (3, 1), (4, 1), (5, 1)] [(.int .i64 0), (.int .i64 0), (.int .i64 0), (strV []), (.slice none 0 0), (.slice none 0 0)] [(0, (.const (.int .i64 2)))])⟩
  (.op false ⟨(some 13), none, (.call f_steps_Put [(.tmp 8), (.tmp 11), (.tmp 12)])⟩
  (.op false ⟨(some 7), none, (.mv (.tmp 13))⟩
  (.op false ⟨(some 14), none, (.ext (.tmp 7) 0)⟩
  (.op false ⟨(some 15), none, (.ext (.tmp 7) 1)⟩
  (.op false ⟨(some 1), none, (.alo (.agg #[(.int .i64 0), (.int .i64 0), (.int .i64 0), (strV []), (.slice none 0 0), (.slice none 0 0)]))⟩
  (.op false ⟨none, none, (.st 6 (.tmp 1) (.tmp 14))⟩
  (.op false ⟨(some 2), none, (.mv (.tmp 15))⟩ .done)))))))))))))
 (.seq
 (.reg true (.op true ⟨(some 17), none, (.ld (some 6) (.tmp 1))⟩
  (.alt ⟨(some 18), none, (.call f_thimblelaw08_field [(.const (strV [97]))])⟩
  (.alt ⟨(some 19), none, (.call f_thimblelaw08_index [(.const (.int .i64 (-1)))])⟩
  (.alt ⟨(some 20), none, (.bsl 2 6 [(.int .i64 0), (strV []), (.int .i64 0), (.int .i64 0), (.bool false), (.bool false)] [(0, (.tmp 18)), (1, (.tmp 19))])⟩
  (.alt ⟨(some 21), none, (.call f_steps_Get [(.tmp 17), (.tmp 20)])⟩
  (.op true ⟨(some 16), none, (.mv (.tmp 21))⟩
  (.op true ⟨(some 22), none, (.ext (.tmp 16) 0)⟩
  (.op true ⟨(some 23), none, (.ext (.tmp 16) 1)⟩
  (.op false ⟨(some 3), none, (.alo (.agg #[(.int .i64 0), (.int .i64 0), (.int .i64 0), (strV []), (.slice none 0 0), (.slice none 0 0)]))⟩
  (.op false ⟨none, none, (.st 6 (.tmp 3) (.tmp 22))⟩
  (.op true ⟨(some 4), none, (.mv (.tmp 23))⟩ .done)))))) (.op false ⟨(some 3), none, (.alo (.agg #[(.int .i64 0), (.int .i64 0), (.int .i64 0), (strV []), (.slice none 0 0), (.slice none 0 0)]))⟩
  (.op false ⟨(some 21), none, (.call f_steps_Get [(.tmp 17), (.tmp 20)])⟩
  (.op true ⟨(some 16), none, (.mv (.tmp 21))⟩
  (.op true ⟨(some 22), none, (.ext (.tmp 16) 0)⟩
  (.op true ⟨(some 23), none, (.ext (.tmp 16) 1)⟩
  (.op false ⟨none, none, (.st 6 (.tmp 3) (.tmp 22))⟩
  (.op true ⟨(some 4), none, (.mv (.tmp 23))⟩ .done)))))))) (.op false ⟨(some 3), none, (.alo (.agg #[(.int .i64 0), (.int .i64 0), (.int .i64 0), (strV []), (.slice none 0 0), (.slice none 0 0)]))⟩
  (.op false ⟨(some 20), none, (.bsl 2 6 [(.int .i64 0), (strV []), (.int .i64 0), (.int .i64 0), (.bool false), (.bool false)] [(0, (.tmp 18)), (1, (.tmp 19))])⟩
  (.op false ⟨(some 21), none, (.call f_steps_Get [(.tmp 17), (.tmp 20)])⟩
  (.op true ⟨(some 16), none, (.mv (.tmp 21))⟩
  (.op true ⟨(some 22), none, (.ext (.tmp 16) 0)⟩
  (.op true ⟨(some 23), none, (.ext (.tmp 16) 1)⟩
  (.op false ⟨none, none, (.st 6 (.tmp 3) (.tmp 22))⟩
  (.op true ⟨(some 4), none, (.mv (.tmp 23))⟩ .done))))))))) (.op false ⟨(some 3), none, (.alo (.agg #[(.int .i64 0), (.int .i64 0), (.int .i64 0), (strV []), (.slice none 0 0), (.slice none 0 0)]))⟩
  (.op false ⟨(some 19), none, (.call f_thimblelaw08_index [(.const (.int .i64 (-1)))])⟩
  (.op false ⟨(some 20), none, (.bsl 2 6 [(.int .i64 0), (strV []), (.int .i64 0), (.int .i64 0), (.bool false), (.bool false)] [(0, (.tmp 18)), (1, (.tmp 19))])⟩
  (.op false ⟨(some 21), none, (.call f_steps_Get [(.tmp 17), (.tmp 20)])⟩
  (.op true ⟨(some 16), none, (.mv (.tmp 21))⟩
  (.op true ⟨(some 22), none, (.ext (.tmp 16) 0)⟩
  (.op true ⟨(some 23), none, (.ext (.tmp 16) 1)⟩
  (.op false ⟨none, none, (.st 6 (.tmp 3) (.tmp 22))⟩
  (.op true ⟨(some 4), none, (.mv (.tmp 23))⟩ .done)))))))))) (.op false ⟨(some 3), none, (.alo (.agg #[(.int .i64 0), (.int .i64 0), (.int .i64 0), (strV []), (.slice none 0 0), (.slice none 0 0)]))⟩
  (.op false ⟨(some 18), none, (.call f_thimblelaw08_field [(.const (strV [97]))])⟩
  (.op false ⟨(some 19), none, (.call f_thimblelaw08_index [(.const (.int .i64 (-1)))])⟩
  (.op false ⟨(some 20), none, (.bsl 2 6 [(.int .i64 0), (strV []), (.int .i64 0), (.int .i64 0), (.bool false), (.bool false)] [(0, (.tmp 18)), (1, (.tmp 19))])⟩
  (.op false ⟨(some 21), none, (.call f_steps_Get [(.tmp 17), (.tmp 20)])⟩
  (.op true ⟨(some 16), none, (.mv (.tmp 21))⟩
  (.op true ⟨(some 22), none, (.ext (.tmp 16) 0)⟩
  (.op true ⟨(some 23), none, (.ext (.tmp 16) 1)⟩
  (.op false ⟨none, none, (.st 6 (.tmp 3) (.tmp 22))⟩
  (.op true ⟨(some 4), none, (.mv (.tmp 23))⟩ .done)))))))))))))
 (.seq
 (.reg true (.op true ⟨(some 25), none, (.ld (some 6) (.tmp 1))⟩
  (.alt ⟨(some 26), none, (.call f_thimblelaw08_field [(.const (strV [97]))])⟩
  (.alt ⟨(some 27), none, (.call f_thimblelaw08_index [(.const (.int .i64 0))])⟩
  (.alt ⟨(some 28), none, (.bsl 2 6 [(.int .i64 0), (strV []), (.int .i64 0), (.int .i64 0), (.bool false), (.bool false)] [(0, (.tmp 26)), (1, (.tmp 27))])⟩
  (.alt ⟨(some 29), none, (.call f_steps_Drop [(.tmp 25), (.tmp 28)])⟩
  (.op true ⟨(some 24), none, (.mv (.tmp 29))⟩
  (.op true ⟨(some 30), none, (.ext (.tmp 24) 0)⟩
  (.op true ⟨(some 31), none, (.ext (.tmp 24) 1)⟩
  (.op false ⟨(some 5), none, (.alo (.agg #[(.int .i64 0), (.int .i64 0), (.int .i64 0), (strV []), (.slice none 0 0), (.slice none 0 0)]))⟩
  (.op false ⟨none, none, (.st 6 (.tmp 5) (.tmp 30))⟩
  (.op true ⟨(some 6), none, (.mv (.tmp 31))⟩ .done)))))) (.op false ⟨(some 5), none, (.alo (.agg #[(.int .i64 0), (.int .i64 0), (.int .i64 0), (strV []), (.slice none 0 0), (.slice none 0 0)]))⟩
  (.op false ⟨(some 29), none, (.call f_steps_Drop [(.tmp 25), (.tmp 28)])⟩
  (.op true ⟨(some 24), none, (.mv (.tmp 29))⟩
  (.op true ⟨(some 30), none, (.ext (.tmp 24) 0)⟩
  (.op true ⟨(some 31), none, (.ext (.tmp 24) 1)⟩
  (.op false ⟨none, none, (.st 6 (.tmp 5) (.tmp 30))⟩
  (.op true ⟨(some 6), none, (.mv (.tmp 31))⟩ .done)))))))) (.op false ⟨(some 5), none, (.alo (.agg #[(.int .i64 0), (.int .i64 0), (.int .i64 0), (strV []), (.slice none 0 0), (.slice none 0 0)]))⟩
  (.op false ⟨(some 28), none, (.bsl 2 6 [(.int .i64 0), (strV []), (.int .i64 0), (.int .i64 0), (.bool false), (.bool false)] [(0, (.tmp 26)), (1, (.tmp 27))])⟩
  (.op false ⟨(some 29), none, (.call f_steps_Drop [(.tmp 25), (.tmp 28)])⟩
  (.op true ⟨(some 24), none, (.mv (.tmp 29))⟩
  (.op true ⟨(some 30), none, (.ext (.tmp 24) 0)⟩
  (.op true ⟨(some 31), none, (.ext (.tmp 24) 1)⟩
  (.op false ⟨none, none, (.st 6 (.tmp 5) (.tmp 30))⟩
  (.op true ⟨(some 6), none, (.mv (.tmp 31))⟩ .done))))))))) (.op false ⟨(some 5), none, (.alo (.agg #[(.int .i64 0), (.int .i64 0), (.int .i64 0), (strV []), (.slice none 0 0), (.slice none 0 0)]))⟩
  (.op false ⟨(some 27), none, (.call f_thimblelaw08_index [(.const (.int .i64 0))])⟩
  (.op false ⟨(some 28), none, (.bsl 2 6 [(.int .i64 0), (strV []), (.int .i64 0), (.int .i64 0), (.bool false), (.bool false)] [(0, (.tmp 26)), (1, (.tmp 27))])⟩
  (.op false ⟨(some 29), none, (.call f_steps_Drop [(.tmp 25), (.tmp 28)])⟩
  (.op true ⟨(some 24), none, (.mv (.tmp 29))⟩
  (.op true ⟨(some 30), none, (.ext (.tmp 24) 0)⟩
  (.op true ⟨(some 31), none, (.ext (.tmp 24) 1)⟩
  (.op false ⟨none, none, (.st 6 (.tmp 5) (.tmp 30))⟩
  (.op true ⟨(some 6), none, (.mv (.tmp 31))⟩ .done)))))))))) (.op false ⟨(some 5), none, (.alo (.agg #[(.int .i64 0), (.int .i64 0), (.int .i64 0), (strV []), (.slice none 0 0), (.slice none 0 0)]))⟩
  (.op false ⟨(some 26), none, (.call f_thimblelaw08_field [(.const (strV [97]))])⟩
  (.op false ⟨(some 27), none, (.call f_thimblelaw08_index [(.const (.int .i64 0))])⟩
  (.op false ⟨(some 28), none, (.bsl 2 6 [(.int .i64 0), (strV []), (.int .i64 0), (.int .i64 0), (.bool false), (.bool false)] [(0, (.tmp 26)), (1, (.tmp 27))])⟩
  (.op false ⟨(some 29), none, (.call f_steps_Drop [(.tmp 25), (.tmp 28)])⟩
  (.op true ⟨(some 24), none, (.mv (.tmp 29))⟩
  (.op true ⟨(some 30), none, (.ext (.tmp 24) 0)⟩
  (.op true ⟨(some 31), none, (.ext (.tmp 24) 1)⟩
  (.op false ⟨none, none, (.st 6 (.tmp 5) (.tmp 30))⟩
  (.op true ⟨(some 6), none, (.mv (.tmp 31))⟩ .done)))))))))))))
 (.seq
 (.reg false (.op false ⟨(some 32), none, (.mv (.tmp 2))⟩
  (.op false ⟨(some 33), none, (.bin .eql (.tmp 32) (.const (.int .i64 0)))⟩
  (.op false ⟨(some 34), none, (.mv (.tmp 33))⟩
  (.op false ⟨(some 35), (some (34, true)), (.fld 0 (.tmp 1))⟩
  (.op false ⟨(some 36), (some (34, true)), (.ld none (.tmp 35))⟩
  (.op false ⟨(some 37), (some (34, true)), (.bin .eql (.tmp 36) (.const (.int .i64 6)))⟩
  (.op false ⟨(some 38), none, (.pick (.tmp 34) (.tmp 37) (.const (.bool false)))⟩
  (.op false ⟨(some 39), none, (.mv (.tmp 38))⟩
  (.op false ⟨(some 40), (some (39, true)), (.fld 4 (.tmp 1))⟩
  (.op false ⟨(some 41), (some (39, true)), (.ld none (.tmp 40))⟩
  (.op false ⟨(some 42), (some (39, true)), (.len (.tmp 41))⟩
  (.op false ⟨(some 43), (some (39, true)), (.bin .eql (.tmp 42) (.const (.int .i64 1)))⟩
  (.op false ⟨(some 44), none, (.pick (.tmp 39) (.tmp 43) (.const (.bool false)))⟩
  (.op false ⟨(some 45), none, (.mv (.tmp 44))⟩
  (.op false ⟨(some 46), (some (45, true)), (.fld 4 (.tmp 1))⟩
  (.op false ⟨(some 47), (some (45, true)), (.ld none (.tmp 46))⟩
  (.op false ⟨(some 48), (some (45, true)), (.idx 6 (.tmp 47) (.const (.int .i64 0)))⟩
  (.op false ⟨(some 49), (some (45, true)), (.fld 4 (.tmp 48))⟩
  (.op false ⟨(some 50), (some (45, true)), (.ld none (.tmp 49))⟩
  (.op false ⟨(some 51), (some (45, true)), (.len (.tmp 50))⟩
  (.op false ⟨(some 52), (some (45, true)), (.bin .eql (.tmp 51) (.const (.int .i64 2)))⟩
  (.op false ⟨(some 53), none, (.pick (.tmp 45) (.tmp 52) (.const (.bool false)))⟩
  (.op false ⟨(some 54), none, (.mv (.tmp 53))⟩
  (.op false ⟨(some 55), (some (54, true)), (.mv (.tmp 4))⟩
  (.op false ⟨(some 56), (some (54, true)), (.bin .eql (.tmp 55) (.const (.int .i64 0)))⟩
  (.op false ⟨(some 57), none, (.pick (.tmp 54) (.tmp 56) (.const (.bool false)))⟩
  (.op false ⟨(some 58), none, (.mv (.tmp 57))⟩
  (.op false ⟨(some 59), (some (58, true)), (.fld 0 (.tmp 3))⟩
  (.op false ⟨(some 60), (some (58, true)), (.ld none (.tmp 59))⟩
  (.op false ⟨(some 61), (some (58, true)), (.bin .eql (.tmp 60) (.const (.int .i64 2)))⟩
  (.op false ⟨(some 62), none, (.pick (.tmp 58) (.tmp 61) (.const (.bool false)))⟩
  (.op false ⟨(some 63), none, (.mv (.tmp 62))⟩
  (.op false ⟨(some 64), (some (63, true)), (.mv (.tmp 6))⟩
  (.op false ⟨(some 65), (some (63, true)), (.bin .eql (.tmp 64) (.const (.int .i64 0)))⟩
  (.op false ⟨(some 66), none, (.pick (.tmp 63) (.tmp 65) (.const (.bool false)))⟩
  (.op false ⟨(some 67), none, (.mv (.tmp 66))⟩
  (.op false ⟨(some 68), (some (67, true)), (.fld 4 (.tmp 5))⟩
  (.op false ⟨(some 69), (some (67, true)), (.ld none (.tmp 68))⟩
  (.op false ⟨(some 70), (some (67, true)), (.len (.tmp 69))⟩
  (.op false ⟨(some 71), (some (67, true)), (.bin .eql (.tmp 70) (.const (.int .i64 1)))⟩
  (.op false ⟨(some 72), none, (.pick (.tmp 67) (.tmp 71) (.const (.bool false)))⟩
  (.op false ⟨(some 73), none, (.mv (.tmp 72))⟩
  (.op false ⟨(some 74), (some (73, true)), (.fld 4 (.tmp 5))⟩
  (.op false ⟨(some 75), (some (73, true)), (.ld none (.tmp 74))⟩
  (.op false ⟨(some 76), (some (73, true)), (.idx 6 (.tmp 75) (.const (.int .i64 0)))⟩
  (.op false ⟨(some 77), (some (73, true)), (.fld 4 (.tmp 76))⟩
  (.op false ⟨(some 78), (some (73, true)), (.ld none (.tmp 77))⟩
  (.op false ⟨(some 79), (some (73, true)), (.len (.tmp 78))⟩
  (.op false ⟨(some 80), (some (73, true)), (.bin .eql (.tmp 79) (.const (.int .i64 1)))⟩
  (.op false ⟨(some 81), none, (.pick (.tmp 73) (.tmp 80) (.const (.bool false)))⟩
  (.op false ⟨(some 0), none, (.mv (.tmp 81))⟩ .done)))))))))))))))))))))))))))))))))))))))))))))))))))) .ret)))))⟩

set_option maxHeartbeats 2000000 in
theorem works_ok {T : PHeap → Prop} {P : Program} {f f1 f2 f3 f4 f5 : FuncId} (hT : ∀ {d d' : PHeap}, Le d d' → T d → T d') (hd : dec P f = some (g_thimblelaw08_works f1 f2 f3 f4 f5)) (hF : FieldOk P f1) (hI : IndexOk P f2) (hP : PutOk T P f3) (hG : GetOk T P f4) (hD : DropOk T P f5) : WorksOk T P f := by
  intro d ht
  have ok1 : okS (fieldS [97]) := ⟨i64_0, by decide, i64_0, i64_0⟩
  have okp : okS (indexS 1) := ⟨⟨by decide, by decide⟩, by decide, ⟨by decide, by decide⟩, i64_0⟩
  have okm : okS (indexS (-1)) := ⟨⟨by decide, by decide⟩, by decide, ⟨by decide, by decide⟩, i64_0⟩
  have ok0 : okS (indexS 0) := ⟨⟨by decide, by decide⟩, by decide, i64_0, i64_0⟩
  refine GPure.of' hd (Nat.le_of_ble_eq_true rfl) ?_
  show gwp P _ _ _ _ _
  (apply w_sq; apply w_reg; apply w_mvb; rfl; apply w_done0; apply w_sq; apply w_reg; apply w_bvZ)
  refine w_pure rfl hF ?_
  refine w_pure rfl hI ?_
  refine w_bsS2 (a := fieldS [97]) (b := indexS 1) rfl rfl (fun b11 T11 => ?_)
  refine w_frz (fun d1 hl1 hg1 => ?_)
  (apply w_bvK; rfl)
  have htv : RVal d1 [.int .i64 2, .int .i64 0, .int .i64 0, strV [], .slice none 0 0, .slice none 0 0] trueV := RVal.close (v := trueV) ⟨by decide, by decide⟩ i64_0 i64_0 (by decide) RSl.nil RSl.nil
  refine w_call0 rfl (hP (hT hl1 ht) RVal.zero (rsl_st2 ok1 okp hg1) htv (by decide) (by decide) (by decide)) (fun r d4 L4 _ ⟨hdd, cs', g, hr, hL, ho⟩ => ?_)
  subst hdd; subst hL
  rw [ex_put] at hr ho
  subst hr
  refine w_frz (fun d2 hl2 hg2 => ?_)
  have hv := ho.rval hg2
  have ht2 : T d2 := hT (hl1.trans hl2) ht
  obtain ⟨lv, kv, rfl, _, _, _, _, hvl, _⟩ := hv.open
  obtain ⟨la, lc, rfl⟩ := RSl.val hvl
  (apply w_mvu; rfl; apply w_ext; rfl; rfl; apply w_ext; rfl; rfl; apply w_alo; intro _ _)
  rename_i b1 T1
  refine w_stE 0 [.int .i64 exV.kind, .int .i64 exV.m, .int .i64 exV.e, strV exV.text, .slice la exV.list.length lc, kv] rfl rfl rfl rfl (Nat.le_of_ble_eq_true rfl) (cell1_val _ _ _ hv) rfl ?_
  (apply w_mvi; rfl; apply w_done0)
  refine w_mid (fun ρ d' L' => Le d2 d' ∧ ∃ b3 T3 y1 y2 y3 y4 y5, SlotsAre ρ [(1, .pointer (some ⟨b1, 0, none⟩)), (2, .int .i64 0), (3, .pointer (some ⟨b3, 0, none⟩)), (4, .int .i64 0)] ∧
    L' = [bx b1 T1 [.int .i64 exV.kind, .int .i64 exV.m, .int .i64 exV.e, strV exV.text, .slice la exV.list.length lc, kv], bx b3 T3 [.int .i64 2, y1, y2, y3, y4, y5]]) ?_ ?_
  · refine w_drawn ?_
    (apply w_ldb 0; rfl; rfl; rfl)
    refine w_alt ?_ ?_
    · refine w_pure rfl hF ?_
      refine w_alt ?_ ?_
      · refine w_pure rfl hI ?_
        refine w_alt ?_ ?_
        · refine w_bsS2 (a := fieldS [97]) (b := indexS (-1)) rfl rfl (fun b20 T20 => ?_)
          refine w_alt ?_ ?_
          · refine w_frz (fun d3 hl3 hg3 => ?_)
            refine w_call0 rfl (hG (hT hl3 ht2) (RVal.mono hl3 hv) (rsl_st2 ok1 okm hg3) (by decide)) (fun r d4 L4 _ ⟨hdd, cs', g, hr, hL, ho⟩ => ?_)
            subst hdd; subst hL
            rw [ex_get] at hr ho
            subst hr
            obtain ⟨lv, kv, _, _, _, _, rfl, _⟩ := ho.open
            (apply w_mvu; rfl; apply w_ext; rfl; rfl; apply w_ext; rfl; rfl; apply w_alo; intro _ _)
            rename_i b3 T3
            refine w_vs _ [g, bx b3 T3 [.int .i64 0, .int .i64 0, .int .i64 0, strV [], .slice none 0 0, .slice none 0 0]] (Vs.perm (List.Perm.swap _ _ _)) ?_
            refine w_frz (fun d5 hl5 hg5 => ?_)
            refine w_stE 0 [.int .i64 _, .int .i64 _, .int .i64 _, strV _, lv, kv] rfl rfl rfl rfl (Nat.le_of_ble_eq_true rfl) ho.cells.2 rfl ?_
            (apply w_mvi; rfl; apply w_done)
            exact ⟨hl3.trans hl5, b3, T3, _, _, _, _, _, ⟨rfl, rfl, rfl, rfl, trivial⟩, rfl⟩
          · refine w_frz (fun d3 hl3 hg3 => ?_)
            (apply w_alo; intro _ _)
            rename_i b3 T3
            refine w_call0 rfl (hG (hT hl3 ht2) (RVal.mono hl3 hv) (rsl_st2 ok1 okm hg3) (by decide)) (fun r d4 L4 _ ⟨hdd, cs', g, hr, hL, ho⟩ => ?_)
            subst hdd; subst hL
            rw [ex_get] at hr ho
            subst hr
            obtain ⟨lv, kv, _, _, _, _, rfl, _⟩ := ho.open
            (apply w_mvu; rfl; apply w_ext; rfl; rfl; apply w_ext; rfl; rfl)
            refine w_frz (fun d5 hl5 hg5 => ?_)
            refine w_stE 0 [.int .i64 _, .int .i64 _, .int .i64 _, strV _, lv, kv] rfl rfl rfl rfl (Nat.le_of_ble_eq_true rfl) ho.cells.2 rfl ?_
            (apply w_mvi; rfl; apply w_done)
            exact ⟨hl3.trans hl5, b3, T3, _, _, _, _, _, ⟨rfl, rfl, rfl, rfl, trivial⟩, rfl⟩
        · (apply w_alo; intro _ _)
          rename_i b3 T3
          refine w_bsS2 (a := fieldS [97]) (b := indexS (-1)) rfl rfl (fun b20 T20 => ?_)
          refine w_frz (fun d3 hl3 hg3 => ?_)
          refine w_call0 rfl (hG (hT hl3 ht2) (RVal.mono hl3 hv) (rsl_st2 ok1 okm hg3) (by decide)) (fun r d4 L4 _ ⟨hdd, cs', g, hr, hL, ho⟩ => ?_)
          subst hdd; subst hL
          rw [ex_get] at hr ho
          subst hr
          obtain ⟨lv, kv, _, _, _, _, rfl, _⟩ := ho.open
          (apply w_mvu; rfl; apply w_ext; rfl; rfl; apply w_ext; rfl; rfl)
          refine w_frz (fun d5 hl5 hg5 => ?_)
          refine w_stE 0 [.int .i64 _, .int .i64 _, .int .i64 _, strV _, lv, kv] rfl rfl rfl rfl (Nat.le_of_ble_eq_true rfl) ho.cells.2 rfl ?_
          (apply w_mvi; rfl; apply w_done)
          exact ⟨hl3.trans hl5, b3, T3, _, _, _, _, _, ⟨rfl, rfl, rfl, rfl, trivial⟩, rfl⟩
      · (apply w_alo; intro _ _)
        rename_i b3 T3
        refine w_pure rfl hI ?_
        refine w_bsS2 (a := fieldS [97]) (b := indexS (-1)) rfl rfl (fun b20 T20 => ?_)
        refine w_frz (fun d3 hl3 hg3 => ?_)
        refine w_call0 rfl (hG (hT hl3 ht2) (RVal.mono hl3 hv) (rsl_st2 ok1 okm hg3) (by decide)) (fun r d4 L4 _ ⟨hdd, cs', g, hr, hL, ho⟩ => ?_)
        subst hdd; subst hL
        rw [ex_get] at hr ho
        subst hr
        obtain ⟨lv, kv, _, _, _, _, rfl, _⟩ := ho.open
        (apply w_mvu; rfl; apply w_ext; rfl; rfl; apply w_ext; rfl; rfl)
        refine w_frz (fun d5 hl5 hg5 => ?_)
        refine w_stE 0 [.int .i64 _, .int .i64 _, .int .i64 _, strV _, lv, kv] rfl rfl rfl rfl (Nat.le_of_ble_eq_true rfl) ho.cells.2 rfl ?_
        (apply w_mvi; rfl; apply w_done)
        exact ⟨hl3.trans hl5, b3, T3, _, _, _, _, _, ⟨rfl, rfl, rfl, rfl, trivial⟩, rfl⟩
    · (apply w_alo; intro _ _)
      rename_i b3 T3
      refine w_pure rfl hF ?_
      refine w_pure rfl hI ?_
      refine w_bsS2 (a := fieldS [97]) (b := indexS (-1)) rfl rfl (fun b20 T20 => ?_)
      refine w_frz (fun d3 hl3 hg3 => ?_)
      refine w_call0 rfl (hG (hT hl3 ht2) (RVal.mono hl3 hv) (rsl_st2 ok1 okm hg3) (by decide)) (fun r d4 L4 _ ⟨hdd, cs', g, hr, hL, ho⟩ => ?_)
      subst hdd; subst hL
      rw [ex_get] at hr ho
      subst hr
      obtain ⟨lv, kv, _, _, _, _, rfl, _⟩ := ho.open
      (apply w_mvu; rfl; apply w_ext; rfl; rfl; apply w_ext; rfl; rfl)
      refine w_frz (fun d5 hl5 hg5 => ?_)
      refine w_stE 0 [.int .i64 _, .int .i64 _, .int .i64 _, strV _, lv, kv] rfl rfl rfl rfl (Nat.le_of_ble_eq_true rfl) ho.cells.2 rfl ?_
      (apply w_mvi; rfl; apply w_done)
      exact ⟨hl3.trans hl5, b3, T3, _, _, _, _, _, ⟨rfl, rfl, rfl, rfl, trivial⟩, rfl⟩
  rintro ρ d3 L' ⟨hle, b3, T3, y1, y2, y3, y4, y5, hsl, hL⟩
  subst hL
  refine gwp_slots _ hsl ?_
  clear hsl
  have ht3 : T d3 := hT hle ht2
  refine w_mid (fun ρ d' L' => Le d3 d' ∧ ∃ b5 T5 cs5, SlotsAre ρ [(1, .pointer (some ⟨b1, 0, none⟩)), (2, .int .i64 0), (3, .pointer (some ⟨b3, 0, none⟩)), (4, .int .i64 0), (5, .pointer (some ⟨b5, 0, none⟩)), (6, .int .i64 0)] ∧ RVal d' cs5 exW ∧
    L' = [bx b1 T1 [.int .i64 exV.kind, .int .i64 exV.m, .int .i64 exV.e, strV exV.text, .slice la exV.list.length lc, kv], bx b3 T3 [.int .i64 2, y1, y2, y3, y4, y5], bx b5 T5 cs5]) ?_ ?_
  · refine w_drawn ?_
    (apply w_ldb 0; rfl; rfl; rfl)
    refine w_alt ?_ ?_
    · refine w_pure rfl hF ?_
      refine w_alt ?_ ?_
      · refine w_pure rfl hI ?_
        refine w_alt ?_ ?_
        · refine w_bsS2 (a := fieldS [97]) (b := indexS 0) rfl rfl (fun b20 T20 => ?_)
          refine w_alt ?_ ?_
          · refine w_frz (fun d3 hl3 hg3 => ?_)
            refine w_call0 rfl (hD (hT hl3 ht3) (RVal.mono (hle.trans hl3) hv) (rsl_st2 ok1 ok0 hg3) (by decide) (by decide)) (fun r d4 L4 _ ⟨hdd, cs', g, hr, hL, ho⟩ => ?_)
            subst hdd; subst hL
            rw [ex_drop] at hr ho
            subst hr
            obtain ⟨lv, kv, _, _, _, _, rfl, _⟩ := ho.open
            (apply w_mvu; rfl; apply w_ext; rfl; rfl; apply w_ext; rfl; rfl; apply w_alo; intro _ _)
            rename_i b5 T5
            refine w_vs _ [g, bx b5 T5 [.int .i64 0, .int .i64 0, .int .i64 0, strV [], .slice none 0 0, .slice none 0 0]] (Vs.perm (List.Perm.swap _ _ _)) ?_
            refine w_frz (fun d5 hl5 hg5 => ?_)
            refine w_stE 0 [.int .i64 _, .int .i64 _, .int .i64 _, strV _, lv, kv] rfl rfl rfl rfl (Nat.le_of_ble_eq_true rfl) ho.cells.2 rfl ?_
            (apply w_mvi; rfl; apply w_done)
            exact ⟨hl3.trans hl5, b5, T5, _, ⟨rfl, rfl, rfl, rfl, rfl, rfl, trivial⟩, ho.rval hg5, rfl⟩
          · refine w_frz (fun d3 hl3 hg3 => ?_)
            (apply w_alo; intro _ _)
            rename_i b5 T5
            refine w_call0 rfl (hD (hT hl3 ht3) (RVal.mono (hle.trans hl3) hv) (rsl_st2 ok1 ok0 hg3) (by decide) (by decide)) (fun r d4 L4 _ ⟨hdd, cs', g, hr, hL, ho⟩ => ?_)
            subst hdd; subst hL
            rw [ex_drop] at hr ho
            subst hr
            obtain ⟨lv, kv, _, _, _, _, rfl, _⟩ := ho.open
            (apply w_mvu; rfl; apply w_ext; rfl; rfl; apply w_ext; rfl; rfl)
            refine w_frz (fun d5 hl5 hg5 => ?_)
            refine w_stE 0 [.int .i64 _, .int .i64 _, .int .i64 _, strV _, lv, kv] rfl rfl rfl rfl (Nat.le_of_ble_eq_true rfl) ho.cells.2 rfl ?_
            (apply w_mvi; rfl; apply w_done)
            exact ⟨hl3.trans hl5, b5, T5, _, ⟨rfl, rfl, rfl, rfl, rfl, rfl, trivial⟩, ho.rval hg5, rfl⟩
        · (apply w_alo; intro _ _)
          rename_i b5 T5
          refine w_bsS2 (a := fieldS [97]) (b := indexS 0) rfl rfl (fun b20 T20 => ?_)
          refine w_frz (fun d3 hl3 hg3 => ?_)
          refine w_call0 rfl (hD (hT hl3 ht3) (RVal.mono (hle.trans hl3) hv) (rsl_st2 ok1 ok0 hg3) (by decide) (by decide)) (fun r d4 L4 _ ⟨hdd, cs', g, hr, hL, ho⟩ => ?_)
          subst hdd; subst hL
          rw [ex_drop] at hr ho
          subst hr
          obtain ⟨lv, kv, _, _, _, _, rfl, _⟩ := ho.open
          (apply w_mvu; rfl; apply w_ext; rfl; rfl; apply w_ext; rfl; rfl)
          refine w_frz (fun d5 hl5 hg5 => ?_)
          refine w_stE 0 [.int .i64 _, .int .i64 _, .int .i64 _, strV _, lv, kv] rfl rfl rfl rfl (Nat.le_of_ble_eq_true rfl) ho.cells.2 rfl ?_
          (apply w_mvi; rfl; apply w_done)
          exact ⟨hl3.trans hl5, b5, T5, _, ⟨rfl, rfl, rfl, rfl, rfl, rfl, trivial⟩, ho.rval hg5, rfl⟩
      · (apply w_alo; intro _ _)
        rename_i b5 T5
        refine w_pure rfl hI ?_
        refine w_bsS2 (a := fieldS [97]) (b := indexS 0) rfl rfl (fun b20 T20 => ?_)
        refine w_frz (fun d3 hl3 hg3 => ?_)
        refine w_call0 rfl (hD (hT hl3 ht3) (RVal.mono (hle.trans hl3) hv) (rsl_st2 ok1 ok0 hg3) (by decide) (by decide)) (fun r d4 L4 _ ⟨hdd, cs', g, hr, hL, ho⟩ => ?_)
        subst hdd; subst hL
        rw [ex_drop] at hr ho
        subst hr
        obtain ⟨lv, kv, _, _, _, _, rfl, _⟩ := ho.open
        (apply w_mvu; rfl; apply w_ext; rfl; rfl; apply w_ext; rfl; rfl)
        refine w_frz (fun d5 hl5 hg5 => ?_)
        refine w_stE 0 [.int .i64 _, .int .i64 _, .int .i64 _, strV _, lv, kv] rfl rfl rfl rfl (Nat.le_of_ble_eq_true rfl) ho.cells.2 rfl ?_
        (apply w_mvi; rfl; apply w_done)
        exact ⟨hl3.trans hl5, b5, T5, _, ⟨rfl, rfl, rfl, rfl, rfl, rfl, trivial⟩, ho.rval hg5, rfl⟩
    · (apply w_alo; intro _ _)
      rename_i b5 T5
      refine w_pure rfl hF ?_
      refine w_pure rfl hI ?_
      refine w_bsS2 (a := fieldS [97]) (b := indexS 0) rfl rfl (fun b20 T20 => ?_)
      refine w_frz (fun d3 hl3 hg3 => ?_)
      refine w_call0 rfl (hD (hT hl3 ht3) (RVal.mono (hle.trans hl3) hv) (rsl_st2 ok1 ok0 hg3) (by decide) (by decide)) (fun r d4 L4 _ ⟨hdd, cs', g, hr, hL, ho⟩ => ?_)
      subst hdd; subst hL
      rw [ex_drop] at hr ho
      subst hr
      obtain ⟨lv, kv, _, _, _, _, rfl, _⟩ := ho.open
      (apply w_mvu; rfl; apply w_ext; rfl; rfl; apply w_ext; rfl; rfl)
      refine w_frz (fun d5 hl5 hg5 => ?_)
      refine w_stE 0 [.int .i64 _, .int .i64 _, .int .i64 _, strV _, lv, kv] rfl rfl rfl rfl (Nat.le_of_ble_eq_true rfl) ho.cells.2 rfl ?_
      (apply w_mvi; rfl; apply w_done)
      exact ⟨hl3.trans hl5, b5, T5, _, ⟨rfl, rfl, rfl, rfl, rfl, rfl, trivial⟩, ho.rval hg5, rfl⟩
  rintro ρ d6 L' ⟨hle2, b5, T5, cs5, hsl, hw, hL⟩
  subst hL
  refine gwp_slots _ hsl ?_
  clear hsl
  obtain ⟨wl, wk, rfl, _, _, _, _, hwl, _⟩ := hw.open
  obtain ⟨wa, wc, rfl⟩ := RSl.val hwl
  have hv' := RVals.mono hvl (hle.trans hle2)
  have q1 : RSl 6 RVal d6 (.slice la exV.list.length lc) exV.list := hv'
  have q2 : RSl 6 RVal d6 (.slice wa exW.list.length wc) exW.list := hwl
  have f1' : (exV.list.length : Int) = 1 := rfl
  have f2' : (exW.list.length : Int) = 1 := rfl
  have f3' : exV.kind = 6 := rfl
  (apply w_sq; apply w_reg; apply w_mvi; rfl; apply w_eql; rfl; rfl; apply w_mvb; rfl; refine w_gdT rfl (by omega) ?_; apply w_gT; rfl; apply w_fld; rfl; apply w_gT; rfl; apply w_ld; rfl; exact hc_i 0 rfl rfl; apply w_gT; rfl; apply w_eql; rfl; rfl; apply w_pickTb; rfl; rfl; apply w_mvb; rfl; refine w_gdT rfl (by omega) ?_; apply w_gT; rfl; apply w_fld; rfl; apply w_gT; rfl; apply w_ld; rfl; exact hc_i 0 rfl rfl; apply w_gT; rfl; apply w_len; rfl; apply w_gT; rfl; apply w_eql; rfl; rfl; apply w_pickTb; rfl; rfl; apply w_mvb; rfl; refine w_gdT rfl (by omega) ?_; apply w_gT; rfl; apply w_fld; rfl; apply w_gT; rfl; apply w_ld; rfl; exact hc_i 0 rfl rfl; apply w_gT; rfl; refine w_idxR (m := 0) (sz := 6) (R := RVal) (by rfl) (by assumption) (by rfl) rfl (by omega) ?_; rintro _ _ _ _ _ _; apply w_gT; rfl; apply w_fld; rfl; apply w_gT; rfl)
  rename_i cs hcs hD hR
  obtain ⟨xl, xk, rfl, _, _, _, _, hxl, _⟩ := hR.open
  obtain ⟨xa, xc, rfl⟩ := RSl.val hxl
  have f4' : ((exV.list[0]'(by decide)).list.length : Int) = 2 := rfl
  (apply w_ld; rfl; exact hc_ds (by assumption) rfl; apply w_gT; rfl; apply w_len; rfl; apply w_gT; rfl; apply w_eql; rfl; rfl; apply w_pickTb; rfl; rfl; apply w_mvb; rfl; refine w_gdT rfl (by omega) ?_; apply w_gT; rfl; apply w_mvi; rfl; apply w_gT; rfl; apply w_eql; rfl; rfl; apply w_pickTb; rfl; rfl; apply w_mvb; rfl; refine w_gdT rfl (by omega) ?_; apply w_gT; rfl; apply w_fld; rfl; apply w_gT; rfl; apply w_ld; rfl; exact hc_i 1 rfl rfl; apply w_gT; rfl; apply w_eql; rfl; rfl; apply w_pickTb; rfl; rfl; apply w_mvb; rfl; refine w_gdT rfl (by omega) ?_; apply w_gT; rfl; apply w_mvi; rfl; apply w_gT; rfl; apply w_eql; rfl; rfl; apply w_pickTb; rfl; rfl; apply w_mvb; rfl; refine w_gdT rfl (by omega) ?_; apply w_gT; rfl; apply w_fld; rfl; apply w_gT; rfl; apply w_ld; rfl; exact hc_i 2 rfl rfl; apply w_gT; rfl; apply w_len; rfl; apply w_gT; rfl; apply w_eql; rfl; rfl; apply w_pickTb; rfl; rfl; apply w_mvb; rfl; refine w_gdT rfl (by omega) ?_; apply w_gT; rfl; apply w_fld; rfl; apply w_gT; rfl; apply w_ld; rfl; exact hc_i 2 rfl rfl; apply w_gT; rfl; refine w_idxR (m := 0) (sz := 6) (R := RVal) (by rfl) (by assumption) (by rfl) rfl (by omega) ?_; rintro _ _ _ _ _ _; apply w_gT; rfl; apply w_fld; rfl; apply w_gT; rfl)
  rename_i cs hcs hD hR
  obtain ⟨zl, zk, rfl, _, _, _, _, hzl, _⟩ := hR.open
  obtain ⟨za, zc, rfl⟩ := RSl.val hzl
  have f5' : ((exW.list[0]'(by decide)).list.length : Int) = 1 := rfl
  (apply w_ld; rfl; exact hc_ds (by assumption) rfl; apply w_gT; rfl; apply w_len; rfl; apply w_gT; rfl; apply w_eql; rfl; rfl; apply w_pickTb; rfl; rfl; apply w_mvb; rfl; apply w_done0; apply w_ret)
  apply finQb; rfl
  simp [f5']
end Go.Gk.Val
end

section
/-
  The laws of ways: StepsGet.
-/
namespace Go.Gk.Val
open Go Go.Gk Go.Gk.Utf
attribute [local irreducible] gwp gws

def g_thimblelaw08_StepsGet (f_thimblelaw08_great f_thimblelaw08_works f_thimbleref03_Copy f_steps_Get f_thimbleref08_Get f_thimbleref03_Same f_thimblelaw08_spoil : Nat) : GFun :=
 ⟨48, [(.tmp 4)],
 (.seq
 (.reg false (.op false ⟨(some 2), none, (.box (.tmp 0))⟩
  (.op false ⟨(some 4), none, (.mv (.const (.bool false)))⟩ .done)))
 (.seq (.seq
 (.reg false (.op false ⟨(some 10), none, (.mv (.tmp 1))⟩
  (.op false ⟨(some 11), none, (.ld (some 6) (.tmp 2))⟩
  (.op false ⟨(some 12), none, (.bsl 1 6 [(.int .i64 0), (.int .i64 0), (.int .i64 0), (strV []), (.slice none 0 0), (.slice none 0 0)] [(0, (.tmp 11))])⟩
  (.op false ⟨(some 13), none, (.call f_thimblelaw08_great [(.tmp 10), (.tmp 12)])⟩ .done))))) (.cond (.tmp 13)
 (.seq
 (.reg false (.op false ⟨(some 14), none, (.call f_thimblelaw08_works [])⟩
  (.op false ⟨(some 4), none, (.mv (.tmp 14))⟩ .done))) .ret) .skip))
 (.seq
 (.reg false (.op false ⟨(some 15), none, (.ld (some 6) (.tmp 2))⟩
  (.op false ⟨(some 16), none, (.call f_thimbleref03_Copy [(.tmp 15)])⟩
  (.op false ⟨(some 5), none, (.alo (.agg #[(.int .i64 0), (.int .i64 0), (.int .i64 0), (strV []), (.slice none 0 0), (.slice none 0 0)]))⟩
  (.op false ⟨none, none, (.st 6 (.tmp 5) (.tmp 16))⟩ .done)))))
 (.seq
 (.reg false (.op false ⟨(some 18), none, (.ld (some 6) (.tmp 5))⟩
  (.op false ⟨(some 19), none, (.mv (.tmp 1))⟩
  (.op false ⟨(some 20), none, (.call f_steps_Get [(.tmp 18), (.tmp 19)])⟩
  (.op false ⟨(some 17), none, (.mv (.tmp 20))⟩
  (.op false ⟨(some 21), none, (.ext (.tmp 17) 0)⟩
  (.op false ⟨(some 22), none, (.ext (.tmp 17) 1)⟩
  (.op false ⟨(some 6), none, (.alo (.agg #[(.int .i64 0), (.int .i64 0), (.int .i64 0), (strV []), (.slice none 0 0), (.slice none 0 0)]))⟩
  (.op false ⟨none, none, (.st 6 (.tmp 6) (.tmp 21))⟩
  (.op false ⟨(some 7), none, (.mv (.tmp 22))⟩ .done))))))))))
 (.seq
 (.reg false (.op false ⟨(some 24), none, (.ld (some 6) (.tmp 2))⟩
  (.op false ⟨(some 25), none, (.mv (.tmp 1))⟩
  (.op false ⟨(some 26), none, (.call f_thimbleref08_Get [(.tmp 24), (.tmp 25)])⟩
  (.op false ⟨(some 23), none, (.mv (.tmp 26))⟩
  (.op false ⟨(some 27), none, (.ext (.tmp 23) 0)⟩
  (.op false ⟨(some 28), none, (.ext (.tmp 23) 1)⟩
  (.op false ⟨(some 8), none, (.alo (.agg #[(.int .i64 0), (.int .i64 0), (.int .i64 0), (strV []), (.slice none 0 0), (.slice none 0 0)]))⟩
  (.op false ⟨none, none, (.st 6 (.tmp 8) (.tmp 27))⟩
  (.op false ⟨(some 9), none, (.mv (.tmp 28))⟩ .done))))))))))
 (.seq (.seq
 (.reg false (.op false ⟨(some 29), none, (.ld (some 6) (.tmp 6))⟩
  (.op false ⟨(some 30), none, (.ld (some 6) (.tmp 8))⟩
  (.op false ⟨(some 31), none, (.call f_thimbleref03_Same [(.tmp 29), (.tmp 30)])⟩
  (.op false ⟨(some 32), none, (.un .not (.tmp 31))⟩
  (.op false ⟨(some 33), none, (.mv (.tmp 32))⟩
  (.op false ⟨(some 34), (some (33, false)), (.mv (.tmp 7))⟩
  (.op false ⟨(some 35), (some (33, false)), (.mv (.tmp 9))⟩
  (.op false ⟨(some 36), (some (33, false)), (.bin .neq (.tmp 34) (.tmp 35))⟩
  (.op false ⟨(some 37), none, (.pick (.tmp 33) (.const (.bool true)) (.tmp 36))⟩ .done)))))))))) (.cond (.tmp 37)
 (.seq
 (.reg false (.op false ⟨(some 4), none, (.mv (.const (.bool false)))⟩ .done)) .ret) .skip))
 (.seq
 (.reg false (.op false ⟨(some 38), none, (.ld (some 6) (.tmp 6))⟩
  (.op false ⟨(some 39), none, (.call f_thimblelaw08_spoil [(.tmp 38)])⟩ .done)))
 (.seq
 (.reg false (.op false ⟨(some 40), none, (.ld (some 6) (.tmp 5))⟩
  (.op false ⟨(some 41), none, (.ld (some 6) (.tmp 2))⟩
  (.op false ⟨(some 42), none, (.call f_thimbleref03_Same [(.tmp 40), (.tmp 41)])⟩
  (.op false ⟨(some 43), none, (.mv (.tmp 42))⟩
  (.op false ⟨(some 44), none, (.pick (.tmp 43) (.const (.bool true)) (.const (.bool false)))⟩
  (.op false ⟨(some 45), none, (.mv (.tmp 44))⟩
  (.op false ⟨(some 46), (some (45, true)), (.call f_thimblelaw08_works [])⟩
  (.op false ⟨(some 47), none, (.pick (.tmp 45) (.tmp 46) (.const (.bool false)))⟩
  (.op false ⟨(some 4), none, (.mv (.tmp 47))⟩ .done)))))))))) .ret))))))))⟩

set_option maxHeartbeats 2000000 in
theorem stepsGet_ok {T : PHeap → Prop} {P : Program} {f f1 f2 f3 f4 f5 f6 f7 : FuncId} (hT : ∀ {d d' : PHeap}, Le d d' → T d → T d') (hd : dec P f = some (g_thimblelaw08_StepsGet f1 f2 f3 f4 f5 f6 f7)) (h1 : GreatOk P f1) (h2 : WorksOk T P f2) (h3 : RCopyOk P f3) (h4 : GetOk T P f4) (h5 : RGetOk T P f5) (h6 : SameOk P f6) (h7 : SpoilVOk P f7)
    {d : PHeap} {cs : List Value} {w : Value} {v : V} {l : List St} (ht : T d) (hv : RVal d cs v) (hw : RSl 6 RSt d w l) : GPure P f [.agg cs.toArray, w] d (.bool true) := by
  obtain ⟨a, c, rfl⟩ := RSl.val hw
  obtain ⟨c0, c1, c2, c3, c4, c5, rfl⟩ := six hv.len
  refine GPure.of' hd (Nat.le_of_ble_eq_true rfl) ?_
  show gwp P _ _ _ _ _
  apply w_sq; apply w_reg
  refine w_boxa (l := [c0, c1, c2, c3, c4, c5]) rfl (fun b2 T2 => ?_)
  (apply w_mvb; rfl; apply w_done0; apply w_sq; apply w_sq; apply w_reg; apply w_mvs; rfl; apply w_ldb 0; rfl; rfl; rfl)
  refine w_bsV rfl rfl (fun b12 T12 => ?_)
  refine w_frz (fun d1 hl1 hg1 => ?_)
  have hv1 := RVal.mono hl1 hv
  have hw1 : RSl 6 RSt d1 (.slice a l.length c) l := RSl.mono (R := RSt) (fun hl h => h) hw hl1
  have hvs : RVals d1 (.slice (some ⟨b12, 0, none⟩) 1 1) [v] := (GRow.lit1 (sz := 6) (R := RVal) rfl hv).rsl (R := RVal) mono_val (by omega) hl1 hg1
  refine w_call0 rfl (h1 hw1 hvs) (fun r d3 L3 _ ⟨hdd, hL, b, hr, hb⟩ => ?_)
  subst hdd; subst hL; subst hr
  cases b with
  | true =>
    (apply w_done0; apply w_ifT; rfl; apply w_sq; apply w_reg)
    refine w_pure rfl (h2 (hT hl1 ht)) ?_
    (apply w_mvb; rfl; apply w_done0; apply w_ret)
    exact finQ rfl
  | false =>
  obtain ⟨hll, hbv⟩ := hb rfl
  have hbv : bulkV v ≤ 1000 := by
    have e : bulkV (.mk 0 0 0 [] [v] []) = 1 + 0 + 0 + (bulkV v + 0) := rfl
    omega
  have hcb := cnt_bulk v
  have htx := txt_bulk v
  (apply w_done0; apply w_ifF; rfl; apply w_skip; apply w_sq; apply w_reg; apply w_ldb 0; rfl; rfl; rfl)
  refine w_call0 rfl (h3 v hv1 (by omega)) (fun r d2 L2 hl2 ⟨hL, cs2, hr, hR2⟩ => ?_)
  subst hL; subst hr
  obtain ⟨o0, o1, o2, o3, o4, o5, rfl⟩ := six hR2.len
  have hv2 := RVal.mono hl2 hv1
  have hw2 : RSl 6 RSt d2 (.slice a l.length c) l := RSl.mono (R := RSt) (fun hl h => h) hw1 hl2
  have ht2 : T d2 := hT (hl1.trans hl2) ht
  (apply w_alo; intro _ _)
  rename_i b5 T5
  refine w_stE 0 [o0, o1, o2, o3, o4, o5] rfl rfl rfl rfl (Nat.le_of_ble_eq_true rfl) (cell1_val _ _ _ hR2) rfl ?_
  (apply w_done0; apply w_sq; apply w_reg; apply w_ldb 0; rfl; rfl; rfl; apply w_mvs; rfl)
  refine w_call0 rfl (h4 ht2 hR2 hw2 (by omega)) (fun r d4 L4 _ ⟨hdd, cs6, g, hr, hL, ho⟩ => ?_)
  subst hdd; subst hL; subst hr
  obtain ⟨g0, g1, g2, g3, g4, g5, rfl⟩ := six ho.cells.1
  (apply w_mvu; rfl; apply w_ext; rfl; rfl; apply w_ext; rfl; rfl; apply w_alo; intro _ _)
  rename_i b6 T6
  refine w_stE 0 [g0, g1, g2, g3, g4, g5] rfl rfl rfl rfl (Nat.le_of_ble_eq_true rfl) ho.cells.2 rfl ?_
  (apply w_mvi; rfl; apply w_done0; apply w_sq; apply w_reg; apply w_ldb 3; rfl; rfl; rfl; apply w_mvs; rfl)
  refine w_call0 rfl (h5 ht2 hv2 hw2 (by omega)) (fun r d5 L5 _ ⟨hdd, hL, cs8, hr, hR8⟩ => ?_)
  subst hdd; subst hL; subst hr
  obtain ⟨e0, e1, e2, e3, e4, e5, rfl⟩ := six hR8.len
  (apply w_mvu; rfl; apply w_ext; rfl; rfl; apply w_ext; rfl; rfl; apply w_alo; intro _ _)
  rename_i b8 T8
  refine w_stE 0 [e0, e1, e2, e3, e4, e5] rfl rfl rfl rfl (Nat.le_of_ble_eq_true rfl) (cell1_val _ _ _ hR8) rfl ?_
  have hs1 : sameV (getF v l).1 (getF v l).1 = true := (sameV_iff _ _).2 rfl
  have hs2 : sameV v v = true := (sameV_iff _ _).2 rfl
  have hne : ¬ ((getF v l).2 ≠ (getF v l).2) := by simp
  (apply w_mvi; rfl; apply w_done0; apply w_sq; apply w_sq; apply w_reg; apply w_ldb 1; rfl; rfl; rfl; apply w_ldb 0; rfl; rfl; rfl)
  refine w_pureB rfl (fun d6 hl6 hk6 => h6 _ _ (ho.rval (hk6 g (by simp))) (RVal.mono hl6 hR8)) ?_
  rw [hs1]
  (apply w_not; rfl; apply w_mvb; rfl; apply w_gT; rfl; apply w_mvi; rfl; apply w_gT; rfl; apply w_mvi; rfl; apply w_gT; rfl; apply w_neq; rfl; rfl; apply w_pickFb; rfl; rfl; apply w_done0; refine w_ifdF rfl (by omega) ?_; apply w_skip; apply w_sq; apply w_reg; apply w_ldb 1; rfl; rfl; rfl)
  refine w_vs _ [g, bx b8 T8 [e0, e1, e2, e3, e4, e5], bx b6 T6 [g0, g1, g2, g3, g4, g5], bx b5 T5 [o0, o1, o2, o3, o4, o5], bx b2 T2 [c0, c1, c2, c3, c4, c5]] (Vs.pick [2, 0, 1, 3, 4] rfl) ?_
  refine w_callA (A := [g]) (B := [bx b8 T8 [e0, e1, e2, e3, e4, e5], bx b6 T6 [g0, g1, g2, g3, g4, g5], bx b5 T5 [o0, o1, o2, o3, o4, o5], bx b2 T2 [c0, c1, c2, c3, c4, c5]]) rfl rfl (h7 _ ho) (fun r d6 L6 _ ⟨hdd, hL⟩ => ?_)
  subst hdd; subst hL
  (apply w_done0; apply w_sq; apply w_reg; apply w_ldb 2; rfl; rfl; rfl; apply w_ldb 3; rfl; rfl; rfl)
  refine w_pure rfl (h6 v v hR2 hv2) ?_
  rw [hs2]
  (apply w_mvb; rfl; apply w_pickTb; rfl; rfl; apply w_mvb; rfl; apply w_gT; rfl)
  refine w_pure rfl (h2 ht2) ?_
  (apply w_pickTb; rfl; rfl; apply w_mvb; rfl; apply w_done0; apply w_ret)
  exact finQ rfl
end Go.Gk.Val
end

section
/-
  The laws of ways, plain: what was dropped by keys is gone.
-/
namespace Go.Gk.Val
open Go Go.Gk

theorem keyed_mem {v : V} (h1 : oneB v = true) (h6 : v.kind = 6) {k : List UInt8} (hk : k ∈ v.keys) (y : V) : keyedF v k y = .mk 6 0 0 [] (v.list.set (lowK v.keys k) y) v.keys := by
  have hr := one_rising h1
  obtain ⟨hlo, he⟩ := (mem_iff hr).1 hk
  have hl := one_keys h1 h6
  have e1 : v.list.set (lowK v.keys k) y = v.list.take (lowK v.keys k) ++ [y] ++ v.list.drop (lowK v.keys k + 1) := by
    rw [List.set_eq_take_append_cons_drop, if_pos (by omega)]; simp
  have e2 : v.keys.take (lowK v.keys k) ++ [k] ++ v.keys.drop (lowK v.keys k + 1) = v.keys := by
    have : v.keys.set (lowK v.keys k) k = v.keys := by
      apply List.ext_getElem?
      intro i
      rw [List.getElem?_set]
      split
      · rename_i e
        subst e
        rw [List.getElem?_eq_getElem hlo, he]
      · rfl
    rw [List.set_eq_take_append_cons_drop, if_pos hlo] at this
    simpa using this
  simp only [keyedF, toK, if_pos hk, e1, e2]
theorem one_set {v : V} (h1 : oneB v = true) (h6 : v.kind = 6) (i : Nat) (y : V) : oneB (.mk 6 0 0 [] (v.list.set i y) v.keys) = true := by
  have hr := one_rising h1
  have hl := one_keys h1 h6
  simp [oneB, bareB, V.kind, V.m, V.e, V.text, V.list, V.keys, numRight, u8, Lib.validD_nil]
  exact ⟨hr, hl⟩
theorem may_set {v : V} (h : mayV v = true) (h6 : v.kind = 6) (i : Nat) {y : V} (hy : mayV y = true) : mayV (.mk 6 0 0 [] (v.list.set i y) v.keys) = true := by
  rw [mayV_eq, Bool.and_eq_true, List.all_eq_true] at h ⊢
  refine ⟨one_set h.1 h6 i y, fun x hx => ?_⟩
  rcases List.mem_or_eq_of_mem_set hx with hx | rfl
  · exact h.2 x hx
  · exact hy
theorem depth_set {v : V} {N : Nat} (h : depthV v ≤ N) (i : Nat) {y : V} (hy : depthV y + 1 ≤ N) (ks : List (List UInt8)) : depthV (.mk 6 0 0 [] (v.list.set i y) ks) ≤ N := by
  obtain ⟨n, rfl⟩ : ∃ n, N = n + 1 := ⟨N - 1, by omega⟩
  rw [depth_le] at h ⊢
  intro x hx
  rcases List.mem_or_eq_of_mem_set hx with hx | rfl
  · exact h x hx
  · omega
theorem walk_null : ∀ (l : List St) (v : V), v.kind = 0 → (walkF v l).2 = 0 ∧ (walkF v l).1.kind = 0
  | [], v, h => ⟨rfl, h⟩
  | s :: l, v, h => by
    have e : intoF v s = (V.zero, 0) := by rw [intoF, if_pos h]
    rw [walkF, e, if_neg (by simp)]
    exact walk_null l V.zero rfl

/-! ### rising keys -/
theorem riseN_iff {ks : List (List UInt8)} : ∀ {m : Nat}, riseN ks m = true ↔ ∀ i, i < m → rise1 ks i = true
  | 0 => by simp [riseN]
  | m + 1 => by
    rw [riseN, Bool.and_eq_true, riseN_iff]
    constructor
    · rintro ⟨h1, h2⟩ i hi
      rcases Nat.lt_succ_iff_lt_or_eq.1 hi with h | rfl
      · exact h1 i h
      · exact h2
    · intro h
      exact ⟨fun i hi => h i (by omega), h m (by omega)⟩
abbrev Rise (ks : List (List UInt8)) : Prop := ks.Pairwise fun a b => Op.bytesLess a b = true
theorem rising_iff {ks : List (List UInt8)} : rising ks = true ↔ (∀ k ∈ ks, u8 k = true) ∧ Rise ks := by
  constructor
  · intro h
    refine ⟨fun k hk => ?_, ?_⟩
    · obtain ⟨i, hi, rfl⟩ := List.getElem_of_mem hk
      have := riseN_iff.1 h i hi
      rw [rise1, Bool.and_eq_true] at this
      simpa [List.getD, hi] using this.1
    · rw [Rise, List.pairwise_iff_getElem]
      intro i j hi hj hij
      exact rise_lt h hj hij
  · rintro ⟨h1, h2⟩
    rw [Rise, List.pairwise_iff_getElem] at h2
    refine riseN_iff.2 fun i hi => ?_
    rw [rise1, Bool.and_eq_true]
    refine ⟨by simpa [List.getD, hi] using h1 _ (List.getElem_mem hi), ?_⟩
    cases i with
    | zero => rfl
    | succ i =>
      have := h2 i (i + 1) (by omega) hi (by omega)
      have hi' : i < ks.length := by omega
      simpa [List.getD, hi, hi'] using this
theorem rising_sub {ks ls : List (List UInt8)} (h : rising ks = true) (hs : ls.Sublist ks) : rising ls = true := by
  rw [rising_iff] at h ⊢
  exact ⟨fun k hk => h.1 k (hs.subset hk), h.2.sublist hs⟩
theorem rise_nodup {ks : List (List UInt8)} (h : Rise ks) : ks.Nodup := h.imp fun {a b} hab e => by subst e; rw [bl_irrefl] at hab; cases hab
theorem low_erase {ks : List (List UInt8)} (h : rising ks = true) {k : List UInt8} (hk : k ∈ ks) : k ∉ ks.eraseIdx (lowK ks k) := by
  obtain ⟨hlo, he⟩ := (mem_iff h).1 hk
  have hn := rise_nodup (rising_iff.1 h).2
  have e : ks = ks.take (lowK ks k) ++ k :: ks.drop (lowK ks k + 1) := by
    conv => lhs; rw [← List.take_append_drop (lowK ks k) ks, List.drop_eq_getElem_cons hlo, he]
  generalize lowK ks k = i at *
  rw [List.eraseIdx_eq_take_drop_succ]
  rw [e, List.nodup_append] at hn
  obtain ⟨_, h2, h3⟩ := hn
  rw [List.nodup_cons] at h2
  intro hm
  rcases List.mem_append.1 hm with hm | hm
  · exact h3 k hm k (List.mem_cons_self ..) rfl
  · exact h2.1 hm

/-! ### one key goes -/
theorem one_erase {v : V} (h1 : oneB v = true) (h6 : v.kind = 6) (i : Nat) : oneB (.mk 6 0 0 [] (v.list.eraseIdx i) (v.keys.eraseIdx i)) = true := by
  have hr := rising_sub (one_rising h1) (List.eraseIdx_sublist v.keys i)
  have hl := one_keys h1 h6
  have hl2 : (v.keys.eraseIdx i).length = (v.list.eraseIdx i).length := by
    rw [List.length_eraseIdx, List.length_eraseIdx, hl]
  simp [oneB, bareB, V.kind, V.m, V.e, V.text, V.list, V.keys, numRight, u8, Lib.validD_nil]
  exact ⟨hr, hl2⟩
theorem may_erase {v : V} (h : mayV v = true) (h6 : v.kind = 6) (i : Nat) : mayV (.mk 6 0 0 [] (v.list.eraseIdx i) (v.keys.eraseIdx i)) = true := by
  rw [mayV_eq, Bool.and_eq_true, List.all_eq_true] at h ⊢
  exact ⟨one_erase h.1 h6 i, fun x hx => h.2 x ((List.eraseIdx_sublist v.list i).subset hx)⟩
theorem may_one {v : V} (h : mayV v = true) : oneB v = true := by rw [mayV_eq, Bool.and_eq_true] at h; exact h.1
theorem may_mem {v x : V} (h : mayV v = true) (hx : x ∈ v.list) : mayV x = true := by rw [mayV_eq, Bool.and_eq_true, List.all_eq_true] at h; exact h.2 x hx
theorem without_key {v : V} (h6 : v.kind = 6) {s : St} (hs : s.kind = 0) (hk : s.text ∈ v.keys) :
    withoutF v s = (.mk 6 0 0 [] (v.list.eraseIdx (lowK v.keys s.text)) (v.keys.eraseIdx (lowK v.keys s.text)), 0) := by
  have e : ∀ {α : Type} (l : List α) (i : Nat), l.take i ++ [] ++ l.drop (i + 1) = l.eraseIdx i := by
    intro α l i; rw [List.append_nil, List.eraseIdx_eq_take_drop_succ]
  rw [withoutF, if_neg (by omega), if_pos ⟨hs, h6⟩, if_pos hk, e, e]
theorem without_none {v : V} (h6 : v.kind = 6) {s : St} (hs : s.kind = 0) (hk : s.text ∉ v.keys) : withoutF v s = (v, 0) := by
  rw [withoutF, if_neg (by omega), if_pos ⟨hs, h6⟩, if_neg hk]
theorem without_null {v : V} (h6 : v.kind = 0) (s : St) : withoutF v s = (v, 0) := by rw [withoutF, if_pos h6]
theorem into_key {v : V} (h6 : v.kind = 6) {s : St} (hs : s.kind = 0) : intoF v s = (if s.text ∈ v.keys then v.list.getD (lowK v.keys s.text) V.zero else V.zero, 0) := by
  rw [intoF, if_neg (by omega), if_pos ⟨hs, h6⟩]
theorem into_null {v : V} (h6 : v.kind = 0) (s : St) : intoF v s = (V.zero, 0) := by rw [intoF, if_pos h6]
theorem into_field_err {v : V} {s : St} (hs : s.kind = 0) (h0 : v.kind ≠ 0) (h6 : v.kind ≠ 6) : intoF v s = (V.zero, 80) := by
  rw [intoF, if_neg h0, if_neg (by omega), if_neg (by omega), if_neg (by omega), if_neg (by omega)]
theorem without_field_err {v : V} {s : St} (hs : s.kind = 0) (h0 : v.kind ≠ 0) (h6 : v.kind ≠ 6) : withoutF v s = (V.zero, 80) := by
  rw [withoutF, if_neg h0, if_neg (by omega), if_neg (by omega), if_neg (by omega)]
theorem gone : ∀ (l : List St) (v : V), (∀ s ∈ l, s.kind = 0) → mayV v = true → (dropF v l).2 = 0 →
    mayV (dropF v l).1 = true ∧ depthV (dropF v l).1 ≤ depthV v ∧ (walkF (dropF v l).1 l).2 = 0 ∧ (walkF (dropF v l).1 l).1.kind = 0 ∧ dropF (dropF v l).1 l = ((dropF v l).1, 0)
  | [], v, _, _, _ => by
    have := depth_pos v
    have ez : dropF v [] = (V.zero, 0) := by rw [dropF]
    rw [ez]
    refine ⟨by decide, ?_, rfl, rfl, by rw [dropF]⟩
    have e : depthV V.zero = 1 := by decide
    show depthV V.zero ≤ _
    omega
  | [s], v, hl, hm, h => by
    have hs := hl s (List.mem_cons_self ..)
    rw [dropF] at h ⊢
    by_cases h0 : v.kind = 0
    · rw [without_null h0]
      exact ⟨hm, Nat.le_refl _, (walk_null _ v h0).1, (walk_null _ v h0).2, by rw [dropF, without_null h0]⟩
    by_cases h6 : v.kind = 6
    · by_cases hk : s.text ∈ v.keys
      · have hr := one_rising (may_one hm)
        have hne := low_erase hr hk
        rw [without_key h6 hs hk]
        refine ⟨may_erase hm h6 _, ?_, ?_, ?_, ?_⟩
        · obtain ⟨n, hn⟩ : ∃ n, depthV v = n + 1 := ⟨depthV v - 1, by have := depth_pos v; omega⟩
          rw [hn, depth_le]
          intro x hx
          exact depth_le.1 (Nat.le_of_eq hn) x ((List.eraseIdx_sublist v.list _).subset hx)
        · rw [walkF, into_key rfl hs]; rfl
        · rw [walkF, into_key rfl hs]
          show (walkF (if s.text ∈ v.keys.eraseIdx (lowK v.keys s.text) then _ else V.zero) []).1.kind = 0
          rw [if_neg hne]; rfl
        · show withoutF _ s = _
          exact without_none (v := .mk 6 0 0 [] (v.list.eraseIdx (lowK v.keys s.text)) (v.keys.eraseIdx (lowK v.keys s.text))) rfl hs hne
      · rw [without_none h6 hs hk]
        refine ⟨hm, Nat.le_refl _, ?_, ?_, ?_⟩
        · rw [walkF, into_key h6 hs]; rfl
        · rw [walkF, into_key h6 hs, if_neg hk]; rfl
        · rw [dropF, without_none h6 hs hk]
    · rw [without_field_err hs h0 h6] at h; cases h
  | s :: s2 :: l, v, hl, hm, h => by
    have hs := hl s (List.mem_cons_self ..)
    have hl2 : ∀ x ∈ s2 :: l, x.kind = 0 := fun x hx => hl x (List.mem_cons_of_mem _ hx)
    by_cases h0 : v.kind = 0
    · have e : dropF v (s :: s2 :: l) = (v, 0) := by rw [dropF, into_null h0, if_pos (.inr rfl)]
      rw [e]
      exact ⟨hm, Nat.le_refl _, (walk_null _ v h0).1, (walk_null _ v h0).2, e⟩
    by_cases h6 : v.kind = 6
    · by_cases hk : s.text ∈ v.keys
      · have h1 := may_one hm
        obtain ⟨hlo, hke⟩ := (mem_iff (one_rising h1)).1 hk
        have hkl := one_keys h1 h6
        generalize hlow : lowK v.keys s.text = i at *
        have hi : i < v.list.length := by omega
        have hin : intoF v s = (v.list[i], 0) := by
          rw [into_key h6 hs, if_pos hk, hlow]; simp [List.getD, hi]
        have hym := may_mem hm (List.getElem_mem hi)
        by_cases hy0 : (v.list[i]).kind = 0
        · have e : dropF v (s :: s2 :: l) = (v, 0) := by rw [dropF, hin, if_pos (.inr hy0)]
          rw [e]
          refine ⟨hm, Nat.le_refl _, ?_, ?_, e⟩
          · rw [walkF, hin, if_neg (by simp)]; exact (walk_null _ _ hy0).1
          · rw [walkF, hin, if_neg (by simp)]; exact (walk_null _ _ hy0).2
        · by_cases hd : (dropF v.list[i] (s2 :: l)).2 = 0
          · obtain ⟨a1, a2, a3, a4, a5⟩ := gone (s2 :: l) v.list[i] hl2 hym hd
            generalize hb : (dropF v.list[i] (s2 :: l)).1 = b at *
            have e : dropF v (s :: s2 :: l) = (.mk 6 0 0 [] (v.list.set i b) v.keys, 0) := by
              rw [dropF, hin, if_neg (by simp [hy0]), if_neg (by simp [hd]), hb, setF, if_pos ⟨hs, .inr h6⟩, keyed_mem h1 h6 hk, hlow]
            rw [e]
            have hin2 : intoF (.mk 6 0 0 [] (v.list.set i b) v.keys) s = (b, 0) := by
              rw [into_key rfl hs]
              show (if s.text ∈ v.keys then (v.list.set i b).getD (lowK v.keys s.text) V.zero else V.zero, (0 : Int)) = _
              rw [if_pos hk, hlow]; simp [List.getD, hi]
            refine ⟨may_set hm h6 i a1, ?_, ?_, ?_, ?_⟩
            · obtain ⟨n, hn⟩ : ∃ n, depthV v = n + 1 := ⟨depthV v - 1, by have := depth_pos v; omega⟩
              rw [hn]
              refine depth_set (Nat.le_of_eq hn) i ?_ _
              have := depth_le.1 (Nat.le_of_eq hn) _ (List.getElem_mem hi)
              omega
            · rw [walkF, hin2, if_neg (by simp)]; exact a3
            · rw [walkF, hin2, if_neg (by simp)]; exact a4
            · rw [dropF, hin2]
              by_cases hb0 : b.kind = 0
              · rw [if_pos (.inr hb0)]
              · rw [if_neg (by simp [hb0]), a5, if_neg (by simp), setF, if_pos ⟨hs, .inr rfl⟩, keyed_mem (one_set h1 h6 i b) rfl hk]
                show (V.mk 6 0 0 [] ((v.list.set i b).set (lowK v.keys s.text) b) v.keys, (0 : Int)) = _
                rw [hlow, List.set_set]
          · rw [dropF, hin, if_neg (by simp [hy0]), if_pos hd] at h
            exact absurd h hd
      · have hin : intoF v s = (V.zero, 0) := by rw [into_key h6 hs, if_neg hk]
        have e : dropF v (s :: s2 :: l) = (v, 0) := by rw [dropF, hin, if_pos (.inr rfl)]
        rw [e]
        refine ⟨hm, Nat.le_refl _, ?_, ?_, e⟩
        · rw [walkF, hin, if_neg (by simp)]; exact (walk_null _ _ rfl).1
        · rw [walkF, hin, if_neg (by simp)]; exact (walk_null _ _ rfl).2
    · rw [dropF, into_field_err hs h0 h6, if_pos (.inl (by decide))] at h
      cases h

/-! ### it grows no greater -/
theorem klens_erase : ∀ (l : List (List UInt8)) (i : Nat), klens (l.eraseIdx i) ≤ klens l
  | [], i => by simp
  | x :: l, 0 => by simp [klens]
  | x :: l, i + 1 => by have := klens_erase l i; simp only [List.eraseIdx_cons_succ, klens]; omega
theorem txts_erase : ∀ (l : List V) (i : Nat), txts (l.eraseIdx i) ≤ txts l
  | [], i => by simp
  | x :: l, 0 => by simp [txts]
  | x :: l, i + 1 => by have := txts_erase l i; simp only [List.eraseIdx_cons_succ, txts]; omega
theorem txts_set : ∀ (l : List V) (i : Nat) (h : i < l.length) (y : V), txts (l.set i y) + txtV l[i] = txts l + txtV y
  | x :: l, 0, _, y => by simp only [List.set_cons_zero, txts, List.getElem_cons_zero]; omega
  | x :: l, i + 1, h, y => by have := txts_set l i (by simpa using h) y; simp only [List.set_cons_succ, txts, List.getElem_cons_succ]; omega
theorem zero_txt (v : V) : txtV V.zero ≤ txtV v := by
  have h1 := txtV_eq v
  have e : txtV V.zero = 1 := by decide
  omega
theorem drop_keys_txt : ∀ (l : List St) (v : V), (∀ s ∈ l, s.kind = 0) → mayV v = true → txtV (dropF v l).1 ≤ txtV v
  | [], v, _, _ => by rw [dropF]; exact zero_txt v
  | [s], v, hl, hm => by
    have hs := hl s (List.mem_cons_self ..)
    rw [dropF]
    by_cases h0 : v.kind = 0
    · rw [without_null h0]; exact Nat.le_refl _
    by_cases h6 : v.kind = 6
    · by_cases hk : s.text ∈ v.keys
      · rw [without_key h6 hs hk, txtV_eq v, txtV_eq]
        have h1 : (v.keys.eraseIdx (lowK v.keys s.text)).length ≤ v.keys.length := (List.eraseIdx_sublist ..).length_le
        have h2 := txts_erase v.list (lowK v.keys s.text)
        simp only [V.text, V.keys, V.list, List.length_nil] at h1 h2 ⊢
        omega
      · rw [without_none h6 hs hk]; exact Nat.le_refl _
    · rw [without_field_err hs h0 h6]; exact zero_txt v
  | s :: s2 :: l, v, hl, hm => by
    have hs := hl s (List.mem_cons_self ..)
    have hl2 : ∀ x ∈ s2 :: l, x.kind = 0 := fun x hx => hl x (List.mem_cons_of_mem _ hx)
    rw [dropF]
    by_cases h6 : v.kind = 6
    · by_cases hk : s.text ∈ v.keys
      · have h1 := may_one hm
        obtain ⟨hlo, hke⟩ := (mem_iff (one_rising h1)).1 hk
        have hkl := one_keys h1 h6
        generalize hlow : lowK v.keys s.text = i at *
        have hi : i < v.list.length := by omega
        have hin : intoF v s = (v.list[i], 0) := by
          rw [into_key h6 hs, if_pos hk, hlow]; simp [List.getD, hi]
        have ih := drop_keys_txt (s2 :: l) v.list[i] hl2 (may_mem hm (List.getElem_mem hi))
        rw [hin]
        split
        · exact Nat.le_refl _
        split
        · exact Nat.le_refl _
        · rw [setF, if_pos ⟨hs, .inr h6⟩, keyed_mem h1 h6 hk, hlow, txtV_eq v, txtV_eq]
          have h3 := txts_set v.list i hi (dropF v.list[i] (s2 :: l)).1
          simp only [V.text, V.keys, V.list, List.length_nil] at ih h3 ⊢
          omega
      · rw [into_key h6 hs, if_neg hk, if_pos (.inr rfl)]; exact Nat.le_refl _
    · by_cases h0 : v.kind = 0
      · rw [into_null h0, if_pos (.inr rfl)]; exact Nat.le_refl _
      · rw [into_field_err hs h0 h6, if_pos (.inl (by decide))]; exact Nat.le_refl _
/-- StepsGone, plain. -/
theorem gone_top {v : V} {l : List St} (hl : ∀ s ∈ l, s.kind = 0) (h : (dropTop v l).2 = 0) :
    (getF (dropTop v l).1 l).2 = 0 ∧ (getF (dropTop v l).1 l).1.kind = 0 ∧ dropTop (dropTop v l).1 l = ((dropTop v l).1, 0) ∧ txtV (dropTop v l).1 ≤ txtV v := by
  unfold dropTop at h ⊢
  by_cases hw : wrongF v l ≠ 0
  · rw [if_pos hw] at h; exact absurd h hw
  have hw : wrongF v l = 0 := by simpa using hw
  rw [if_neg (by simp [hw])] at h ⊢
  by_cases hd : (dropF v l).2 ≠ 0
  · rw [if_pos hd] at h; exact absurd h hd
  have hd : (dropF v l).2 = 0 := by simpa using hd
  rw [if_neg (by simp [hd])]
  unfold wrongF at hw
  have hr : rightV v = 0 := by
    by_cases hr : rightV v = 0
    · exact hr
    · rw [if_pos hr] at hw; exact hw
  rw [if_neg (by simp [hr])] at hw
  have hst : l.all stepB = true := by
    by_cases hs : l.all stepB = true
    · exact hs
    · rw [if_neg hs] at hw; cases hw
  unfold rightV at hr
  have hdep : depthV v ≤ 48 := by
    by_cases hs : depthV v ≤ 48
    · exact hs
    · rw [if_neg hs] at hr; cases hr
  rw [if_pos hdep] at hr
  have hm : mayV v = true := by
    by_cases hs : mayV v = true
    · exact hs
    · rw [if_neg hs] at hr; cases hr
  obtain ⟨a1, a2, a3, a4, a5⟩ := gone l v hl hm hd
  have hb := drop_keys_txt l v hl hm
  have hwa : wrongF (dropF v l).1 l = 0 := by
    have : rightV (dropF v l).1 = 0 := by rw [rightV, if_pos (by omega), if_pos a1]
    rw [wrongF, if_neg (by simp [this]), if_pos hst]
  simp only
  rw [getF, if_neg (by simp [hwa])]
  refine ⟨a3, a4, ?_, hb⟩
  rw [if_neg (by simp [hwa]), a5, if_neg (by simp)]
theorem wrongF_eq {v : V} {l : List St} : wrongF v l = 0 ↔ mayV v = true ∧ depthV v ≤ 48 ∧ l.all stepB = true := by
  unfold wrongF rightV
  constructor
  · intro h
    by_cases h1 : depthV v ≤ 48
    · by_cases h2 : mayV v = true
      · rw [if_pos h1, if_pos h2, if_neg (by simp)] at h
        by_cases h3 : l.all stepB = true
        · exact ⟨h2, h1, h3⟩
        · rw [if_neg h3] at h; cases h
      · rw [if_pos h1, if_neg h2] at h; simp at h
    · rw [if_neg h1] at h; simp at h
  · rintro ⟨h1, h2, h3⟩
    rw [if_pos h2, if_pos h1, if_neg (by simp), if_pos h3]
end Go.Gk.Val
end

section
/-
  The laws of ways: StepsGone.
-/
namespace Go.Gk.Val
open Go Go.Gk Go.Gk.Utf
attribute [local irreducible] gwp gws

section
variable {P : Program} {pan : List PanicEntry → Post} {Qn : Env → Post} {Ls L : List PHeap} {ρ : Env} {d : PHeap} {s : GS} {t : Nat} {tk : Bool}
theorem w_bsS1 {x : Operand} {a : St} (ex : ev ρ x = .agg (stL a).toArray) (h : ∀ q T, gws P pan Qn s Ls (upd ρ t (.slice (some ⟨q, 0, none⟩) 1 1)) d (bx q T (stL a) :: L)) :
    gws P pan Qn (.op false ⟨some t, none, .bsl 1 6 [.int .i64 0, strV [], .int .i64 0, .int .i64 0, .bool false, .bool false] [(0, x)]⟩ s) Ls ρ d L := by
  refine w_bsl (by omega) ?_ h
  simp [Instr.fill, zrow, List.range, List.range.loop, ex, Value.cells, stL]
end
theorem drop_err {v : V} {l : List St} (h : (dropTop v l).2 ≠ 0) : (dropTop v l).1 = V.zero := by
  unfold dropTop at *
  by_cases h1 : wrongF v l ≠ 0
  · rw [if_pos h1]
  · rw [if_neg h1] at h ⊢
    by_cases h2 : (dropF v l).2 ≠ 0
    · rw [if_pos h2]
    · rw [if_neg h2] at h; simp at h
def g_thimblelaw08_StepsGone (f_thimblelaw08_works f_thimblelaw08_field f_thimblelaw08_great f_steps_Drop f_thimbleref03_Same f_steps_Get : Nat) : GFun :=
 ⟨76, [(.tmp 4)],
 (.seq
 (.reg false (.op false ⟨(some 2), none, (.box (.tmp 0))⟩
  (.op false ⟨(some 4), none, (.mv (.const (.bool false)))⟩ .done)))
 (.seq (.seq
 (.reg false (.op false ⟨(some 13), none, (.call f_thimblelaw08_works [])⟩
  (.op false ⟨(some 14), none, (.un .not (.tmp 13))⟩ .done))) (.cond (.tmp 14)
 (.seq
 (.reg false (.op false ⟨(some 4), none, (.mv (.const (.bool false)))⟩ .done)) .ret) .skip))
 (.seq
 (.reg false (.op false ⟨(some 5), none, (.mv (.const (.slice none 0 0)))⟩ .done))
 (.seq (.seq
 (.reg false (.op false ⟨(some 6), none, (.mv (.const (.int .i64 0)))⟩ .done)) (.block 0 (.loop
 (.seq (.seq
 (.reg false (.op false ⟨(some 15), none, (.mv (.tmp 6))⟩
  (.op false ⟨(some 16), none, (.mv (.tmp 1))⟩
  (.op false ⟨(some 17), none, (.len (.tmp 16))⟩
  (.op false ⟨(some 18), none, (.bin .lss (.tmp 15) (.tmp 17))⟩
  (.op false ⟨(some 19), none, (.mv (.tmp 18))⟩
  (.op false ⟨(some 20), (some (19, true)), (.mv (.tmp 6))⟩
  (.op false ⟨(some 21), (some (19, true)), (.bin .lss (.tmp 20) (.const (.int .i64 12)))⟩
  (.op false ⟨(some 22), none, (.pick (.tmp 19) (.tmp 21) (.const (.bool false)))⟩ .done))))))))) (.cond (.tmp 22) .skip (.exit 0)))
 (.seq (.block 1
 (.reg false (.op false ⟨(some 25), none, (.mv (.tmp 5))⟩
  (.op false ⟨(some 26), none, (.mv (.tmp 1))⟩
  (.op false ⟨(some 27), none, (.mv (.tmp 6))⟩
  (.op false ⟨(some 28), none, (.idx 1 (.tmp 26) (.tmp 27))⟩
  (.op false ⟨(some 29), none, (.ld none (.tmp 28))⟩
  (.op false ⟨(some 30), none, (.call f_thimblelaw08_field [(.tmp 29)])⟩
  (.op false ⟨(some 31), none, (.bsl 1 6 [(.int .i64 0), (strV []), (.int .i64 0), (.int .i64 0), (.bool false), (.bool false)] [(0, (.tmp 30))])⟩
  (.op false ⟨(some 32), none, (.app 6 48 [(.int .i64 0), (strV []), (.int .i64 0), (.int .i64 0), (.bool false), (.bool false)] (.tmp 25) (.tmp 31))⟩
  (.op false ⟨(some 5), none, (.mv (.tmp 32))⟩ .done)))))))))))
 (.reg false (.op false ⟨(some 23), none, (.mv (.tmp 6))⟩
  (.op false ⟨(some 24), none, (.bin .add (.tmp 23) (.const (.int .i64 1)))⟩
  (.op false ⟨(some 6), none, (.mv (.tmp 24))⟩ .done)))))))))
 (.seq (.seq
 (.reg false (.op false ⟨(some 33), none, (.mv (.tmp 5))⟩
  (.op false ⟨(some 34), none, (.ld (some 6) (.tmp 2))⟩
  (.op false ⟨(some 35), none, (.bsl 1 6 [(.int .i64 0), (.int .i64 0), (.int .i64 0), (strV []), (.slice none 0 0), (.slice none 0 0)] [(0, (.tmp 34))])⟩
  (.op false ⟨(some 36), none, (.call f_thimblelaw08_great [(.tmp 33), (.tmp 35)])⟩ .done))))) (.cond (.tmp 36)
 (.seq
 (.reg false (.op false ⟨(some 4), none, (.mv (.const (.bool true)))⟩ .done)) .ret) .skip))
 (.seq
 (.reg false (.op false ⟨(some 38), none, (.ld (some 6) (.tmp 2))⟩
  (.op false ⟨(some 39), none, (.mv (.tmp 5))⟩
  (.op false ⟨(some 40), none, (.call f_steps_Drop [(.tmp 38), (.tmp 39)])⟩
  (.op false ⟨(some 37), none, (.mv (.tmp 40))⟩
  (.op false ⟨(some 41), none, (.ext (.tmp 37) 0)⟩
  (.op false ⟨(some 42), none, (.ext (.tmp 37) 1)⟩
  (.op false ⟨(some 7), none, (.alo (.agg #[(.int .i64 0), (.int .i64 0), (.int .i64 0), (strV []), (.slice none 0 0), (.slice none 0 0)]))⟩
  (.op false ⟨none, none, (.st 6 (.tmp 7) (.tmp 41))⟩
  (.op false ⟨(some 8), none, (.mv (.tmp 42))⟩ .done))))))))))
 (.seq (.seq
 (.reg false (.op false ⟨(some 43), none, (.mv (.tmp 8))⟩
  (.op false ⟨(some 44), none, (.bin .neq (.tmp 43) (.const (.int .i64 0)))⟩ .done))) (.cond (.tmp 44)
 (.seq
 (.reg false (.op false ⟨(some 45), none, (.ld (some 6) (.tmp 7))⟩
  (.op false ⟨(some 46), none, (.bld [(0, 1), (1, 2), (3, 1), (4, 1), (5, 1)] [(.int .i64 0), (.int .i64 0), (.int .i64 0), (strV []), (.slice none 0 0), (.slice none 0 0)] [])⟩
  (.op false ⟨(some 47), none, (.call f_thimbleref03_Same [(.tmp 45), (.tmp 46)])⟩
  (.op false ⟨(some 4), none, (.mv (.tmp 47))⟩ .done))))) .ret) .skip))
 (.seq
 (.reg false (.op false ⟨(some 49), none, (.ld (some 6) (.tmp 7))⟩
  (.op false ⟨(some 50), none, (.mv (.tmp 5))⟩
  (.op false ⟨(some 51), none, (.call f_steps_Get [(.tmp 49), (.tmp 50)])⟩
  (.op false ⟨(some 48), none, (.mv (.tmp 51))⟩
  (.op false ⟨(some 52), none, (.ext (.tmp 48) 0)⟩
  (.op false ⟨(some 53), none, (.ext (.tmp 48) 1)⟩
  (.op false ⟨(some 9), none, (.alo (.agg #[(.int .i64 0), (.int .i64 0), (.int .i64 0), (strV []), (.slice none 0 0), (.slice none 0 0)]))⟩
  (.op false ⟨none, none, (.st 6 (.tmp 9) (.tmp 52))⟩
  (.op false ⟨(some 10), none, (.mv (.tmp 53))⟩ .done))))))))))
 (.seq
 (.reg false (.op false ⟨(some 55), none, (.ld (some 6) (.tmp 7))⟩
  (.op false ⟨(some 56), none, (.mv (.tmp 5))⟩
  (.op false ⟨(some 57), none, (.call f_steps_Drop [(.tmp 55), (.tmp 56)])⟩
  (.op false ⟨(some 54), none, (.mv (.tmp 57))⟩
  (.op false ⟨(some 58), none, (.ext (.tmp 54) 0)⟩
  (.op false ⟨(some 59), none, (.ext (.tmp 54) 1)⟩
  (.op false ⟨(some 11), none, (.alo (.agg #[(.int .i64 0), (.int .i64 0), (.int .i64 0), (strV []), (.slice none 0 0), (.slice none 0 0)]))⟩
  (.op false ⟨none, none, (.st 6 (.tmp 11) (.tmp 58))⟩
  (.op false ⟨(some 12), none, (.mv (.tmp 59))⟩ .done))))))))))
 (.seq
 (.reg false (.op false ⟨(some 60), none, (.mv (.tmp 10))⟩
  (.op false ⟨(some 61), none, (.bin .eql (.tmp 60) (.const (.int .i64 0)))⟩
  (.op false ⟨(some 62), none, (.mv (.tmp 61))⟩
  (.op false ⟨(some 63), (some (62, true)), (.fld 0 (.tmp 9))⟩
  (.op false ⟨(some 64), (some (62, true)), (.ld none (.tmp 63))⟩
  (.op false ⟨(some 65), (some (62, true)), (.bin .eql (.tmp 64) (.const (.int .i64 0)))⟩
  (.op false ⟨(some 66), none, (.pick (.tmp 62) (.tmp 65) (.const (.bool false)))⟩
  (.op false ⟨(some 67), none, (.mv (.tmp 66))⟩
  (.op false ⟨(some 68), (some (67, true)), (.mv (.tmp 12))⟩
  (.op false ⟨(some 69), (some (67, true)), (.bin .eql (.tmp 68) (.const (.int .i64 0)))⟩
  (.op false ⟨(some 70), none, (.pick (.tmp 67) (.tmp 69) (.const (.bool false)))⟩
  (.op false ⟨(some 71), none, (.mv (.tmp 70))⟩
  (.op false ⟨(some 72), (some (71, true)), (.ld (some 6) (.tmp 7))⟩
  (.op false ⟨(some 73), (some (71, true)), (.ld (some 6) (.tmp 11))⟩
  (.op false ⟨(some 74), (some (71, true)), (.call f_thimbleref03_Same [(.tmp 72), (.tmp 73)])⟩
  (.op false ⟨(some 75), none, (.pick (.tmp 71) (.tmp 74) (.const (.bool false)))⟩
  (.op false ⟨(some 4), none, (.mv (.tmp 75))⟩ .done)))))))))))))))))) .ret))))))))))⟩

set_option maxHeartbeats 2000000 in
theorem stepsGone_ok {T : PHeap → Prop} {P : Program} {f f1 f2 f3 f4 f5 f6 : FuncId} (hT : ∀ {d d' : PHeap}, Le d d' → T d → T d') (hd : dec P f = some (g_thimblelaw08_StepsGone f1 f2 f3 f4 f5 f6)) (h1 : WorksOk T P f1) (h2 : FieldOk P f2) (h3 : GreatOk P f3) (h4 : DropOk T P f4) (h5 : SameOk P f5) (h6 : GetOk T P f6)
    {d : PHeap} {cs : List Value} {w : Value} {v : V} {ks : List (List UInt8)} (ht : T d) (hv : RVal d cs v) (hw : RStrs d w ks) : GPure P f [.agg cs.toArray, w] d (.bool true) := by
  have n1 := RSl.len_le hw
  obtain ⟨a, c, rfl⟩ := RSl.val hw
  have hw' : RSl 1 RStr d (.slice a ks.length c) ks := hw
  obtain ⟨c0, c1, c2, c3, c4, c5, rfl⟩ := six hv.len
  refine GPure.of' hd (Nat.le_of_ble_eq_true rfl) ?_
  show gwp P _ _ _ _ _
  apply w_sq; apply w_reg
  refine w_boxa (l := [c0, c1, c2, c3, c4, c5]) rfl (fun b2 T2 => ?_)
  (apply w_mvb; rfl; apply w_done0; apply w_sq; apply w_sq; apply w_reg)
  refine w_pure rfl (h1 ht) ?_
  (apply w_not; rfl; apply w_done0; apply w_ifF; rfl)
  apply w_skip
  apply w_sq; apply w_reg; apply w_mv; apply w_done
  refine w_mid (fun ρ d' L' => d' = d ∧ ∃ w i h, i ≤ 12 ∧ GRow 6 RSt d w ((ks.take i).map fieldS) h ∧ SlotsAre ρ [(2, .pointer (some ⟨b2, 0, none⟩)), (5, w)] ∧ L' = [h, bx b2 T2 [c0, c1, c2, c3, c4, c5]]) ?_ ?_
  · apply w_sq; apply w_reg
    refine w_vs d [emp, bx b2 T2 [c0, c1, c2, c3, c4, c5]] Vs.emp ?_
    (apply w_mvi; rfl; apply w_done0; apply w_block)
    refine w_loopV (α := Nat) (fun i w => [(1, .slice a ks.length c), (2, .pointer (some ⟨b2, 0, none⟩)), (5, w), (6, .int .i64 i)])
      (fun i w h d' L' => d' = d ∧ i ≤ ks.length ∧ i ≤ 12 ∧ GRow 6 RSt d w ((ks.take i).map fieldS) h ∧ L' = [h, bx b2 T2 [c0, c1, c2, c3, c4, c5]]) (fun i => ks.length - i) 0 (.slice none 0 0) emp
      ⟨rfl, rfl, rfl, rfl, trivial⟩ ⟨rfl, Nat.zero_le _, Nat.zero_le _, GRow.nil, rfl⟩ ?_
    rintro i w h ρ d' L' ⟨hdd, hi, hi2, hrow, hL⟩
    subst hdd; subst hL
    obtain ⟨a5, c5', rfl⟩ := hrow.val
    have hlen : ((ks.take i).map fieldS).length = i := by simp; omega
    by_cases hc : i < ks.length
    · by_cases hc2 : i < 12
      · have hst : (ks.take (i + 1)).map fieldS = (ks.take i).map fieldS ++ [fieldS ks[i]] := by
          rw [List.take_add_one, List.getElem?_eq_getElem hc, List.map_append]; rfl
        have hik : ks[i].length ≤ 140737488355328 := by
          obtain ⟨_, _, _, _, _, _, _, _, _, _, _, h7⟩ := hw'
          obtain ⟨cs', _, _, h8⟩ := h7 i hc
          exact h8.2
        (apply w_sq; apply w_sq; apply w_reg; apply w_mvi; rfl; apply w_mvs; rfl; apply w_len; rfl; apply w_lss; rfl; rfl; apply w_mvb; rfl; refine w_gdT rfl (by omega) ?_; apply w_gT; rfl; apply w_mvi; rfl; apply w_gT; rfl; apply w_lss; rfl; rfl; apply w_pickTb; rfl; rfl; apply w_done0; refine w_ifdT rfl (by omega) ?_; apply w_skip; apply w_sq; apply w_block; apply w_reg; apply w_mvs; rfl; apply w_mvs; rfl; apply w_mvi; rfl; refine w_idxR (sz := 1) (R := RStr) (by rfl) (by assumption) (by rfl) rfl (by omega) ?_; rintro _ _ _ _ _ ⟨rfl, _⟩; apply w_ld; rfl; exact hc_ds0 (by assumption) rfl)
        refine w_pure rfl h2 ?_
        refine w_bsS1 (a := fieldS ks[i]) rfl (fun b31 T31 => ?_)
        have o31 : GRow 6 RSt d' (.slice (some ⟨b31, 0, none⟩) 1 1) [fieldS ks[i]] (bx b31 T31 (stL (fieldS ks[i]))) := GRow.lit1 (sz := 6) rfl ⟨rfl, i64_0, hik, i64_0, i64_0⟩
        refine w_appL (R := RSt) 0 rfl rfl hrow rfl o31 cell1_st (by omega) (by simp; omega) (by simp; omega) (fun v5 h5' o5 => ?_)
        (apply w_mv; apply w_done0; apply w_reg; apply w_mvi; rfl; apply w_add; rfl; rfl; omega; omega; apply w_mvi; rfl; apply w_done0)
        exact ⟨i + 1, _, h5', by omega, ⟨rfl, rfl, rfl, rfl, trivial⟩, rfl, by omega, by omega, by rw [hst]; exact o5, rfl⟩
      · obtain rfl : i = 12 := by omega
        (apply w_sq; apply w_sq; apply w_reg; apply w_mvi; rfl; apply w_mvs; rfl; apply w_len; rfl; apply w_lss; rfl; rfl; apply w_mvb; rfl; refine w_gdT rfl (by omega) ?_; apply w_gT; rfl; apply w_mvi; rfl; apply w_gT; rfl; apply w_lss; rfl; rfl; apply w_pickTb; rfl; rfl; apply w_done0; refine w_ifdF rfl (by omega) ?_; apply w_exit)
        exact ⟨rfl, _, _, _, hi2, hrow, ⟨rfl, rfl, trivial⟩, rfl⟩
    · (apply w_sq; apply w_sq; apply w_reg; apply w_mvi; rfl; apply w_mvs; rfl; apply w_len; rfl; apply w_lss; rfl; rfl; apply w_mvb; rfl; refine w_gdF rfl (by omega) ?_; apply w_gF; rfl; apply w_gF; rfl; apply w_pickFb; rfl; rfl; apply w_done0; apply w_ifF; rfl; apply w_exit)
      exact ⟨rfl, _, _, _, hi2, hrow, ⟨rfl, rfl, trivial⟩, rfl⟩
  · rintro ρ d' L' ⟨hdd, w5, i, h, hi, hrow, hsl, hL⟩
    subst hdd; subst hL
    obtain ⟨a5, c5', rfl⟩ := hrow.val
    refine gwp_slots [(2, .pointer (some ⟨b2, 0, none⟩)), (5, .slice a5 ((ks.take i).map fieldS).length c5')] hsl ?_
    have hkz : ∀ s ∈ (ks.take i).map fieldS, s.kind = 0 := by
      intro s hs
      obtain ⟨k, _, rfl⟩ := List.mem_map.1 hs
      rfl
    have hll : ((ks.take i).map fieldS).length ≤ 12 := by simp; omega
    generalize (ks.take i).map fieldS = l at *
    apply w_sq; apply w_sq; apply w_reg
    refine w_frz (fun d1 hl1 hg1 => ?_)
    have hw1 : RSl 6 RSt d1 (.slice a5 l.length c5') l := hrow.rsl mono_st (by omega) hl1 hg1
    have hv1 := RVal.mono hl1 hv
    (apply w_mvs; rfl; apply w_ldb 0; rfl; rfl; rfl)
    refine w_bsV rfl rfl (fun b12 T12 => ?_)
    refine w_frz (fun d2 hl2 hg2 => ?_)
    have hv2 := RVal.mono hl2 hv1
    have hw2 : RSl 6 RSt d2 (.slice a5 l.length c5') l := RSl.mono (R := RSt) (fun hl h => h) hw1 hl2
    have hvs : RVals d2 (.slice (some ⟨b12, 0, none⟩) 1 1) [v] := (GRow.lit1 (sz := 6) (R := RVal) rfl hv1).rsl (R := RVal) mono_val (by omega) hl2 hg2
    have ht2 : T d2 := hT (hl1.trans hl2) ht
    refine w_call0 rfl (h3 hw2 hvs) (fun r d3 L3 _ ⟨hdd, hL, b, hr, hb⟩ => ?_)
    subst hdd; subst hL; subst hr
    cases b with
    | true =>
      (apply w_done0; apply w_ifT; rfl; apply w_sq; apply w_reg; apply w_mvb; rfl; apply w_done0; apply w_ret)
      exact finQ rfl
    | false =>
    obtain ⟨_, hbv⟩ := hb rfl
    have hbv : bulkV v ≤ 1000 := by
      have e : bulkV (.mk 0 0 0 [] [v] []) = 1 + 0 + 0 + (bulkV v + 0) := rfl
      omega
    have htx := txt_bulk v
    (apply w_done0; apply w_ifF; rfl; apply w_skip; apply w_sq; apply w_reg; apply w_ldb 0; rfl; rfl; rfl; apply w_mvs; rfl)
    refine w_call0 rfl (h4 ht2 hv2 hw2 (by omega) (by omega)) (fun r d4 L4 _ ⟨hdd, cs6, g, hr, hL, ho⟩ => ?_)
    subst hdd; subst hL; subst hr
    refine w_frz (fun d4 hl4 hg4 => ?_)
    have ha := ho.rval hg4
    obtain ⟨g0, g1, g2, g3, g4, g5, rfl⟩ := six ha.len
    have hw4 : RSl 6 RSt d4 (.slice a5 l.length c5') l := RSl.mono (R := RSt) (fun hl h => h) hw2 hl4
    have ht4 : T d4 := hT hl4 ht2
    (apply w_mvu; rfl; apply w_ext; rfl; rfl; apply w_ext; rfl; rfl; apply w_alo; intro _ _)
    rename_i b7 T7
    refine w_stE 0 [g0, g1, g2, g3, g4, g5] rfl rfl rfl rfl (Nat.le_of_ble_eq_true rfl) (cell1_val _ _ _ ha) rfl ?_
    by_cases he : (dropTop v l).2 = 0
    · obtain ⟨e1, e2, e3, e4⟩ := gone_top hkz he
      generalize (dropTop v l).1 = av at *
      (apply w_mvi; rfl; apply w_done0; apply w_sq; apply w_sq; apply w_reg; apply w_mvi; rfl; apply w_neq; rfl; rfl; apply w_done0; refine w_ifdF rfl (by omega) ?_; apply w_skip; apply w_sq; apply w_reg; apply w_ldb 0; rfl; rfl; rfl; apply w_mvs; rfl)
      refine w_call0 rfl (h6 ht4 ha hw4 (by omega)) (fun r d5 L5 _ ⟨hdd, cs8, g', hr, hL, ho8⟩ => ?_)
      subst hdd; subst hL; subst hr
      refine w_frz (fun d5 hl5 hg5 => ?_)
      have hx := ho8.rval hg5
      obtain ⟨lv, kv, rfl, _⟩ := hx.open
      have ha5 := RVal.mono hl5 ha
      have hw5 : RSl 6 RSt d5 (.slice a5 l.length c5') l := RSl.mono (R := RSt) (fun hl h => h) hw4 hl5
      have ht5 : T d5 := hT hl5 ht4
      rw [e1, e2] at *
      (apply w_mvu; rfl; apply w_ext; rfl; rfl; apply w_ext; rfl; rfl; apply w_alo; intro _ _)
      rename_i b9 T9
      refine w_stE 0 [.int .i64 0, .int .i64 (getF av l).1.m, .int .i64 (getF av l).1.e, strV (getF av l).1.text, lv, kv] rfl rfl rfl rfl (Nat.le_of_ble_eq_true rfl) (cell1_val _ _ _ hx) rfl ?_
      (apply w_mvi; rfl; apply w_done0; apply w_sq; apply w_reg; apply w_ldb 1; rfl; rfl; rfl; apply w_mvs; rfl)
      refine w_call0 rfl (h4 ht5 ha5 hw5 (by omega) (by omega)) (fun r d6 L6 _ ⟨hdd, cs10, g10, hr, hL, ho10⟩ => ?_)
      subst hdd; subst hL; subst hr
      refine w_frz (fun d6 hl6 hg6 => ?_)
      rw [e3] at ho10
      have hb := ho10.rval hg6
      obtain ⟨k0, k1, k2, k3, k4, k5, rfl⟩ := six hb.len
      have ha6 := RVal.mono hl6 ha5
      rw [e3]
      (apply w_mvu; rfl; apply w_ext; rfl; rfl; apply w_ext; rfl; rfl; apply w_alo; intro _ _)
      rename_i b11 T11
      refine w_stE 0 [k0, k1, k2, k3, k4, k5] rfl rfl rfl rfl (Nat.le_of_ble_eq_true rfl) (cell1_val _ _ _ hb) rfl ?_
      (apply w_mvi; rfl; apply w_done0; apply w_sq; apply w_reg; apply w_mvi; rfl; apply w_eql; rfl; rfl; apply w_mvb; rfl; refine w_gdT rfl (by omega) ?_; apply w_gT; rfl; apply w_fld; rfl; apply w_gT; rfl; apply w_ld; rfl; exact hc_i 1 rfl rfl; apply w_gT; rfl; apply w_eql; rfl; rfl; apply w_pickTb; rfl; rfl; apply w_mvb; rfl; refine w_gdT rfl (by omega) ?_; apply w_gT; rfl; apply w_mvi; rfl; apply w_gT; rfl; apply w_eql; rfl; rfl; apply w_pickTb; rfl; rfl; apply w_mvb; rfl; refine w_gdT rfl (by omega) ?_; apply w_gT; rfl; apply w_ldb 2; rfl; rfl; rfl; apply w_gT; rfl; apply w_ldb 0; rfl; rfl; rfl; apply w_gT; rfl)
      have hs : sameV av av = true := (sameV_iff _ _).2 rfl
      refine w_pure rfl (h5 av av ha6 hb) ?_
      rw [hs]
      (apply w_pickTb; rfl; rfl; apply w_mvb; rfl; apply w_done0; apply w_ret)
      exact finQ rfl
    · have hz := drop_err he
      rw [hz] at ha
      (apply w_mvi; rfl; apply w_done0; apply w_sq; apply w_sq; apply w_reg; apply w_mvi; rfl; apply w_neq; rfl; rfl; apply w_done0; refine w_ifdT rfl (by omega) ?_; apply w_sq; apply w_reg; apply w_ldb 0; rfl; rfl; rfl; apply w_bvZ)
      have hs : sameV V.zero V.zero = true := (sameV_iff _ _).2 rfl
      refine w_pure rfl (h5 _ _ ha RVal.zero) ?_
      rw [hs]
      (apply w_mvb; rfl; apply w_done0; apply w_ret)
      exact finQ rfl
end Go.Gk.Val
end

section
/-
  The laws of ways, plain: what was put is got; putting twice; what lies beside.
-/
namespace Go.Gk.Val
open Go Go.Gk

/-! ### keys -/
theorem take_low (ks : List (List UInt8)) (k : List UInt8) : ks.take (lowK ks k) = ks.takeWhile fun x => Op.bytesLess x k :=
  (List.prefix_iff_eq_take.1 (List.takeWhile_prefix _)).symm
theorem low_keyed (ks zs : List (List UInt8)) (k : List UInt8) : lowK (ks.take (lowK ks k) ++ [k] ++ zs) k = lowK ks k := by
  have hall : ∀ a ∈ ks.takeWhile (fun x => Op.bytesLess x k), Op.bytesLess a k = true := fun a ha =>
    List.all_eq_true.1 (List.all_takeWhile (p := fun x => Op.bytesLess x k) (l := ks)) a ha
  have e : (ks.takeWhile (fun x => Op.bytesLess x k) ++ [k] ++ zs).takeWhile (fun x => Op.bytesLess x k) = ks.takeWhile (fun x => Op.bytesLess x k) := by
    rw [List.append_assoc, List.takeWhile_append_of_pos hall, List.singleton_append, List.takeWhile_cons_of_neg (by simp [bl_irrefl]), List.append_nil]
  have : lowK (ks.take (lowK ks k) ++ [k] ++ zs) k = (ks.takeWhile (fun x => Op.bytesLess x k)).length := by
    rw [take_low]; show (List.takeWhile _ _).length = _; rw [e]
  rw [this]; rfl
theorem getD_mid {α : Type} (a b : List α) (x z : α) : (a ++ [x] ++ b).getD a.length z = x := by simp [List.getD]
theorem low_list {v : V} (h : oneB v = true) (h6 : v.kind = 0 ∨ v.kind = 6) (k : List UInt8) : lowK v.keys k ≤ v.list.length := by
  have := lowK_le v.keys k
  rw [one_lens h h6] at this; exact this
theorem into_keyed {v : V} (h : oneB v = true) (h6 : v.kind = 0 ∨ v.kind = 6) {s : St} (hs : s.kind = 0) (z : V) : intoF (keyedF v s.text z) s = (z, 0) := by
  have hl := low_list h h6 s.text
  have e : s.text ∈ (keyedF v s.text z).keys := by simp [keyedF]
  have e2 : lowK (keyedF v s.text z).keys s.text = lowK v.keys s.text := low_keyed _ _ _
  rw [into_key rfl hs, if_pos e, e2]
  show ((v.list.take (lowK v.keys s.text) ++ [z] ++ v.list.drop (toK v.keys s.text)).getD (lowK v.keys s.text) V.zero, (0 : Int)) = _
  have : (v.list.take (lowK v.keys s.text)).length = lowK v.keys s.text := by simp; omega
  conv => lhs; lhs; arg 2; rw [← this]
  rw [getD_mid]
theorem take_mid {α : Type} (a b : List α) (x : α) {n : Nat} (hn : a.length = n) : (a ++ [x] ++ b).take n = a := by subst hn; simp
theorem drop_mid {α : Type} (a b : List α) (x : α) {n : Nat} (hn : a.length = n) : (a ++ [x] ++ b).drop (n + 1) = b := by subst hn; simp
theorem keyed_keyed {v : V} (h : oneB v = true) (h6 : v.kind = 0 ∨ v.kind = 6) (k : List UInt8) (y z : V) : keyedF (keyedF v k y) k z = keyedF v k z := by
  have hl := low_list h h6 k
  have hk := lowK_le v.keys k
  have e1 : lowK (keyedF v k y).keys k = lowK v.keys k := low_keyed _ _ _
  have e2 : toK (keyedF v k y).keys k = lowK v.keys k + 1 := by
    rw [toK, if_pos (by simp [keyedF]), e1]
  rw [keyedF, e1, e2]
  have l1 : (v.list.take (lowK v.keys k)).length = lowK v.keys k := by simp; omega
  have l2 : (v.keys.take (lowK v.keys k)).length = lowK v.keys k := by simp; omega
  simp only [keyedF]
  rw [take_mid _ _ _ l1, drop_mid _ _ _ l1, take_mid _ _ _ l2, drop_mid _ _ _ l2]

/-! ### places -/
theorem pad_len (l : List V) (n : Nat) : (padL l n).length = max l.length n := by simp [padL]; omega
theorem setI_eq {v y : V} {s : St} (hs : s.kind = 1) (h5 : v.kind = 0 ∨ v.kind = 5) (h : (setF v s y).2 = 0) : ∃ n : Nat, placeF s.src v.list.length = (n : Int) ∧ n ≤ 4095 ∧
    setF v s y = (.mk 5 0 0 [] ((padL v.list (n + 1)).take n ++ [y] ++ (padL v.list (n + 1)).drop (n + 1)) [], 0) := by
  have e : setF v s y = (if placeF s.src v.list.length < 0 ∨ 4095 < placeF s.src v.list.length then (V.zero, 4)
    else (.mk 5 0 0 [] ((padL v.list ((placeF s.src v.list.length).toNat + 1)).take (placeF s.src v.list.length).toNat ++ [y] ++ (padL v.list ((placeF s.src v.list.length).toNat + 1)).drop ((placeF s.src v.list.length).toNat + 1)) [], 0)) := by
    rw [setF, if_neg (by omega), if_pos ⟨hs, h5⟩]
  rw [e] at h ⊢
  by_cases hp : placeF s.src v.list.length < 0 ∨ 4095 < placeF s.src v.list.length
  · rw [if_pos hp] at h; cases h
  · rw [if_neg hp]
    obtain ⟨n, hn⟩ : ∃ n : Nat, placeF s.src v.list.length = (n : Int) := ⟨(placeF s.src v.list.length).toNat, by omega⟩
    rw [hn] at hp ⊢
    exact ⟨n, rfl, by omega, rfl⟩
theorem mid_len {α : Type} {l : List α} {n : Nat} (hn : n < l.length) (y : α) : (l.take n ++ [y] ++ l.drop (n + 1)).length = l.length := by simp; omega
theorem place_same {s : St} {v : V} {n : Nat} (h : placeF s.src v.list.length = (n : Int)) : placeF s.src ((max v.list.length (n + 1) : Nat) : Int) = (n : Int) := by
  unfold placeF at h ⊢
  split at h
  · rename_i hs
    rw [if_pos hs]
    have : max v.list.length (n + 1) = v.list.length := by omega
    rw [this]; exact h
  · rename_i hs
    rw [if_neg hs]; exact h
theorem into_set1 {v y : V} {s : St} (hs : s.kind = 1) (h5 : v.kind = 0 ∨ v.kind = 5) (h : (setF v s y).2 = 0) : intoF (setF v s y).1 s = (y, 0) := by
  obtain ⟨n, hp, hn, e⟩ := setI_eq hs h5 h
  rw [e]
  have hl : n < (padL v.list (n + 1)).length := by rw [pad_len]; omega
  have hlen := mid_len hl y
  rw [intoF, if_neg (show ¬ (5 : Int) = 0 by decide), if_neg (by omega), if_pos ⟨hs, rfl⟩]
  simp only
  rw [hlen, pad_len, place_same hp, nthV, hlen, if_pos ⟨by omega, by omega⟩, Int.toNat_natCast]
  have : ((padL v.list (n + 1)).take n).length = n := by simp; omega
  conv => lhs; lhs; arg 2; rw [← this]
  rw [getD_mid]
theorem set_set1 {v y : V} {s : St} (hs : s.kind = 1) (h5 : v.kind = 0 ∨ v.kind = 5) (h : (setF v s y).2 = 0) (z : V) : setF (setF v s y).1 s z = setF v s z := by
  obtain ⟨n, hp, hn, e⟩ := setI_eq hs h5 h
  have e2 : ∀ w : V, setF v s w = (.mk 5 0 0 [] ((padL v.list (n + 1)).take n ++ [w] ++ (padL v.list (n + 1)).drop (n + 1)) [], 0) := by
    intro w
    rw [setF, if_neg (by omega), if_pos ⟨hs, h5⟩, hp, if_neg (by omega), Int.toNat_natCast]
  rw [e2 z, e]
  have hl : n < (padL v.list (n + 1)).length := by rw [pad_len]; omega
  have hlen := mid_len hl y
  rw [setF, if_neg (by omega), if_pos ⟨hs, .inr rfl⟩]
  simp only
  rw [hlen, pad_len, place_same hp, if_neg (by omega), Int.toNat_natCast]
  have hl2 : n + 1 ≤ ((padL v.list (n + 1)).take n ++ [y] ++ (padL v.list (n + 1)).drop (n + 1)).length := by rw [hlen]; omega
  have ep : ∀ l : List V, n + 1 ≤ l.length → padL l (n + 1) = l := by
    intro l hl; rw [padL, show n + 1 - l.length = 0 by omega]; simp
  rw [ep _ hl2]
  have ht : ((padL v.list (n + 1)).take n).length = n := by simp; omega
  rw [take_mid _ _ _ ht, drop_mid _ _ _ ht]

/-! ### putting -/
theorem set_kind {v y : V} {s : St} (hs2 : s.kind ≠ 2) (h : (setF v s y).2 = 0) : (s.kind = 0 ∧ (v.kind = 0 ∨ v.kind = 6)) ∨ (s.kind = 1 ∧ (v.kind = 0 ∨ v.kind = 5)) := by
  by_cases h0 : s.kind = 0 ∧ (v.kind = 0 ∨ v.kind = 6)
  · exact .inl h0
  · by_cases h1 : s.kind = 1 ∧ (v.kind = 0 ∨ v.kind = 5)
    · exact .inr h1
    · rw [setF, if_neg h0, if_neg h1, if_neg (by omega)] at h; cases h
theorem set_key {v y : V} {s : St} (h0 : s.kind = 0 ∧ (v.kind = 0 ∨ v.kind = 6)) : setF v s y = (keyedF v s.text y, 0) := by rw [setF, if_pos h0]
theorem into_set {v y : V} {s : St} (h1 : oneB v = true) (hs2 : s.kind ≠ 2) (h : (setF v s y).2 = 0) : intoF (setF v s y).1 s = (y, 0) := by
  rcases set_kind hs2 h with h0 | h0
  · rw [set_key h0]; exact into_keyed h1 h0.2 h0.1 y
  · exact into_set1 h0.1 h0.2 h
theorem set_set {v y : V} {s : St} (h1 : oneB v = true) (hs2 : s.kind ≠ 2) (h : (setF v s y).2 = 0) (z : V) : setF (setF v s y).1 s z = setF v s z := by
  rcases set_kind hs2 h with h0 | h0
  · rw [set_key h0, set_key h0]
    rw [set_key (v := keyedF v s.text y) ⟨h0.1, .inr rfl⟩, keyed_keyed h1 h0.2]
  · exact set_set1 h0.1 h0.2 h z
theorem put_cons {v x : V} {s : St} {l : List St} (h : (putF v (s :: l) x).2 = 0) : (intoF v s).2 = 0 ∧ (putF (intoF v s).1 l x).2 = 0 ∧ putF v (s :: l) x = setF v s (putF (intoF v s).1 l x).1 := by
  rw [putF] at h ⊢
  by_cases h1 : (intoF v s).2 ≠ 0
  · rw [if_pos h1] at h; exact absurd h h1
  rw [if_neg h1] at h ⊢
  by_cases h2 : (putF (intoF v s).1 l x).2 ≠ 0
  · rw [if_pos h2] at h; exact absurd h h2
  rw [if_neg h2]
  exact ⟨by simpa using h1, by simpa using h2, rfl⟩
theorem put_back : ∀ (l : List St) (v x : V), (∀ s ∈ l, s.kind ≠ 2) → Gd v → (putF v l x).2 = 0 → walkF (putF v l x).1 l = (x, 0)
  | [], v, x, _, _, _ => by rw [putF]; rfl
  | s :: l, v, x, hl, hg, h => by
    obtain ⟨h1, h2, e⟩ := put_cons h
    rw [e] at h ⊢
    have hs := hl s (List.mem_cons_self ..)
    rw [walkF, into_set (gd_one hg) hs h, if_neg (by simp)]
    exact put_back l _ x (fun s hs => hl s (List.mem_cons_of_mem _ hs)) (into_gd hg s) h2
theorem put_put : ∀ (l : List St) (v x y : V), (∀ s ∈ l, s.kind ≠ 2) → Gd v → (putF v l x).2 = 0 → putF (putF v l x).1 l y = putF v l y
  | [], v, x, y, _, _, _ => by simp only [putF]
  | s :: l, v, x, y, hl, hg, h => by
    obtain ⟨h1, h2, e⟩ := put_cons h
    rw [e] at h ⊢
    have hs := hl s (List.mem_cons_self ..)
    have ih := put_put l _ x y (fun s hs => hl s (List.mem_cons_of_mem _ hs)) (into_gd hg s) h2
    rw [putF, into_set (gd_one hg) hs h, if_neg (by simp)]
    simp only
    rw [ih]
    conv => rhs; rw [putF, if_neg (by simp [h1])]
    split
    · rfl
    · rw [set_set (gd_one hg) hs h]

theorem put_top {v x : V} {l : List St} (h : (putTop v l x).2 = 0) : rightV v = 0 ∧ rightV x = 0 ∧ wrongF v l = 0 ∧ (putF v l x).2 = 0 ∧ rightV (putF v l x).1 = 0 ∧ putTop v l x = ((putF v l x).1, 0) := by
  unfold putTop at h ⊢
  by_cases h1 : rightV v ≠ 0
  · rw [if_pos h1] at h; exact absurd h h1
  rw [if_neg h1] at h ⊢
  by_cases h2 : rightV x ≠ 0
  · rw [if_pos h2] at h; exact absurd h h2
  rw [if_neg h2] at h ⊢
  by_cases h3 : wrongF v l ≠ 0
  · rw [if_pos h3] at h; exact absurd h h3
  rw [if_neg h3] at h ⊢
  by_cases h4 : (putF v l x).2 ≠ 0
  · rw [if_pos h4] at h; exact absurd h h4
  rw [if_neg h4] at h ⊢
  by_cases h5 : rightV (putF v l x).1 ≠ 0
  · rw [if_pos h5] at h; exact absurd h h5
  rw [if_neg h5]
  exact ⟨by simpa using h1, by simpa using h2, by simpa using h3, by simpa using h4, by simpa using h5, rfl⟩
theorem put_err {v x : V} {l : List St} (h : (putTop v l x).2 ≠ 0) : (putTop v l x).1 = V.zero := by
  unfold putTop at h ⊢
  split
  · rfl
  split
  · rfl
  split
  · rfl
  split
  · rfl
  split
  · rfl
  · rename_i h1 h2 h3 h4 h5
    rw [if_neg h1, if_neg h2, if_neg h3, if_neg h4, if_neg h5] at h
    exact absurd rfl h
theorem right_iff {v : V} : rightV v = 0 ↔ mayV v = true ∧ depthV v ≤ 48 := by
  unfold rightV
  constructor
  · intro h
    by_cases h1 : depthV v ≤ 48
    · rw [if_pos h1] at h
      by_cases h2 : mayV v = true
      · exact ⟨h2, h1⟩
      · rw [if_neg h2] at h; cases h
    · rw [if_neg h1] at h; cases h
  · rintro ⟨h1, h2⟩
    rw [if_pos h2, if_pos h1]
theorem wrong_iff {v : V} {l : List St} : wrongF v l = 0 ↔ rightV v = 0 ∧ l.all stepB = true := by
  rw [wrongF_eq, right_iff]; exact ⟨fun ⟨a, b, c⟩ => ⟨⟨a, b⟩, c⟩, fun ⟨⟨a, b⟩, c⟩ => ⟨a, b, c⟩⟩
/-- StepsBack, plain. -/
theorem back_top {v x : V} {l : List St} (hl : ∀ s ∈ l, s.kind ≠ 2) (hg : txtV v ≤ 1000000000) (h : (putTop v l x).2 = 0) : getF (putTop v l x).1 l = (x, 0) := by
  obtain ⟨h1, h2, h3, h4, h5, e⟩ := put_top h
  rw [e]
  simp only
  rw [getF, if_neg (by simp [wrong_iff.2 ⟨h5, (wrong_iff.1 h3).2⟩])]
  exact put_back l v x hl (right_gd h1 hg) h4
/-- StepsTwice, plain. -/
theorem twice_top {v x y : V} {l : List St} (hl : ∀ s ∈ l, s.kind ≠ 2) (hg : txtV v ≤ 1000000000) (h : (putTop v l x).2 = 0) (hy : (putTop v l y).2 = 0) : putTop (putTop v l x).1 l y = putTop v l y := by
  obtain ⟨h1, h2, h3, h4, h5, e⟩ := put_top h
  obtain ⟨k1, k2, k3, k4, k5, e'⟩ := put_top hy
  rw [e', e]
  simp only
  have := put_put l v x y hl (right_gd h1 hg) h4
  rw [putTop, if_neg (by simp [h5]), if_neg (by simp [k2]), if_neg (by simp [wrong_iff.2 ⟨h5, (wrong_iff.1 h3).2⟩]), this, if_neg (by simp [k4]), if_neg (by simp [k5])]

/-! ### how great -/
theorem txts_app : ∀ a b : List V, txts (a ++ b) = txts a + txts b
  | [], b => by simp [txts]
  | x :: a, b => by simp only [List.cons_append, txts, txts_app a b]; omega
theorem txts_cut {l : List V} {i j : Nat} (h : i ≤ j) : txts (l.take i) + txts (l.drop j) ≤ txts l := by
  have h1 := txts_app (l.take i) (l.drop i)
  rw [List.take_append_drop] at h1
  have h2 := txts_app ((l.drop i).take (j - i)) ((l.drop i).drop (j - i))
  rw [List.take_append_drop, List.drop_drop, show i + (j - i) = j by omega] at h2
  omega
theorem txts_rep (n : Nat) : txts (List.replicate n V.zero) = n := by
  induction n with
  | zero => rfl
  | succ n ih =>
    rw [List.replicate_succ]
    have : txtV V.zero = 1 := by decide
    simp only [txts, ih, this]; omega
theorem set_txt (v : V) (s : St) (y : V) : txtV (setF v s y).1 ≤ txtV v + txtV y + 4100 := by
  have h3 := txtV_eq v
  have hy := txtV_eq y
  have hz : txtV V.zero = 1 := by decide
  unfold setF
  split
  · simp only [keyedF]
    have hlt : lowK v.keys s.text ≤ toK v.keys s.text := by unfold toK; split <;> omega
    have h4 := txts_cut (l := v.list) hlt
    have h5 : (v.keys.take (lowK v.keys s.text)).length + (v.keys.drop (toK v.keys s.text)).length ≤ v.keys.length := by simp; omega
    rw [txtV_eq]
    show 1 + 0 + (v.keys.take (lowK v.keys s.text) ++ [s.text] ++ v.keys.drop (toK v.keys s.text)).length + txts (v.list.take (lowK v.keys s.text) ++ [y] ++ v.list.drop (toK v.keys s.text)) ≤ _
    rw [txts_app, txts_app]
    simp only [List.length_append, List.length_singleton, txts]
    omega
  split
  · split
    · simp only [hz]; omega
    · rename_i hp
      obtain ⟨n, hn⟩ : ∃ n : Nat, placeF s.src v.list.length = (n : Int) := ⟨(placeF s.src v.list.length).toNat, by omega⟩
      rw [hn] at hp ⊢
      simp only [Int.toNat_natCast]
      have h4 := txts_cut (l := padL v.list (n + 1)) (show n ≤ n + 1 by omega)
      have h5 : txts (padL v.list (n + 1)) ≤ txts v.list + (n + 1) := by rw [padL, txts_app, txts_rep]; omega
      rw [txtV_eq]
      show 1 + 0 + 0 + txts ((padL v.list (n + 1)).take n ++ [y] ++ (padL v.list (n + 1)).drop (n + 1)) ≤ _
      rw [txts_app, txts_app]
      simp only [txts]
      omega
  split
  · have he := ends_le s (k := v.list.length) (by omega)
    have h4 := txts_cut (l := v.list) (show (endsF s v.list.length).1.toNat ≤ (endsF s v.list.length).2.toNat by omega)
    rw [txtV_eq]
    show 1 + 0 + 0 + txts (v.list.take (endsF s v.list.length).1.toNat ++ y.list ++ v.list.drop (endsF s v.list.length).2.toNat) ≤ _
    rw [txts_app, txts_app]
    omega
  · simp only [hz]; omega
theorem ar3 {a b c d e m : Nat} (h3 : a ≤ b + c + 4100) (h2 : c ≤ d + m) (hb : b ≤ e) : a ≤ d + (m + (e + 4100)) := by
  have e1 : d + (m + (e + 4100)) = e + (d + m) + 4100 := by rw [← Nat.add_assoc, ← Nat.add_assoc, Nat.add_comm (d + m) e]
  rw [e1]
  exact Nat.le_trans h3 (Nat.add_le_add_right (Nat.add_le_add hb h2) _)
theorem put_txt : ∀ (l : List St) (v x : V) (B : Nat), txtV v ≤ B → txtV (putF v l x).1 ≤ txtV x + l.length * (B + 4100)
  | [], v, x, B, _ => by simp [putF]
  | s :: l, v, x, B, hb => by
    have hz : txtV V.zero = 1 := by decide
    have h1 := txt_pos x
    have h2 := put_txt l (intoF v s).1 x B (Nat.le_trans (into_txt v s) hb)
    have h3 := set_txt v s (putF (intoF v s).1 l x).1
    have e : (l.length + 1) * (B + 4100) = l.length * (B + 4100) + (B + 4100) := Nat.succ_mul _ _
    simp only [putF, List.length_cons, e]
    obtain ⟨M, hM⟩ : ∃ M, M = l.length * (B + 4100) := ⟨_, rfl⟩
    rw [← hM] at h2 ⊢
    clear hM e
    split
    · simp only [hz]; omega
    split
    · simp only [hz]; omega
    · exact ar3 h3 h2 hb
theorem without_txt (v : V) (s : St) : txtV (withoutF v s).1 ≤ txtV v := by
  have h3 := txtV_eq v
  have hz : txtV V.zero = 1 := by decide
  have key : ∀ (i j : Nat), i ≤ j → ∀ ks : List (List UInt8), ks.length ≤ v.keys.length → txtV (.mk 5 0 0 [] (v.list.take i ++ [] ++ v.list.drop j) ks) ≤ txtV v ∧ txtV (.mk 6 0 0 [] (v.list.take i ++ [] ++ v.list.drop j) ks) ≤ txtV v := by
    intro i j hij ks hk
    have h4 := txts_cut (l := v.list) hij
    rw [txtV_eq, txtV_eq]
    show 1 + 0 + ks.length + txts (v.list.take i ++ [] ++ v.list.drop j) ≤ _ ∧ 1 + 0 + ks.length + txts (v.list.take i ++ [] ++ v.list.drop j) ≤ _
    rw [txts_app, txts_app]
    simp only [txts]
    omega
  unfold withoutF
  split
  · exact Nat.le_refl _
  split
  · simp only
    split
    · exact (key _ _ (by omega) _ (by simp; omega)).2
    · exact Nat.le_refl _
  split
  · simp only
    split
    · exact Nat.le_refl _
    · exact (key _ _ (by omega) _ (by simp)).1
  split
  · have he := ends_le s (k := v.list.length) (by omega)
    exact (key _ _ (by omega) _ (by simp)).1
  · simp only [hz]; omega
theorem drop_txt : ∀ (l : List St) (v : V) (B : Nat), txtV v ≤ B → txtV (dropF v l).1 ≤ B + l.length * (B + 4100)
  | [], v, B, hb => by
    have := zero_txt v
    rw [dropF]
    exact Nat.le_trans this (Nat.le_trans hb (Nat.le_add_right _ _))
  | [s], v, B, hb => by
    have h1 := without_txt v s
    rw [dropF]
    exact Nat.le_trans h1 (Nat.le_trans hb (Nat.le_add_right _ _))
  | s :: s2 :: l, v, B, hb => by
    have h2 := drop_txt (s2 :: l) (intoF v s).1 B (Nat.le_trans (into_txt v s) hb)
    have h3 := set_txt v s (dropF (intoF v s).1 (s2 :: l)).1
    rw [dropF]
    have e : (s :: s2 :: l).length * (B + 4100) = (s2 :: l).length * (B + 4100) + (B + 4100) := Nat.succ_mul _ _
    rw [e]
    obtain ⟨M, hM⟩ : ∃ M, M = (s2 :: l).length * (B + 4100) := ⟨_, rfl⟩
    rw [← hM] at h2 ⊢
    clear hM e
    split
    · simp only; omega
    split
    · simp only; omega
    · exact ar3 h3 h2 hb
end Go.Gk.Val
end
