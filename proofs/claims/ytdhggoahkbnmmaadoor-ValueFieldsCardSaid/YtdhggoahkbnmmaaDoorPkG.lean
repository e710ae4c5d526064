/-
  Our own texts, one behind the other: GkMC.
-/
import Derived.Test.YtdhggoahkbnmmaaDoorPkF
section
/-
  The laws of values: ValueFields.
-/
namespace Go.Gk.Val
open Go Go.Gk Go.Gk.Utf
attribute [local irreducible] gwp gws

theorem make_err {ks : List (List UInt8)} {l : List V} (h : (makeTop ks l).2 ≠ 0) : (makeTop ks l).1 = V.zero := by
  unfold makeTop at h ⊢
  repeat' split
  all_goals first | rfl | (simp_all)
theorem make_fine {ks : List (List UInt8)} {l : List V} (h : (makeTop ks l).2 = 0) : ks.length = l.length ∧ (∀ k ∈ ks, u8 k = true) ∧ (∀ x ∈ l, rightV x = 0) ∧ depthV (makeV ks l) ≤ 48 ∧ (makeTop ks l).1 = makeV ks l := by
  rw [makeTop] at h ⊢
  by_cases h1 : ks.length ≠ l.length
  · rw [if_pos h1] at h; cases h
  rw [if_neg h1] at h ⊢
  cases hu : ks.all u8 with
  | false => rw [hu, if_pos rfl] at h; cases h
  | true =>
    rw [hu] at h
    simp only [Bool.true_eq_false, if_false] at h ⊢
    by_cases h2 : firstW l ≠ 0
    · rw [if_pos h2] at h; exact absurd h h2
    rw [if_neg h2] at h ⊢
    by_cases h3 : 48 < depthV (makeV ks l)
    · rw [if_pos h3] at h; cases h
    rw [if_neg h3]
    exact ⟨by omega, List.all_eq_true.1 hu, first_zero.1 (by omega), by omega, rfl⟩
def g_thimblelaw03_ValueFields (f_thimblelaw03_works f_thimbleref03_Bulk f_value_Make f_thimbleref03_Same f_value_Right f_value_Same : Nat) : GFun :=
 ⟨110, [(.tmp 4)],
 (.seq
 (.reg false (.op false ⟨(some 4), none, (.mv (.const (.bool false)))⟩ .done))
 (.seq (.seq
 (.reg false (.op false ⟨(some 16), none, (.call f_thimblelaw03_works [])⟩
  (.op false ⟨(some 17), none, (.un .not (.tmp 16))⟩ .done))) (.cond (.tmp 17)
 (.seq
 (.reg false (.op false ⟨(some 4), none, (.mv (.const (.bool false)))⟩ .done)) .ret) .skip))
 (.seq (.seq
 (.reg false (.op false ⟨(some 18), none, (.mv (.tmp 0))⟩
  (.op false ⟨(some 19), none, (.mv (.tmp 1))⟩
  (.op false ⟨(some 20), none, (.bld [(0, 1), (1, 2), (3, 1), (4, 1), (5, 1)] [(.int .i64 0), (.int .i64 0), (.int .i64 0), (strV []), (.slice none 0 0), (.slice none 0 0)] [(4, (.tmp 18)), (3, (.tmp 19))])⟩
  (.op false ⟨(some 21), none, (.call f_thimbleref03_Bulk [(.tmp 20), (.const (.int .i64 1000))])⟩
  (.op false ⟨(some 22), none, (.bin .gtr (.tmp 21) (.const (.int .i64 1000)))⟩ .done)))))) (.cond (.tmp 22)
 (.seq
 (.reg false (.op false ⟨(some 4), none, (.mv (.const (.bool true)))⟩ .done)) .ret) .skip))
 (.seq
 (.reg false (.op false ⟨(some 24), none, (.mv (.tmp 0))⟩
  (.op false ⟨(some 25), none, (.mv (.tmp 1))⟩
  (.op false ⟨(some 26), none, (.call f_value_Make [(.tmp 24), (.tmp 25)])⟩
  (.op false ⟨(some 23), none, (.mv (.tmp 26))⟩
  (.op false ⟨(some 27), none, (.ext (.tmp 23) 0)⟩
  (.op false ⟨(some 28), none, (.ext (.tmp 23) 1)⟩
  (.op false ⟨(some 5), none, (.alo (.agg #[(.int .i64 0), (.int .i64 0), (.int .i64 0), (strV []), (.slice none 0 0), (.slice none 0 0)]))⟩
  (.op false ⟨none, none, (.st 6 (.tmp 5) (.tmp 27))⟩
  (.op false ⟨(some 6), none, (.mv (.tmp 28))⟩ .done))))))))))
 (.seq (.seq
 (.reg false (.op false ⟨(some 29), none, (.mv (.tmp 6))⟩
  (.op false ⟨(some 30), none, (.bin .neq (.tmp 29) (.const (.int .i64 0)))⟩ .done))) (.cond (.tmp 30)
 (.seq
 (.reg false (.op false ⟨(some 31), none, (.ld (some 6) (.tmp 5))⟩
  (.op false ⟨(some 32), none, (.bld [(0, 1), (1, 2), (3, 1), (4, 1), (5, 1)] [(.int .i64 0), (.int .i64 0), (.int .i64 0), (strV []), (.slice none 0 0), (.slice none 0 0)] [])⟩
  (.op false ⟨(some 33), none, (.call f_thimbleref03_Same [(.tmp 31), (.tmp 32)])⟩
  (.op false ⟨(some 4), none, (.mv (.tmp 33))⟩ .done))))) .ret) .skip))
 (.seq (.seq
 (.reg false (.op false ⟨(some 34), none, (.ld (some 6) (.tmp 5))⟩
  (.op false ⟨(some 35), none, (.call f_value_Right [(.tmp 34)])⟩
  (.op false ⟨(some 36), none, (.bin .neq (.tmp 35) (.const (.int .i64 0)))⟩
  (.op false ⟨(some 37), none, (.mv (.tmp 36))⟩
  (.op false ⟨(some 38), (some (37, false)), (.fld 0 (.tmp 5))⟩
  (.op false ⟨(some 39), (some (37, false)), (.ld none (.tmp 38))⟩
  (.op false ⟨(some 40), (some (37, false)), (.bin .neq (.tmp 39) (.const (.int .i64 6)))⟩
  (.op false ⟨(some 41), none, (.pick (.tmp 37) (.const (.bool true)) (.tmp 40))⟩
  (.op false ⟨(some 42), none, (.mv (.tmp 41))⟩
  (.op false ⟨(some 43), (some (42, false)), (.fld 5 (.tmp 5))⟩
  (.op false ⟨(some 44), (some (42, false)), (.ld none (.tmp 43))⟩
  (.op false ⟨(some 45), (some (42, false)), (.len (.tmp 44))⟩
  (.op false ⟨(some 46), (some (42, false)), (.fld 4 (.tmp 5))⟩
  (.op false ⟨(some 47), (some (42, false)), (.ld none (.tmp 46))⟩
  (.op false ⟨(some 48), (some (42, false)), (.len (.tmp 47))⟩
  (.op false ⟨(some 49), (some (42, false)), (.bin .neq (.tmp 45) (.tmp 48))⟩
  (.op false ⟨(some 50), none, (.pick (.tmp 42) (.const (.bool true)) (.tmp 49))⟩ .done)))))))))))))))))) (.cond (.tmp 50)
 (.seq
 (.reg false (.op false ⟨(some 4), none, (.mv (.const (.bool false)))⟩ .done)) .ret) .skip))
 (.seq (.seq
 (.reg false (.op false ⟨(some 51), none, (.fld 5 (.tmp 5))⟩
  (.op false ⟨(some 52), none, (.ld none (.tmp 51))⟩
  (.op false ⟨(some 53), none, (.len (.tmp 52))⟩
  (.op false ⟨(some 54), none, (.mv (.const (.int .i64 0)))⟩ .done))))) (.block 0 (.loop
 (.seq
 (.reg false (.op false ⟨(some 55), none, (.bin .lss (.tmp 54) (.tmp 53))⟩ .done))
 (.seq (.cond (.tmp 55) .skip (.exit 0))
 (.seq (.block 1
 (.seq
 (.reg false (.op false ⟨(some 56), none, (.mv (.tmp 54))⟩
  (.op false ⟨(some 57), none, (.idx 1 (.tmp 52) (.tmp 54))⟩
  (.op false ⟨(some 58), none, (.ld none (.tmp 57))⟩
  (.op false ⟨(some 7), none, (.mv (.tmp 56))⟩
  (.op false ⟨(some 8), none, (.mv (.tmp 58))⟩ .done))))))
 (.seq
 (.reg false (.op false ⟨(some 9), none, (.mv (.const (.int .i64 (-1))))⟩ .done))
 (.seq (.seq
 (.reg false (.op false ⟨(some 59), none, (.mv (.tmp 0))⟩
  (.op false ⟨(some 60), none, (.len (.tmp 59))⟩
  (.op false ⟨(some 61), none, (.mv (.const (.int .i64 0)))⟩ .done)))) (.block 2 (.loop
 (.seq
 (.reg false (.op false ⟨(some 62), none, (.bin .lss (.tmp 61) (.tmp 60))⟩ .done))
 (.seq (.cond (.tmp 62) .skip (.exit 2))
 (.seq (.block 3
 (.seq
 (.reg false (.op false ⟨(some 63), none, (.mv (.tmp 61))⟩
  (.op false ⟨(some 10), none, (.mv (.tmp 63))⟩ .done)))
 (.seq
 (.reg false (.op false ⟨(some 64), none, (.mv (.tmp 0))⟩
  (.op false ⟨(some 65), none, (.mv (.tmp 10))⟩
  (.op false ⟨(some 66), none, (.idx 1 (.tmp 64) (.tmp 65))⟩
  (.op false ⟨(some 67), none, (.ld none (.tmp 66))⟩
  (.op false ⟨(some 68), none, (.mv (.tmp 8))⟩
  (.op false ⟨(some 69), none, (.bin .eql (.tmp 67) (.tmp 68))⟩ .done))))))) (.cond (.tmp 69)
 (.reg false (.op false ⟨(some 70), none, (.mv (.tmp 10))⟩
  (.op false ⟨(some 9), none, (.mv (.tmp 70))⟩ .done))) .skip))))
 (.reg false (.op false ⟨(some 71), none, (.bin .add (.tmp 61) (.const (.int .i64 1)))⟩
  (.op false ⟨(some 61), none, (.mv (.tmp 71))⟩ .done)))))))))
 (.seq
 (.reg true (.op true ⟨(some 72), none, (.mv (.tmp 9))⟩
  (.op true ⟨(some 73), none, (.bin .lss (.tmp 72) (.const (.int .i64 0)))⟩
  (.op true ⟨(some 74), none, (.mv (.tmp 73))⟩
  (.op true ⟨(some 75), (some (74, false)), (.fld 4 (.tmp 5))⟩
  (.op true ⟨(some 76), (some (74, false)), (.ld none (.tmp 75))⟩
  (.op true ⟨(some 77), (some (74, false)), (.mv (.tmp 7))⟩
  (.op true ⟨(some 78), (some (74, false)), (.idx 6 (.tmp 76) (.tmp 77))⟩
  (.op true ⟨(some 79), (some (74, false)), (.ld (some 6) (.tmp 78))⟩
  (.op true ⟨(some 80), (some (74, false)), (.mv (.tmp 1))⟩
  (.op true ⟨(some 81), (some (74, false)), (.mv (.tmp 9))⟩
  (.op true ⟨(some 82), (some (74, false)), (.idx 6 (.tmp 80) (.tmp 81))⟩
  (.op true ⟨(some 83), (some (74, false)), (.ld (some 6) (.tmp 82))⟩
  (.op false ⟨(some 84), (some (74, false)), (.call f_value_Same [(.tmp 79), (.tmp 83)])⟩
  (.op true ⟨(some 85), (some (74, false)), (.un .not (.tmp 84))⟩
  (.op true ⟨(some 86), none, (.pick (.tmp 74) (.const (.bool true)) (.tmp 85))⟩ .done)))))))))))))))) (.cond (.tmp 86)
 (.seq
 (.reg false (.op false ⟨(some 4), none, (.mv (.const (.bool false)))⟩ .done)) .ret) .skip))))))
 (.reg false (.op false ⟨(some 87), none, (.bin .add (.tmp 54) (.const (.int .i64 1)))⟩
  (.op false ⟨(some 54), none, (.mv (.tmp 87))⟩ .done)))))))))
 (.seq (.seq
 (.reg false (.op false ⟨(some 88), none, (.mv (.tmp 0))⟩
  (.op false ⟨(some 89), none, (.len (.tmp 88))⟩
  (.op false ⟨(some 90), none, (.mv (.const (.int .i64 0)))⟩ .done)))) (.block 4 (.loop
 (.seq
 (.reg false (.op false ⟨(some 91), none, (.bin .lss (.tmp 90) (.tmp 89))⟩ .done))
 (.seq (.cond (.tmp 91) .skip (.exit 4))
 (.seq (.block 5
 (.seq
 (.reg false (.op false ⟨(some 92), none, (.idx 1 (.tmp 88) (.tmp 90))⟩
  (.op false ⟨(some 93), none, (.ld none (.tmp 92))⟩
  (.op false ⟨(some 12), none, (.mv (.tmp 93))⟩ .done))))
 (.seq
 (.reg false (.op false ⟨(some 13), none, (.mv (.const (.int .i64 0)))⟩ .done))
 (.seq (.seq
 (.reg false (.op false ⟨(some 94), none, (.fld 5 (.tmp 5))⟩
  (.op false ⟨(some 95), none, (.ld none (.tmp 94))⟩
  (.op false ⟨(some 96), none, (.len (.tmp 95))⟩
  (.op false ⟨(some 97), none, (.mv (.const (.int .i64 0)))⟩ .done))))) (.block 6 (.loop
 (.seq
 (.reg false (.op false ⟨(some 98), none, (.bin .lss (.tmp 97) (.tmp 96))⟩ .done))
 (.seq (.cond (.tmp 98) .skip (.exit 6))
 (.seq (.block 7
 (.seq
 (.reg false (.op false ⟨(some 99), none, (.idx 1 (.tmp 95) (.tmp 97))⟩
  (.op false ⟨(some 100), none, (.ld none (.tmp 99))⟩
  (.op false ⟨(some 15), none, (.mv (.tmp 100))⟩ .done))))
 (.seq
 (.reg false (.op false ⟨(some 101), none, (.mv (.tmp 15))⟩
  (.op false ⟨(some 102), none, (.mv (.tmp 12))⟩
  (.op false ⟨(some 103), none, (.bin .eql (.tmp 101) (.tmp 102))⟩ .done)))) (.cond (.tmp 103)
 (.reg false (.op false ⟨(some 104), none, (.mv (.tmp 13))⟩
  (.op false ⟨(some 105), none, (.bin .add (.tmp 104) (.const (.int .i64 1)))⟩
  (.op false ⟨(some 13), none, (.mv (.tmp 105))⟩ .done)))) .skip))))
 (.reg false (.op false ⟨(some 106), none, (.bin .add (.tmp 97) (.const (.int .i64 1)))⟩
  (.op false ⟨(some 97), none, (.mv (.tmp 106))⟩ .done)))))))))
 (.seq
 (.reg false (.op false ⟨(some 107), none, (.mv (.tmp 13))⟩
  (.op false ⟨(some 108), none, (.bin .neq (.tmp 107) (.const (.int .i64 1)))⟩ .done))) (.cond (.tmp 108)
 (.seq
 (.reg false (.op false ⟨(some 4), none, (.mv (.const (.bool false)))⟩ .done)) .ret) .skip))))))
 (.reg false (.op false ⟨(some 109), none, (.bin .add (.tmp 90) (.const (.int .i64 1)))⟩
  (.op false ⟨(some 90), none, (.mv (.tmp 109))⟩ .done)))))))))
 (.seq
 (.reg false (.op false ⟨(some 4), none, (.mv (.const (.bool true)))⟩ .done)) .ret)))))))))⟩

set_option maxHeartbeats 2000000 in
theorem valueFields_ok {T : PHeap → Prop} {P : Program} {f f1 f2 f3 f4 f5 f6 : FuncId} (hT : ∀ {d d' : PHeap}, Le d d' → T d → T d') (hd : decp P f = some (g_thimblelaw03_ValueFields f1 f2 f3 f4 f5 f6)) (h1 : W3Ok T P f1) (h2 : BulkOk P f2) (h3 : VMakeOk T P f3) (h4 : SameOk P f4) (h5 : RightOk T P f5) (h6 : SameOk P f6)
    {d : PHeap} {w1 w2 : Value} {ks : List (List UInt8)} {l : List V} (ht : T d) (hks : RStrs d w1 ks) (hl : RVals d w2 l) : GPure P f [w1, w2] d (.bool true) := by
  obtain ⟨ka, kc, rfl⟩ := RSl.val hks
  obtain ⟨la, lc, rfl⟩ := RSl.val hl
  have hp := pair_rval hks hl
  refine GPure.of' hd (Nat.le_of_ble_eq_true rfl) ?_
  show gwp P _ _ _ _ _
  (apply w_sq; apply w_reg; apply w_mvb; rfl; apply w_done0; apply w_sq; apply w_sq; apply w_reg)
  refine w_pure rfl (h1 ht) ?_
  (apply w_not; rfl; apply w_done0; apply w_ifF; rfl; apply w_skip; apply w_sq; apply w_sq; apply w_reg; apply w_mvs; rfl; apply w_mvs; rfl; apply w_bvQ; rfl; rfl)
  refine w_call0 rfl (h2 (pairV ks l) (most := 1000) hp (by omega)) (fun r d3 L3 _ ⟨hdd, z, hr, hz1, hz2, hz3, hL⟩ => ?_)
  subst hdd; subst hr; subst hL
  by_cases q2 : 1000 < z
  · (apply w_gtr; rfl; rfl; apply w_done0; refine w_ifdT rfl (by omega) ?_; apply w_sq; apply w_reg; apply w_mvb; rfl; apply w_done0; apply w_ret)
    exact finQ rfl
  have hbv : bulkV (pairV ks l) ≤ 1000 := by have := hz3 (by omega); omega
  obtain ⟨hb1, hb2, hb3⟩ := pair_bounds hbv
  have hr1 : ∀ x ∈ l, cntV x ≤ 1000000 := fun x hx => by have := (hb2 x hx).1; omega
  (apply w_gtr; rfl; rfl; apply w_done0; refine w_ifdF rfl (by omega) ?_; apply w_skip; apply w_sq; apply w_reg; apply w_mvs; rfl; apply w_mvs; rfl)
  refine w_call0 rfl (h3 ht hks hl (by omega) hr1) (fun r d4 L4 _ ⟨hdd, cs6, g, hr, hL, ho⟩ => ?_)
  subst hdd; subst hL; subst hr
  refine w_frz (fun d4 hl4 hg4 => ?_)
  have hRa := ho.rval hg4
  have ht4 := hT hl4 ht
  have hks4 : RSl 1 RStr d4 (.slice ka ks.length kc) ks := RStrs.mono hks hl4
  have hl44 : RSl 6 RVal d4 (.slice la l.length lc) l := RVals.mono hl hl4
  clear hp
  by_cases q3 : (makeTop ks l).2 ≠ 0
  · obtain ⟨g0, g1, g2, g3, g4, g5, rfl⟩ := six hRa.len
    have hz : sameV (makeTop ks l).1 V.zero = true := (sameV_iff _ _).2 (make_err q3)
    (apply w_mvu; rfl; apply w_ext; rfl; rfl; apply w_ext; rfl; rfl; apply w_alo; intro _ _)
    rename_i b5 T5
    refine w_stE 0 [g0, g1, g2, g3, g4, g5] rfl rfl rfl rfl (Nat.le_of_ble_eq_true rfl) (cell1_val _ _ _ hRa) rfl ?_
    (apply w_mvi; rfl; apply w_done0; apply w_sq; apply w_sq; apply w_reg; apply w_mvi; rfl; apply w_neq; rfl; rfl; apply w_done0; refine w_ifdT rfl (by omega) ?_; apply w_sq; apply w_reg; apply w_ldb 0; rfl; rfl; rfl; apply w_bvZ)
    refine w_pure rfl (h4 _ _ hRa RVal.zero) ?_
    rw [hz]
    (apply w_mvb; rfl; apply w_done0; apply w_ret)
    exact finQ rfl
  have q4 : (makeTop ks l).2 = 0 := by omega
  obtain ⟨hlen, hu, hrt, hdp, htop⟩ := make_fine q4
  have hmr := make_right hu hlen hrt
  have hlast := fun i hi hi2 => make_last (l := l) hu (i := i) hi hi2
  have hcnt := fun k hk => make_count (ks := ks) (l := l) hu (k := k) hk
  have hml := make_len ks l ks.length
  rw [if_neg (by omega)] at hmr
  have hmv : makeV ks l = .mk 6 0 0 [] (makeL ks l ks.length).2 (makeL ks l ks.length).1 := rfl
  rw [htop, hmv] at hRa
  rw [hmv] at hmr
  rw [q4]
  clear htop hmv ho
  generalize makeL ks l ks.length = o at *
  obtain ⟨oks, ol⟩ := o
  simp only at hRa hmr hlast hcnt hml
  obtain ⟨lv, kv, hcs, _, _, _, _, hll, hkk⟩ := hRa.open
  obtain ⟨oa, oc, rfl⟩ := RSl.val hll
  obtain ⟨pa, pc, rfl⟩ := RSl.val hkk
  subst hcs
  have hRb : RVal d4 [.int .i64 6, .int .i64 0, .int .i64 0, strV [], .slice oa ol.length oc, .slice pa oks.length pc] (.mk 6 0 0 [] ol oks) := hRa
  have hll' : RSl 6 RVal d4 (.slice oa ol.length oc) ol := hll
  have hkk' : RSl 1 RStr d4 (.slice pa oks.length pc) oks := hkk
  have hoo : (oks.length : Int) = ol.length := by omega
  (apply w_mvu; rfl; apply w_ext; rfl; rfl; apply w_ext; rfl; rfl; apply w_alo; intro _ _)
  rename_i b5 T5
  refine w_stE 0 [.int .i64 6, .int .i64 0, .int .i64 0, strV [], .slice oa ol.length oc, .slice pa oks.length pc] rfl rfl rfl rfl (Nat.le_of_ble_eq_true rfl) rfl rfl ?_
  (apply w_mvi; rfl; apply w_done0; apply w_sq; apply w_sq; apply w_reg; apply w_mvi; rfl; apply w_neq; rfl; rfl; apply w_done0; refine w_ifdF rfl (by omega) ?_; apply w_skip; apply w_sq; apply w_sq; apply w_reg; apply w_ldb 0; rfl; rfl; rfl)
  refine w_pure rfl (h5 ht4 hRb) ?_
  rw [hmr]
  (apply w_neq; rfl; rfl; apply w_mvb; rfl; refine w_gdF rfl (by omega) ?_; apply w_gT; rfl; apply w_fld; rfl; apply w_gT; rfl; apply w_ld; rfl; exact hc_i 0 rfl rfl; apply w_gT; rfl; apply w_neq; rfl; rfl; apply w_pickFb; rfl; rfl; apply w_mvb; rfl; refine w_gdF rfl (by omega) ?_; apply w_gT; rfl; apply w_fld; rfl; apply w_gT; rfl; apply w_ld; rfl; exact hc_i 0 rfl rfl; apply w_gT; rfl; apply w_len; rfl; apply w_gT; rfl; apply w_fld; rfl; apply w_gT; rfl; apply w_ld; rfl; exact hc_i 0 rfl rfl; apply w_gT; rfl; apply w_len; rfl; apply w_gT; rfl; apply w_neq; rfl; rfl; apply w_pickFb; rfl; rfl; apply w_done0; refine w_ifdF rfl (by omega) ?_; apply w_skip; apply w_sq; apply w_sq; apply w_reg; apply w_fld; rfl; apply w_ld; rfl; exact hc_i 0 rfl rfl; apply w_len; rfl; apply w_mvi; rfl; apply w_done0; apply w_block)
  refine w_loopN (α := Nat) (fun i => [(0, .slice ka ks.length kc), (1, .slice la l.length lc), (5, .pointer (some ⟨b5, 0, none⟩)), (52, .slice pa oks.length pc), (53, .int .i64 oks.length), (54, .int .i64 i)]) (fun _ => [bx b5 T5 [.int .i64 6, .int .i64 0, .int .i64 0, strV [], .slice oa ol.length oc, .slice pa oks.length pc]])
    (fun i => i ≤ oks.length) (fun i => oks.length - i) 0 ⟨rfl, rfl, rfl, rfl, rfl, rfl, trivial⟩ rfl (Nat.zero_le _) ?_
  rintro i ρ hi
  by_cases hc : i < oks.length
  · have hco : i < ol.length := by omega
    (apply w_sq; apply w_reg; apply w_lss; rfl; rfl; apply w_done0; apply w_sq; refine w_ifdT rfl (by omega) ?_; apply w_skip; apply w_sq; apply w_block; apply w_sq; apply w_reg; apply w_mvi; rfl; refine w_idxR (sz := 1) (R := RStr) (by rfl) (by assumption) (by rfl) rfl (by omega) ?_; rintro _ _ _ _ _ ⟨rfl, _⟩; apply w_ld; rfl; exact hc_ds0 (by assumption) rfl; apply w_mvi; rfl; apply w_mvt; rfl; apply w_done0; apply w_sq; apply w_reg; apply w_mvi; rfl; apply w_done0; apply w_sq; apply w_sq; apply w_reg; apply w_mvs; rfl; apply w_len; rfl; apply w_mvi; rfl; apply w_done0; apply w_block)
    refine w_loopN (α := Nat) (fun j => [(0, .slice ka ks.length kc), (1, .slice la l.length lc), (5, .pointer (some ⟨b5, 0, none⟩)), (7, .int .i64 i), (8, strV oks[i]), (9, .int .i64 (lastI ks oks[i] j)), (52, .slice pa oks.length pc), (53, .int .i64 oks.length), (54, .int .i64 i), (59, .slice ka ks.length kc), (60, .int .i64 ks.length), (61, .int .i64 j)]) (fun _ => [bx b5 T5 [.int .i64 6, .int .i64 0, .int .i64 0, strV [], .slice oa ol.length oc, .slice pa oks.length pc]])
      (fun j => j ≤ ks.length) (fun j => ks.length - j) 0 ⟨rfl, rfl, rfl, rfl, rfl, rfl, rfl, rfl, rfl, rfl, rfl, rfl, trivial⟩ rfl (Nat.zero_le _) ?_
    rintro j ρ hj
    by_cases hcj : j < ks.length
    · have hg : ks.getD j [] = ks[j] := by simp [hcj]
      by_cases he : ks[j] = oks[i]
      · have hl1 : lastI ks oks[i] (j + 1) = j := by rw [lastI, hg, if_pos he]
        (apply w_sq; apply w_reg; apply w_lss; rfl; rfl; apply w_done0; apply w_sq; refine w_ifdT rfl (by omega) ?_; apply w_skip; apply w_sq; apply w_block; apply w_sq; apply w_reg; apply w_mvi; rfl; apply w_mvi; rfl; apply w_done0; apply w_sq; apply w_reg; apply w_mvs; rfl; apply w_mvi; rfl; refine w_idxR (sz := 1) (R := RStr) (by rfl) (by assumption) (by rfl) rfl (by omega) ?_; rintro _ _ _ _ _ ⟨rfl, _⟩; apply w_ld; rfl; exact hc_ds0 (by assumption) rfl; apply w_mvt; rfl; apply w_seq; rfl; rfl; apply w_done0; refine w_ifdT rfl (by omega) ?_; apply w_reg; apply w_mvi; rfl; apply w_mvi; rfl; apply w_done0; apply w_reg; apply w_add; rfl; rfl; omega; omega; apply w_mvi; rfl; apply w_done0)
        exact ⟨j + 1, by omega, ⟨rfl, rfl, rfl, rfl, rfl, int_eq hl1.symm, rfl, rfl, rfl, rfl, rfl, int_eq (by omega), trivial⟩, rfl, rfl, hcj⟩
      · have hl1 : lastI ks oks[i] (j + 1) = lastI ks oks[i] j := by rw [lastI, hg, if_neg he]
        (apply w_sq; apply w_reg; apply w_lss; rfl; rfl; apply w_done0; apply w_sq; refine w_ifdT rfl (by omega) ?_; apply w_skip; apply w_sq; apply w_block; apply w_sq; apply w_reg; apply w_mvi; rfl; apply w_mvi; rfl; apply w_done0; apply w_sq; apply w_reg; apply w_mvs; rfl; apply w_mvi; rfl; refine w_idxR (sz := 1) (R := RStr) (by rfl) (by assumption) (by rfl) rfl (by omega) ?_; rintro _ _ _ _ _ ⟨rfl, _⟩; apply w_ld; rfl; exact hc_ds0 (by assumption) rfl; apply w_mvt; rfl; apply w_seq; rfl; rfl; apply w_done0; refine w_ifdF rfl (by omega) ?_; apply w_skip; apply w_reg; apply w_add; rfl; rfl; omega; omega; apply w_mvi; rfl; apply w_done0)
        exact ⟨j + 1, by omega, ⟨rfl, rfl, rfl, rfl, rfl, int_eq hl1.symm, rfl, rfl, rfl, rfl, rfl, int_eq (by omega), trivial⟩, rfl, rfl, hcj⟩
    obtain rfl : j = ks.length := by omega
    obtain ⟨hz0, hz1', hz2'⟩ := hlast i hc hco
    generalize lastI ks oks[i] ks.length = z' at *
    obtain ⟨n, rfl⟩ : ∃ n : Nat, z' = n := ⟨z'.toNat, by omega⟩
    have hnl : n < l.length := by omega
    have heq : ol[i] = l[n] := by rw [hz2']; simp [hnl]
    have hsv : sameV ol[i] l[n] = true := (sameV_iff _ _).2 heq
    have hn0 : ¬ ((n : Int) < 0) := by omega
    (apply w_sq; apply w_reg; apply w_lss; rfl; rfl; apply w_done0; apply w_sq; refine w_ifdF rfl (by omega) ?_; apply w_exit; apply w_sq; apply w_drawn; apply w_mvi; rfl; apply w_lss; rfl; rfl; apply w_mvb; rfl; refine w_gdF rfl (by omega) ?_; apply w_gT; rfl; apply w_fld; rfl; apply w_gT; rfl; apply w_ld; rfl; exact hc_i 0 rfl rfl; apply w_gT; rfl; apply w_mvi; rfl; apply w_gT; rfl; refine w_idxR (sz := 6) (R := RVal) (by rfl) (by assumption) (by rfl) rfl (by omega) ?_; rintro _ _ _ _ _ _; apply w_gT; rfl; apply w_ldd; rfl; assumption; assumption; apply w_gT; rfl; apply w_mvs; rfl; apply w_gT; rfl; apply w_mvi; rfl; apply w_gT; rfl; refine w_idxR (sz := 6) (R := RVal) (by rfl) (by assumption) (by rfl) rfl (by omega) ?_; rintro _ _ _ _ _ _; apply w_gT; rfl; apply w_ldd; rfl; assumption; assumption; apply w_gT; rfl)
    rename_i csa hcsa hDa hRa1 _ _ csb hcsb hDb hRb1
    refine w_pure rfl (h6 _ _ hRa1 hRb1) ?_
    rw [hsv]
    (apply w_gT; rfl; apply w_not; rfl; apply w_pickFb; rfl; rfl; apply w_done; apply w_ifF; rfl; apply w_skip; apply w_reg; apply w_add; rfl; rfl; omega; omega; apply w_mvi; rfl; apply w_done0)
    exact ⟨i + 1, by omega, ⟨rfl, rfl, rfl, rfl, rfl, int_eq (by omega), trivial⟩, rfl, rfl, hc⟩
  obtain rfl : i = oks.length := by omega
  (apply w_sq; apply w_reg; apply w_lss; rfl; rfl; apply w_done0; apply w_sq; refine w_ifdF rfl (by omega) ?_; apply w_exit; apply w_sq; apply w_sq; apply w_reg; apply w_mvs; rfl; apply w_len; rfl; apply w_mvi; rfl; apply w_done0; apply w_block)
  refine w_loopN (α := Nat) (fun i => [(0, .slice ka ks.length kc), (5, .pointer (some ⟨b5, 0, none⟩)), (88, .slice ka ks.length kc), (89, .int .i64 ks.length), (90, .int .i64 i)]) (fun _ => [bx b5 T5 [.int .i64 6, .int .i64 0, .int .i64 0, strV [], .slice oa ol.length oc, .slice pa oks.length pc]])
    (fun i => i ≤ ks.length) (fun i => ks.length - i) 0 ⟨rfl, rfl, rfl, rfl, rfl, trivial⟩ rfl (Nat.zero_le _) ?_
  rintro i ρ hi
  by_cases hc : i < ks.length
  · have hone := hcnt ks[i] (List.getElem_mem hc)
    (apply w_sq; apply w_reg; apply w_lss; rfl; rfl; apply w_done0; apply w_sq; refine w_ifdT rfl (by omega) ?_; apply w_skip; apply w_sq; apply w_block; apply w_sq; apply w_reg; refine w_idxR (sz := 1) (R := RStr) (by rfl) (by assumption) (by rfl) rfl (by omega) ?_; rintro _ _ _ _ _ ⟨rfl, _⟩; apply w_ld; rfl; exact hc_ds0 (by assumption) rfl; apply w_mvt; rfl; apply w_done0; apply w_sq; apply w_reg; apply w_mvi; rfl; apply w_done0; apply w_sq; apply w_sq; apply w_reg; apply w_fld; rfl; apply w_ld; rfl; exact hc_i 0 rfl rfl; apply w_len; rfl; apply w_mvi; rfl; apply w_done0; apply w_block)
    refine w_loopN (α := Nat) (fun j => [(0, .slice ka ks.length kc), (5, .pointer (some ⟨b5, 0, none⟩)), (12, strV ks[i]), (13, .int .i64 ((oks.take j).count ks[i] : Nat)), (88, .slice ka ks.length kc), (89, .int .i64 ks.length), (90, .int .i64 i), (95, .slice pa oks.length pc), (96, .int .i64 oks.length), (97, .int .i64 j)]) (fun _ => [bx b5 T5 [.int .i64 6, .int .i64 0, .int .i64 0, strV [], .slice oa ol.length oc, .slice pa oks.length pc]])
      (fun j => j ≤ oks.length) (fun j => oks.length - j) 0 ⟨rfl, rfl, rfl, rfl, rfl, rfl, rfl, rfl, rfl, rfl, trivial⟩ rfl (Nat.zero_le _) ?_
    rintro j ρ hj
    by_cases hcj : j < oks.length
    · have hle : (oks.take j).count ks[i] ≤ 1 := by rw [← hone]; exact (List.take_sublist j oks).count_le _
      by_cases he : oks[j] = ks[i]
      · have hl1 : (oks.take (j + 1)).count ks[i] = (oks.take j).count ks[i] + 1 := by rw [List.take_succ_eq_append_getElem hcj, List.count_append, he]; simp
        (apply w_sq; apply w_reg; apply w_lss; rfl; rfl; apply w_done0; apply w_sq; refine w_ifdT rfl (by omega) ?_; apply w_skip; apply w_sq; apply w_block; apply w_sq; apply w_reg; refine w_idxR (sz := 1) (R := RStr) (by rfl) (by assumption) (by rfl) rfl (by omega) ?_; rintro _ _ _ _ _ ⟨rfl, _⟩; apply w_ld; rfl; exact hc_ds0 (by assumption) rfl; apply w_mvt; rfl; apply w_done0; apply w_sq; apply w_reg; apply w_mvt; rfl; apply w_mvt; rfl; apply w_seq; rfl; rfl; apply w_done0; refine w_ifdT rfl (by omega) ?_; apply w_reg; apply w_mvi; rfl; apply w_add; rfl; rfl; omega; omega; apply w_mvi; rfl; apply w_done0; apply w_reg; apply w_add; rfl; rfl; omega; omega; apply w_mvi; rfl; apply w_done0)
        exact ⟨j + 1, by omega, ⟨rfl, rfl, rfl, int_eq (by omega), rfl, rfl, rfl, rfl, rfl, int_eq (by omega), trivial⟩, rfl, rfl, hcj⟩
      · have hl1 : (oks.take (j + 1)).count ks[i] = (oks.take j).count ks[i] := by rw [List.take_succ_eq_append_getElem hcj, List.count_append, List.count_singleton]; simp [he]
        (apply w_sq; apply w_reg; apply w_lss; rfl; rfl; apply w_done0; apply w_sq; refine w_ifdT rfl (by omega) ?_; apply w_skip; apply w_sq; apply w_block; apply w_sq; apply w_reg; refine w_idxR (sz := 1) (R := RStr) (by rfl) (by assumption) (by rfl) rfl (by omega) ?_; rintro _ _ _ _ _ ⟨rfl, _⟩; apply w_ld; rfl; exact hc_ds0 (by assumption) rfl; apply w_mvt; rfl; apply w_done0; apply w_sq; apply w_reg; apply w_mvt; rfl; apply w_mvt; rfl; apply w_seq; rfl; rfl; apply w_done0; refine w_ifdF rfl (by omega) ?_; apply w_skip; apply w_reg; apply w_add; rfl; rfl; omega; omega; apply w_mvi; rfl; apply w_done0)
        exact ⟨j + 1, by omega, ⟨rfl, rfl, rfl, int_eq (by omega), rfl, rfl, rfl, rfl, rfl, int_eq (by omega), trivial⟩, rfl, rfl, hcj⟩
    obtain rfl : j = oks.length := by omega
    rw [List.take_length, hone]
    (apply w_sq; apply w_reg; apply w_lss; rfl; rfl; apply w_done0; apply w_sq; refine w_ifdF rfl (by omega) ?_; apply w_exit; apply w_sq; apply w_reg; apply w_mvi; rfl; apply w_neq; rfl; rfl; apply w_done0; refine w_ifdF rfl (by omega) ?_; apply w_skip; apply w_reg; apply w_add; rfl; rfl; omega; omega; apply w_mvi; rfl; apply w_done0)
    exact ⟨i + 1, by omega, ⟨rfl, rfl, rfl, rfl, int_eq (by omega), trivial⟩, rfl, rfl, hc⟩
  obtain rfl : i = ks.length := by omega
  (apply w_sq; apply w_reg; apply w_lss; rfl; rfl; apply w_done0; apply w_sq; refine w_ifdF rfl (by omega) ?_; apply w_exit; apply w_sq; apply w_reg; apply w_mvb; rfl; apply w_done0; apply w_ret)
  exact finQ rfl
end Go.Gk.Val
end
