/-
  The law NodeHalves: of a node that can be cut both parts may be, and put together they are the node.
-/
import Derived.Test.YtjbpdhljjhpeeaaGkNodeO
import Derived.Test.YtjbpdhljjhpeeaaGkNodeE
namespace Go.Gk.Node
open Go Go.Gk
attribute [local irreducible] gwp gws

def g_thimblelaw20_NodeHalves (f_thimblelaw20_works f_thimbleref20_Bulk f_thimbleref20_Sound f_thimbleref20_Size f_node_Split f_node_Right f_node_Join f_thimbleref20_Same : Nat) : GFun :=
 ⟨107, [(.tmp 2)],
 (.seq
 (.reg false (.op false ⟨(some 1), none, (.box (.tmp 0))⟩
  (.op false ⟨(some 2), none, (.mv (.const (.bool false)))⟩ .done)))
 (.seq (.seq
 (.reg false (.op false ⟨(some 12), none, (.call f_thimblelaw20_works [])⟩
  (.op false ⟨(some 13), none, (.un .not (.tmp 12))⟩ .done))) (.cond (.tmp 13)
 (.seq
 (.reg false (.op false ⟨(some 2), none, (.mv (.const (.bool false)))⟩ .done)) .ret) .skip))
 (.seq (.seq
 (.reg false (.op false ⟨(some 14), none, (.ld (some 4) (.tmp 1))⟩
  (.op false ⟨(some 15), none, (.call f_thimbleref20_Bulk [(.tmp 14), (.const (.int .i64 3000))])⟩
  (.op false ⟨(some 16), none, (.bin .gtr (.tmp 15) (.const (.int .i64 3000)))⟩
  (.op false ⟨(some 17), none, (.mv (.tmp 16))⟩
  (.op false ⟨(some 18), (some (17, false)), (.ld (some 4) (.tmp 1))⟩
  (.op false ⟨(some 19), (some (17, false)), (.call f_thimbleref20_Sound [(.tmp 18)])⟩
  (.op false ⟨(some 20), (some (17, false)), (.un .not (.tmp 19))⟩
  (.op false ⟨(some 21), none, (.pick (.tmp 17) (.const (.bool true)) (.tmp 20))⟩
  (.op false ⟨(some 22), none, (.mv (.tmp 21))⟩
  (.op false ⟨(some 23), (some (22, false)), (.ld (some 4) (.tmp 1))⟩
  (.op false ⟨(some 24), (some (22, false)), (.call f_thimbleref20_Size [(.tmp 23)])⟩
  (.op false ⟨(some 25), (some (22, false)), (.bin .gtr (.tmp 24) (.const (.int .i64 336)))⟩
  (.op false ⟨(some 26), none, (.pick (.tmp 22) (.const (.bool true)) (.tmp 25))⟩ .done)))))))))))))) (.cond (.tmp 26)
 (.seq
 (.reg false (.op false ⟨(some 2), none, (.mv (.const (.bool true)))⟩ .done)) .ret) .skip))
 (.seq
 (.reg false (.op false ⟨(some 28), none, (.ld (some 4) (.tmp 1))⟩
  (.op false ⟨(some 29), none, (.call f_node_Split [(.tmp 28)])⟩
  (.op false ⟨(some 27), none, (.mv (.tmp 29))⟩
  (.op false ⟨(some 30), none, (.ext (.tmp 27) 0)⟩
  (.op false ⟨(some 31), none, (.ext (.tmp 27) 1)⟩
  (.op false ⟨(some 32), none, (.ext (.tmp 27) 2)⟩
  (.op false ⟨(some 33), none, (.ext (.tmp 27) 3)⟩
  (.op false ⟨(some 3), none, (.alo (.agg #[(.bool false), (.slice none 0 0), (.slice none 0 0), (.slice none 0 0)]))⟩
  (.op false ⟨(some 4), none, (.alo (.agg #[(.bool false), (.slice none 0 0), (.slice none 0 0), (.slice none 0 0)]))⟩
  (.op false ⟨none, none, (.st 4 (.tmp 3) (.tmp 30))⟩
  (.op false ⟨none, none, (.st 4 (.tmp 4) (.tmp 31))⟩
  (.op false ⟨(some 5), none, (.mv (.tmp 32))⟩
  (.op false ⟨(some 6), none, (.mv (.tmp 33))⟩ .done))))))))))))))
 (.seq
 (.reg false (.op false ⟨(some 7), none, (.mv (.const (.int .i64 3)))⟩ .done))
 (.seq (.seq
 (.reg false (.op false ⟨(some 34), none, (.fld 0 (.tmp 1))⟩
  (.op false ⟨(some 35), none, (.ld none (.tmp 34))⟩ .done))) (.cond (.tmp 35)
 (.reg false (.op false ⟨(some 7), none, (.mv (.const (.int .i64 2)))⟩ .done)) .skip))
 (.seq (.seq
 (.reg false (.op false ⟨(some 36), none, (.mv (.tmp 6))⟩
  (.op false ⟨(some 37), none, (.bin .neq (.tmp 36) (.const (.int .i64 0)))⟩ .done))) (.cond (.tmp 37)
 (.seq
 (.reg false (.op false ⟨(some 38), none, (.fld 1 (.tmp 1))⟩
  (.op false ⟨(some 39), none, (.ld none (.tmp 38))⟩
  (.op false ⟨(some 40), none, (.len (.tmp 39))⟩
  (.op false ⟨(some 41), none, (.mv (.tmp 7))⟩
  (.op false ⟨(some 42), none, (.bin .lss (.tmp 40) (.tmp 41))⟩
  (.op false ⟨(some 2), none, (.mv (.tmp 42))⟩ .done))))))) .ret) .skip))
 (.seq (.seq
 (.reg false (.op false ⟨(some 43), none, (.ld (some 4) (.tmp 3))⟩
  (.op false ⟨(some 44), none, (.call f_node_Right [(.tmp 43)])⟩
  (.op false ⟨(some 45), none, (.un .not (.tmp 44))⟩
  (.op false ⟨(some 46), none, (.mv (.tmp 45))⟩
  (.op false ⟨(some 47), (some (46, false)), (.ld (some 4) (.tmp 4))⟩
  (.op false ⟨(some 48), (some (46, false)), (.call f_node_Right [(.tmp 47)])⟩
  (.op false ⟨(some 49), (some (46, false)), (.un .not (.tmp 48))⟩
  (.op false ⟨(some 50), none, (.pick (.tmp 46) (.const (.bool true)) (.tmp 49))⟩
  (.op false ⟨(some 51), none, (.mv (.tmp 50))⟩
  (.op false ⟨(some 52), (some (51, false)), (.fld 1 (.tmp 3))⟩
  (.op false ⟨(some 53), (some (51, false)), (.ld none (.tmp 52))⟩
  (.op false ⟨(some 54), (some (51, false)), (.len (.tmp 53))⟩
  (.op false ⟨(some 55), (some (51, false)), (.bin .eql (.tmp 54) (.const (.int .i64 0)))⟩
  (.op false ⟨(some 56), none, (.pick (.tmp 51) (.const (.bool true)) (.tmp 55))⟩
  (.op false ⟨(some 57), none, (.mv (.tmp 56))⟩
  (.op false ⟨(some 58), (some (57, false)), (.fld 1 (.tmp 4))⟩
  (.op false ⟨(some 59), (some (57, false)), (.ld none (.tmp 58))⟩
  (.op false ⟨(some 60), (some (57, false)), (.len (.tmp 59))⟩
  (.op false ⟨(some 61), (some (57, false)), (.bin .eql (.tmp 60) (.const (.int .i64 0)))⟩
  (.op false ⟨(some 62), none, (.pick (.tmp 57) (.const (.bool true)) (.tmp 61))⟩ .done))))))))))))))))))))) (.cond (.tmp 62)
 (.seq
 (.reg false (.op false ⟨(some 2), none, (.mv (.const (.bool false)))⟩ .done)) .ret) .skip))
 (.seq (.seq
 (.reg false (.op false ⟨(some 63), none, (.fld 1 (.tmp 3))⟩
  (.op false ⟨(some 64), none, (.ld none (.tmp 63))⟩
  (.op false ⟨(some 65), none, (.len (.tmp 64))⟩
  (.op false ⟨(some 66), none, (.mv (.const (.int .i64 0)))⟩ .done))))) (.block 0 (.loop
 (.seq
 (.reg false (.op false ⟨(some 67), none, (.bin .lss (.tmp 66) (.tmp 65))⟩ .done))
 (.seq (.cond (.tmp 67) .skip (.exit 0))
 (.seq (.block 1
 (.seq
 (.reg false (.op false ⟨(some 68), none, (.idx 1 (.tmp 64) (.tmp 66))⟩
  (.op false ⟨(some 69), none, (.ld none (.tmp 68))⟩
  (.op false ⟨(some 9), none, (.mv (.tmp 69))⟩ .done))))
 (.seq
 (.reg false (.op false ⟨(some 70), none, (.mv (.tmp 9))⟩
  (.op false ⟨(some 71), none, (.b2s (.tmp 70))⟩
  (.op false ⟨(some 72), none, (.mv (.tmp 5))⟩
  (.op false ⟨(some 73), none, (.b2s (.tmp 72))⟩
  (.op false ⟨(some 74), none, (.bin .geq (.tmp 71) (.tmp 73))⟩ .done)))))) (.cond (.tmp 74)
 (.seq
 (.reg false (.op false ⟨(some 2), none, (.mv (.const (.bool false)))⟩ .done)) .ret) .skip))))
 (.reg false (.op false ⟨(some 75), none, (.bin .add (.tmp 66) (.const (.int .i64 1)))⟩
  (.op false ⟨(some 66), none, (.mv (.tmp 75))⟩ .done)))))))))
 (.seq (.seq
 (.reg false (.op false ⟨(some 76), none, (.fld 1 (.tmp 4))⟩
  (.op false ⟨(some 77), none, (.ld none (.tmp 76))⟩
  (.op false ⟨(some 78), none, (.len (.tmp 77))⟩
  (.op false ⟨(some 79), none, (.mv (.const (.int .i64 0)))⟩ .done))))) (.block 2 (.loop
 (.seq
 (.reg false (.op false ⟨(some 80), none, (.bin .lss (.tmp 79) (.tmp 78))⟩ .done))
 (.seq (.cond (.tmp 80) .skip (.exit 2))
 (.seq (.block 3
 (.seq
 (.reg false (.op false ⟨(some 81), none, (.idx 1 (.tmp 77) (.tmp 79))⟩
  (.op false ⟨(some 82), none, (.ld none (.tmp 81))⟩
  (.op false ⟨(some 11), none, (.mv (.tmp 82))⟩ .done))))
 (.seq
 (.reg false (.op false ⟨(some 83), none, (.mv (.tmp 11))⟩
  (.op false ⟨(some 84), none, (.b2s (.tmp 83))⟩
  (.op false ⟨(some 85), none, (.mv (.tmp 5))⟩
  (.op false ⟨(some 86), none, (.b2s (.tmp 85))⟩
  (.op false ⟨(some 87), none, (.bin .lss (.tmp 84) (.tmp 86))⟩
  (.op false ⟨(some 88), none, (.mv (.tmp 87))⟩
  (.op false ⟨(some 89), (some (88, false)), (.fld 0 (.tmp 1))⟩
  (.op false ⟨(some 90), (some (88, false)), (.ld none (.tmp 89))⟩
  (.op false ⟨(some 91), (some (88, false)), (.un .not (.tmp 90))⟩
  (.op false ⟨(some 92), (some (88, false)), (.mv (.tmp 91))⟩
  (.op false ⟨(some 93), (some (92, true)), (.mv (.tmp 11))⟩
  (.op false ⟨(some 94), (some (92, true)), (.b2s (.tmp 93))⟩
  (.op false ⟨(some 95), (some (92, true)), (.mv (.tmp 5))⟩
  (.op false ⟨(some 96), (some (92, true)), (.b2s (.tmp 95))⟩
  (.op false ⟨(some 97), (some (92, true)), (.bin .eql (.tmp 94) (.tmp 96))⟩
  (.op false ⟨(some 98), (some (88, false)), (.pick (.tmp 92) (.tmp 97) (.const (.bool false)))⟩
  (.op false ⟨(some 99), none, (.pick (.tmp 88) (.const (.bool true)) (.tmp 98))⟩ .done)))))))))))))))))) (.cond (.tmp 99)
 (.seq
 (.reg false (.op false ⟨(some 2), none, (.mv (.const (.bool false)))⟩ .done)) .ret) .skip))))
 (.reg false (.op false ⟨(some 100), none, (.bin .add (.tmp 79) (.const (.int .i64 1)))⟩
  (.op false ⟨(some 79), none, (.mv (.tmp 100))⟩ .done)))))))))
 (.seq
 (.reg true (.op true ⟨(some 101), none, (.ld (some 4) (.tmp 3))⟩
  (.op true ⟨(some 102), none, (.ld (some 4) (.tmp 4))⟩
  (.op true ⟨(some 103), none, (.mv (.tmp 5))⟩
  (.op true ⟨(some 105), none, (.ld (some 4) (.tmp 1))⟩
  (.op false ⟨(some 104), none, (.call f_node_Join [(.tmp 101), (.tmp 102), (.tmp 103)])⟩
  (.op false ⟨(some 106), none, (.call f_thimbleref20_Same [(.tmp 104), (.tmp 105)])⟩
  (.bar (.op true ⟨(some 2), none, (.mv (.tmp 106))⟩ .done))))))))) .ret)))))))))))⟩

set_option maxHeartbeats 1000000 in
theorem nodeHalves {P : Program} {f f1 f2 f3 f4 f5 f6 f7 f8 : FuncId} (hd : dec P f = some (g_thimblelaw20_NodeHalves f1 f2 f3 f4 f5 f6 f7 f8)) (h1 : WorksOk P f1) (h2 : BulkOk P f2) (h3 : SoundOk P f3) (h4 : SizeOk P f4) (h5 : SplitOk P f5) (h6 : RightOk P f6) (h7 : JoinOk P f7) (h8 : SameOk P f8)
    {d : PHeap} {cs : List Value} {n : NodeD} (hn : RNode d cs n) : GCall P f [.agg cs.toArray] d [] (Ret fun v _ _ => v = .bool true) := by
  refine GCall_of hd (Nat.le_of_ble_eq_true rfl) ?_
  have hn' := hn
  obtain ⟨kv, vv, iv, rfl, rk, rv, ri⟩ := hn'
  obtain ⟨ka, kc, rfl⟩ := RSl.val rk
  obtain ⟨va, vc, rfl⟩ := RSl.val rv
  obtain ⟨ia, ic, rfl⟩ := RSl.val ri
  show gwp P _ _ _ _ _
  apply w_sq; apply w_reg
  refine w_boxa (l := [.bool n.leaf, .slice ka n.keys.length kc, .slice va n.vals.length vc, .slice ia n.kids.length ic]) rfl (fun b1 T1 => ?_)
  refine w_frz (fun d1 hl1 hg1 => ?_)
  have hc1 := dcs_bx hg1
  have hn1 := RNode.mono hn hl1
  clear hn rk rv ri
  (apply w_mvb; rfl; apply w_done0; apply w_sq; apply w_sq; apply w_reg)
  refine w_call0 rfl h1 (fun r d2 L2 hl2 ⟨hr, hL⟩ => ?_)
  subst hr; subst hL
  replace hc1 := hc1.mono hl2
  replace hn1 := RNode.mono hn1 hl2
  (apply w_not; rfl; apply w_done0; apply w_ifF; rfl; apply w_skip; apply w_sq; apply w_sq; apply w_reg; apply w_ldd; rfl; assumption; rfl)
  refine w_call0 rfl (h2 hn1) (fun r d3 L3 _ ⟨z, hr, hz, hdd, hL⟩ => ?_)
  subst hr; subst hdd; subst hL
  by_cases hzz : z > 3000
  · (apply w_gtr; rfl; rfl; apply w_mvb; rfl; refine w_gdT rfl (by omega) ?_; apply w_gF; rfl; apply w_gF; rfl; apply w_gF; rfl; apply w_pickTb; rfl; rfl; apply w_mvb; rfl; apply w_gF; rfl; apply w_gF; rfl; apply w_gF; rfl; apply w_pickTb; rfl; rfl; apply w_done0; apply w_ifT; rfl; apply w_sq; apply w_reg; apply w_mvb; rfl; apply w_done0; apply w_ret)
    exact fin1n rfl rfl
  have hsm : Small n := Small.of_bulk (hz (by omega))
  (apply w_gtr; rfl; rfl; apply w_mvb; rfl; refine w_gdF rfl (by omega) ?_; apply w_gT; rfl; apply w_ldd; rfl; assumption; rfl; apply w_gT; rfl)
  refine w_pure rfl (h3 hn1) ?_
  cases hs : soundB n with
  | false =>
    (apply w_gT; rfl; apply w_not; rfl; apply w_pickFb; rfl; rfl; apply w_mvb; rfl; apply w_gF; rfl; apply w_gF; rfl; apply w_gF; rfl; apply w_pickTb; rfl; rfl; apply w_done0; apply w_ifT; rfl; apply w_sq; apply w_reg; apply w_mvb; rfl; apply w_done0; apply w_ret)
    exact fin1n rfl rfl
  | true =>
  (apply w_gT; rfl; apply w_not; rfl; apply w_pickFb; rfl; rfl; apply w_mvb; rfl; apply w_gT; rfl; apply w_ldd; rfl; assumption; rfl; apply w_gT; rfl)
  refine w_pure rfl (h4 hn1 hsm.1) ?_
  (apply w_gT; rfl; apply w_gtr; rfl; rfl; apply w_pickFb; rfl; rfl; apply w_done0)
  by_cases hsz : sizeD n > 336
  · (refine w_ifdT rfl (by omega) ?_; apply w_sq; apply w_reg; apply w_mvb; rfl; apply w_done0; apply w_ret)
    exact fin1n rfl rfl
  (refine w_ifdF rfl (by omega) ?_; apply w_skip; apply w_sq; apply w_reg; apply w_ldd; rfl; assumption; rfl)
  cases hcan : canB n with
  | false =>
    have h5' := h5 hn1 hsm
    rw [hcan] at h5'
    simp only [Bool.false_eq_true, if_false] at h5'
    refine w_call0 rfl h5' (fun r d4 L4 _ ⟨hdd, ca, cb, kw, La, Lb, g, hr, hL, oa, ob, og⟩ => ?_)
    subst hr; subst hdd; subst hL
    obtain ⟨p1, p2, p3, _, _, _, rfl, q1, q2, q3, _⟩ := oa
    obtain ⟨pa1, pc1, rfl⟩ := q1.val
    obtain ⟨pa2, pc2, rfl⟩ := q2.val
    obtain ⟨pa3, pc3, rfl⟩ := q3.val
    obtain ⟨p4, p5, p6, _, _, _, rfl, q4, q5, q6, _⟩ := ob
    obtain ⟨pa4, pc4, rfl⟩ := q4.val
    obtain ⟨pa5, pc5, rfl⟩ := q5.val
    obtain ⟨pa6, pc6, rfl⟩ := q6.val
    obtain ⟨ga, gc, rfl⟩ := og.val
    have hle : n.keys.length < (if n.leaf then 2 else 3) := by
      simp only [canB, hs, Bool.true_and, decide_eq_false_iff_not] at hcan; omega
    (apply w_mvu; rfl; apply w_ext; rfl; rfl; apply w_ext; rfl; rfl; apply w_ext; rfl; rfl; apply w_ext; rfl; rfl; apply w_alo; intro _ _; apply w_alo; intro _ _)
    refine w_st 1 rfl rfl rfl rfl (by simp [Value.cells]) rfl ?_
    refine w_st 0 rfl rfl rfl rfl (by simp [Value.cells]) rfl ?_
    cases hlf : n.leaf with
    | true =>
      rw [hlf] at hle
      simp only [if_true] at hle
      (apply w_mvs; rfl; apply w_mvi; rfl; apply w_done0; apply w_sq; apply w_reg; apply w_mvi; rfl; apply w_done0; apply w_sq; apply w_sq; apply w_reg; apply w_fld; rfl; apply w_ld; rfl; exact hc_ds (by assumption) rfl; apply w_done0; apply w_ifbT; rfl; (with_reducible assumption); apply w_reg; apply w_mvi; rfl; apply w_done0; apply w_sq; apply w_sq; apply w_reg; apply w_mvi; rfl; apply w_neq; rfl; rfl; apply w_done0; refine w_ifdT rfl (by omega) ?_; apply w_sq; apply w_reg; apply w_fld; rfl; apply w_ld; rfl; exact hc_ds (by assumption) rfl; apply w_len; rfl; apply w_mvi; rfl; apply w_lss; rfl; rfl; apply w_mvb; rfl; apply w_done0; apply w_ret)
      exact fin1n rfl (bool_eq (by simp; omega))
    | false =>
      rw [hlf] at hle
      simp only [Bool.false_eq_true, if_false] at hle
      (apply w_mvs; rfl; apply w_mvi; rfl; apply w_done0; apply w_sq; apply w_reg; apply w_mvi; rfl; apply w_done0; apply w_sq; apply w_sq; apply w_reg; apply w_fld; rfl; apply w_ld; rfl; exact hc_ds (by assumption) rfl; apply w_done0; apply w_ifbF; rfl; (with_reducible assumption); apply w_skip; apply w_sq; apply w_sq; apply w_reg; apply w_mvi; rfl; apply w_neq; rfl; rfl; apply w_done0; refine w_ifdT rfl (by omega) ?_; apply w_sq; apply w_reg; apply w_fld; rfl; apply w_ld; rfl; exact hc_ds (by assumption) rfl; apply w_len; rfl; apply w_mvi; rfl; apply w_lss; rfl; rfl; apply w_mvb; rfl; apply w_done0; apply w_ret)
      exact fin1n rfl (bool_eq (by simp; omega))
  | true =>
    have H := halves (by omega) hcan
    have hbk := hz (by omega)
    have hb1 := len_bsum n.keys n.keys.length
    have hb2 := len_bsum n.vals n.vals.length
    have hb3 : (splitL n).keys.length + (splitR n).keys.length ≤ n.keys.length + 2 ∧ (splitL n).vals.length + (splitR n).vals.length ≤ n.vals.length ∧ (splitL n).kids.length + (splitR n).kids.length ≤ n.kids.length := by
      simp only [splitL, splitR, hcan, if_true]
      split <;> simp <;> omega
    unfold bulkD at hbk
    obtain ⟨hb3, hb4, hb5⟩ := hb3
    have h5' := h5 hn1 hsm
    rw [hcan] at h5'
    simp only [if_true] at h5'
    refine w_call0 rfl h5' (fun r d4 L4 _ ⟨hdd, ca, cb, kw, La, Lb, g, hr, hL, oa, ob, og⟩ => ?_)
    subst hr; subst hdd; subst hL
    refine w_frzAll (fun d5 hl5 hg5 => ?_)
    have ra := oa.rnode hl5 (fun h hm => hg5 h (by simp [hm]))
    have rb := ob.rnode hl5 (fun h hm => hg5 h (by simp [hm]))
    have rkey : RBytes d5 kw (splitK n) := og.rsl mono_byte (by omega) hl5 (hg5 g (by simp))
    clear oa ob og
    have ra' := ra
    have rb' := rb
    obtain ⟨p1, p2, p3, rfl, q1, q2, q3⟩ := ra'
    obtain ⟨pa1, pc1, rfl⟩ := RSl.val q1
    obtain ⟨pa2, pc2, rfl⟩ := RSl.val q2
    obtain ⟨pa3, pc3, rfl⟩ := RSl.val q3
    obtain ⟨p4, p5, p6, rfl, q4, q5, q6⟩ := rb'
    obtain ⟨pa4, pc4, rfl⟩ := RSl.val q4
    obtain ⟨pa5, pc5, rfl⟩ := RSl.val q5
    obtain ⟨pa6, pc6, rfl⟩ := RSl.val q6
    obtain ⟨ga, gc, rfl⟩ := RSl.val rkey
    replace hc1 := hc1.mono hl5
    replace hn1 := RNode.mono hn1 hl5
    (apply w_mvu; rfl; apply w_ext; rfl; rfl; apply w_ext; rfl; rfl; apply w_ext; rfl; rfl; apply w_ext; rfl; rfl; apply w_alo; intro _ _; apply w_alo; intro _ _)
    rename_i b3 T3 b4 T4
    refine w_stE 1 [.bool (splitL n).leaf, .slice pa1 (splitL n).keys.length pc1, .slice pa2 (splitL n).vals.length pc2, .slice pa3 (splitL n).kids.length pc3] rfl rfl rfl rfl (by simp [Value.cells]) rfl rfl ?_
    refine w_stE 0 [.bool (splitR n).leaf, .slice pa4 (splitR n).keys.length pc4, .slice pa5 (splitR n).vals.length pc5, .slice pa6 (splitR n).kids.length pc6] rfl rfl rfl rfl (by simp [Value.cells]) rfl rfl ?_
    refine w_frz (fun d6 hl6 hg6 => w_frz (fun d7 hl7 hg7 => ?_))
    have hc4 := (dcs_bx hg6).mono hl7
    have hc3 := dcs_bx hg7
    replace hc1 := hc1.mono (hl6.trans hl7)
    replace hn1 := RNode.mono hn1 (hl6.trans hl7)
    replace ra := RNode.mono ra (hl6.trans hl7)
    replace rb := RNode.mono rb (hl6.trans hl7)
    replace rkey := RBytes.mono rkey (hl6.trans hl7)
    replace q1 := RBss.mono q1 (hl6.trans hl7)
    replace q4 := RBss.mono q4 (hl6.trans hl7)
    have n1 := H.n1
    have n2 := H.n2
    apply w_mv; apply w_mvi; rfl; apply w_done0; apply w_sq; apply w_reg; apply w_mvi; rfl; apply w_done0
    refine w_mid (fun ρ d' L' => d' = d7 ∧ SlotsAre ρ [(1, .pointer (some ⟨b1, 0, none⟩)), (3, .pointer (some ⟨b3, 0, none⟩)), (4, .pointer (some ⟨b4, 0, none⟩)), (5, .slice ga (splitK n).length gc), (6, .int .i64 0)]) ?_ ?_
    · apply w_sq; apply w_reg; apply w_fld; rfl
      refine w_ld rfl (hc_ds (i := 0) hc1 rfl) ?_
      apply w_done0
      first | refine w_ifd rfl (fun hl => ?_) (fun hl => ?_) | refine w_if rfl (fun hl => ?_) (fun hl => ?_)
      · (apply w_reg; apply w_mvi; rfl; apply w_done0)
        exact ⟨rfl, rfl, rfl, rfl, rfl, rfl, trivial⟩
      · (apply w_skip)
        exact ⟨rfl, rfl, rfl, rfl, rfl, rfl, trivial⟩
    · rintro ρ d8 L8 ⟨hdd, hsl⟩
      subst hdd
      refine gwp_slots _ hsl ?_
      have kll := RSl.len_le q1
      have klr := RSl.len_le q4
      have hr1 : GPure P f6 [.agg [.bool (splitL n).leaf, .slice pa1 (splitL n).keys.length pc1, .slice pa2 (splitL n).vals.length pc2, .slice pa3 (splitL n).kids.length pc3].toArray] d8 (.bool true) := by
        have h := H.r1
        have hz := h
        simp only [rightB, Bool.and_eq_true, decide_eq_true_eq] at hz
        have := h6 ra (by omega); rw [h] at this; exact this
      have hr2 : GPure P f6 [.agg [.bool (splitR n).leaf, .slice pa4 (splitR n).keys.length pc4, .slice pa5 (splitR n).vals.length pc5, .slice pa6 (splitR n).kids.length pc6].toArray] d8 (.bool true) := by
        have h := H.r2
        have hz := h
        simp only [rightB, Bool.and_eq_true, decide_eq_true_eq] at hz
        have := h6 rb (by omega); rw [h] at this; exact this
      (apply w_sq; apply w_sq; apply w_reg; apply w_mvi; rfl; apply w_neq; rfl; rfl; apply w_done0; refine w_ifdF rfl (by omega) ?_; apply w_skip; apply w_sq; apply w_sq; apply w_reg; apply w_ldd; rfl; assumption; rfl)
      refine w_pure rfl hr1 ?_
      (apply w_not; rfl; apply w_mvb; rfl; apply w_gT; rfl; apply w_ldd; rfl; assumption; rfl; apply w_gT; rfl)
      refine w_pure rfl hr2 ?_
      (apply w_gT; rfl; apply w_not; rfl; apply w_pickFb; rfl; rfl; apply w_mvb; rfl; apply w_gT; rfl; apply w_fld; rfl; apply w_gT; rfl; apply w_ld; rfl; exact hc_ds (by assumption) rfl; apply w_gT; rfl; apply w_len; rfl; apply w_gT; rfl; apply w_eql; rfl; rfl; apply w_pickFb; rfl; rfl; apply w_mvb; rfl; refine w_gdF rfl (by omega) ?_; apply w_gT; rfl; apply w_fld; rfl; apply w_gT; rfl; apply w_ld; rfl; exact hc_ds (by assumption) rfl; apply w_gT; rfl; apply w_len; rfl; apply w_gT; rfl; apply w_eql; rfl; rfl; apply w_pickFb; rfl; rfl; apply w_done0; refine w_ifdF rfl (by omega) ?_; apply w_skip; apply w_sq; apply w_sq; apply w_reg; apply w_fld; rfl; apply w_ld; rfl; exact hc_ds (by assumption) rfl; apply w_len; rfl; apply w_mvi; rfl; apply w_done0; apply w_block)
      refine w_loopN (α := Nat) (fun i => [(1, .pointer (some ⟨b1, 0, none⟩)), (3, .pointer (some ⟨b3, 0, none⟩)), (4, .pointer (some ⟨b4, 0, none⟩)), (5, .slice ga (splitK n).length gc), (64, .slice pa1 (splitL n).keys.length pc1), (65, .int .i64 (splitL n).keys.length), (66, .int .i64 i)])
        (fun _ => L8) (fun i => i ≤ (splitL n).keys.length) (fun i => (splitL n).keys.length - i) 0 ⟨rfl, rfl, rfl, rfl, rfl, rfl, rfl, trivial⟩ rfl (Nat.zero_le _) ?_
      intro i ρ hi
      (apply w_sq; apply w_reg; apply w_lss; rfl; rfl; apply w_done0; apply w_sq)
      first | refine w_ifd rfl (fun hc => ?_) (fun hc => ?_) | refine w_if rfl (fun hc => ?_) (fun hc => ?_)
      · have hi1 : i < (splitL n).keys.length := by omega
        have hlo : (!Op.bytesLess (splitL n).keys[i] (splitK n)) = false := by rw [H.lo i hi1]; rfl
        (apply w_skip; apply w_sq; apply w_block; apply w_sq; apply w_reg; refine w_idxR (sz := 1) (R := RBs) (by rfl) (by assumption) (by rfl) rfl (by omega) ?_; rintro _ _ _ _ _ ⟨_, rfl, _⟩; apply w_ld; rfl; exact hc_ds0 (by assumption) rfl; apply w_mv; apply w_done0; apply w_sq; apply w_reg; apply w_mv; apply w_b2sR; rfl; assumption; apply w_mvs; rfl; apply w_b2sR; rfl; assumption; apply w_sge; rfl; rfl; apply w_done0; apply w_ifbF; rfl; (with_reducible assumption); apply w_skip; apply w_reg; apply w_add; rfl; rfl; omega; omega; apply w_mvi; rfl; apply w_done0)
        exact ⟨i + 1, by omega, ⟨rfl, rfl, rfl, rfl, rfl, rfl, int_eq (by omega), trivial⟩, rfl, rfl, hi1⟩
      · (apply w_exit; apply w_sq; apply w_sq; apply w_reg; apply w_fld; rfl; apply w_ld; rfl; exact hc_ds (by assumption) rfl; apply w_len; rfl; apply w_mvi; rfl; apply w_done0; apply w_block)
        refine w_loopN (α := Nat) (fun i => [(1, .pointer (some ⟨b1, 0, none⟩)), (3, .pointer (some ⟨b3, 0, none⟩)), (4, .pointer (some ⟨b4, 0, none⟩)), (5, .slice ga (splitK n).length gc), (77, .slice pa4 (splitR n).keys.length pc4), (78, .int .i64 (splitR n).keys.length), (79, .int .i64 i)])
          (fun _ => L8) (fun i => i ≤ (splitR n).keys.length) (fun i => (splitR n).keys.length - i) 0 ⟨rfl, rfl, rfl, rfl, rfl, rfl, rfl, trivial⟩ rfl (Nat.zero_le _) ?_
        clear hi hc
        intro i ρ hi
        (apply w_sq; apply w_reg; apply w_lss; rfl; rfl; apply w_done0; apply w_sq)
        first | refine w_ifd rfl (fun hc => ?_) (fun hc => ?_) | refine w_if rfl (fun hc => ?_) (fun hc => ?_)
        · have hi1 : i < (splitR n).keys.length := by omega
          have hhi : Op.bytesLess (splitR n).keys[i] (splitK n) = false := by
            rcases H.hi i hi1 with h | ⟨h, _⟩
            · exact bl_asymm h
            · rw [h, bl_irrefl]
          cases hlf : n.leaf with
          | true =>
            rw [hlf] at hc1
            (apply w_skip; apply w_sq; apply w_block; apply w_sq; apply w_reg; refine w_idxR (sz := 1) (R := RBs) (by rfl) (by assumption) (by rfl) rfl (by omega) ?_; rintro _ _ _ _ _ ⟨_, rfl, _⟩; apply w_ld; rfl; exact hc_ds0 (by assumption) rfl; apply w_mv; apply w_done0; apply w_sq; apply w_reg; apply w_mv; apply w_b2sR; rfl; assumption; apply w_mvs; rfl; apply w_b2sR; rfl; assumption; apply w_slt; rfl; rfl; apply w_mvb; rfl; apply w_gbF; rfl; (with_reducible assumption); apply w_gT; rfl; apply w_fld; rfl; apply w_gT; rfl; apply w_ld; rfl; exact hc_ds (by assumption) rfl; apply w_gT; rfl; apply w_not; rfl; apply w_gT; rfl; apply w_mvb; rfl; apply w_gF; rfl; apply w_gF; rfl; apply w_gF; rfl; apply w_gF; rfl; apply w_gF; rfl; apply w_gT; rfl; apply w_pickFb; rfl; rfl; apply w_pickFb; rfl; rfl; apply w_done0; apply w_ifF; rfl; apply w_skip; apply w_reg; apply w_add; rfl; rfl; omega; omega; apply w_mvi; rfl; apply w_done0)
            exact ⟨i + 1, by omega, ⟨rfl, rfl, rfl, rfl, rfl, rfl, int_eq (by omega), trivial⟩, rfl, rfl, hi1⟩
          | false =>
            rw [hlf] at hc1
            have hne : ¬ (splitR n).keys[i] = splitK n := by
              rcases H.hi i hi1 with h | ⟨_, h⟩
              · intro e; rw [e, bl_irrefl] at h; cases h
              · rw [hlf] at h; cases h
            (apply w_skip; apply w_sq; apply w_block; apply w_sq; apply w_reg; refine w_idxR (sz := 1) (R := RBs) (by rfl) (by assumption) (by rfl) rfl (by omega) ?_; rintro _ _ _ _ _ ⟨_, rfl, _⟩; apply w_ld; rfl; exact hc_ds0 (by assumption) rfl; apply w_mv; apply w_done0; apply w_sq; apply w_reg; apply w_mv; apply w_b2sR; rfl; assumption; apply w_mvs; rfl; apply w_b2sR; rfl; assumption; apply w_slt; rfl; rfl; apply w_mvb; rfl; apply w_gbF; rfl; (with_reducible assumption); apply w_gT; rfl; apply w_fld; rfl; apply w_gT; rfl; apply w_ld; rfl; exact hc_ds (by assumption) rfl; apply w_gT; rfl; apply w_not; rfl; apply w_gT; rfl; apply w_mvb; rfl; apply w_gT; rfl; apply w_mv; apply w_gT; rfl; apply w_b2sR; rfl; assumption; apply w_gT; rfl; apply w_mvs; rfl; apply w_gT; rfl; apply w_b2sR; rfl; assumption; apply w_gT; rfl; apply w_seq; rfl; rfl; apply w_gT; rfl; apply w_pickTb; rfl; rfl; apply w_pickFb; rfl; rfl; apply w_done0; refine w_ifdF rfl (by omega) ?_; apply w_skip; apply w_reg; apply w_add; rfl; rfl; omega; omega; apply w_mvi; rfl; apply w_done0)
            exact ⟨i + 1, by omega, ⟨rfl, rfl, rfl, rfl, rfl, rfl, int_eq (by omega), trivial⟩, rfl, rfl, hi1⟩
        · (apply w_exit; apply w_sq; apply w_drawn; apply w_ldd; rfl; assumption; rfl; apply w_ldd; rfl; assumption; rfl; apply w_mvs; rfl; apply w_ldd; rfl; assumption; rfl)
          refine w_call0 rfl (h7 ra rb rkey (by omega) (by omega) (by omega)) (fun r d9 L9 hl9 ⟨hL, cj, hr, rj⟩ => ?_)
          subst hr; subst hL
          rw [H.all] at rj
          refine w_pure (v := .bool true) rfl (by have := h8 rj (RNode.mono hn1 hl9); rw [decide_eq_true rfl] at this; exact this) ?_
          (apply w_bar; apply w_mvb; rfl; apply w_done0; apply w_ret)
          exact fin1n rfl rfl
end Go.Gk.Node
