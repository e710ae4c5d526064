/-
  The law NodeSplits: the two nodes that one is cut into.
-/
import Derived.Test.YtjbpdhljjhpeeaaGkNodeF
namespace Go.Gk.Node
open Go Go.Gk
attribute [local irreducible] gwp gws

def g_thimblelaw20_NodeSplits (f_thimbleref20_Bulk f_thimblelaw20_works f_thimbleref20_Copy f_node_Split f_thimbleref20_Split f_thimbleref20_Same f_thimblelaw20_spoil : Nat) : GFun :=
 ⟨77, [(.tmp 2)],
 (.seq
 (.reg false (.op false ⟨(some 1), none, (.box (.tmp 0))⟩
  (.op false ⟨(some 2), none, (.mv (.const (.bool false)))⟩ .done)))
 (.seq (.seq
 (.reg false (.op false ⟨(some 13), none, (.ld (some 4) (.tmp 1))⟩
  (.op false ⟨(some 14), none, (.call f_thimbleref20_Bulk [(.tmp 13), (.const (.int .i64 3000))])⟩
  (.op false ⟨(some 15), none, (.bin .gtr (.tmp 14) (.const (.int .i64 3000)))⟩ .done)))) (.cond (.tmp 15)
 (.seq
 (.reg false (.op false ⟨(some 16), none, (.call f_thimblelaw20_works [])⟩
  (.op false ⟨(some 2), none, (.mv (.tmp 16))⟩ .done))) .ret) .skip))
 (.seq
 (.reg false (.op false ⟨(some 17), none, (.ld (some 4) (.tmp 1))⟩
  (.op false ⟨(some 18), none, (.call f_thimbleref20_Copy [(.tmp 17)])⟩
  (.op false ⟨(some 3), none, (.alo (.agg #[(.bool false), (.slice none 0 0), (.slice none 0 0), (.slice none 0 0)]))⟩
  (.op false ⟨none, none, (.st 4 (.tmp 3) (.tmp 18))⟩ .done)))))
 (.seq
 (.reg false (.op false ⟨(some 20), none, (.ld (some 4) (.tmp 3))⟩
  (.op false ⟨(some 21), none, (.call f_node_Split [(.tmp 20)])⟩
  (.op false ⟨(some 19), none, (.mv (.tmp 21))⟩
  (.op false ⟨(some 22), none, (.ext (.tmp 19) 0)⟩
  (.op false ⟨(some 23), none, (.ext (.tmp 19) 1)⟩
  (.op false ⟨(some 24), none, (.ext (.tmp 19) 2)⟩
  (.op false ⟨(some 25), none, (.ext (.tmp 19) 3)⟩
  (.op false ⟨(some 4), none, (.alo (.agg #[(.bool false), (.slice none 0 0), (.slice none 0 0), (.slice none 0 0)]))⟩
  (.op false ⟨(some 5), none, (.alo (.agg #[(.bool false), (.slice none 0 0), (.slice none 0 0), (.slice none 0 0)]))⟩
  (.op false ⟨none, none, (.st 4 (.tmp 4) (.tmp 22))⟩
  (.op false ⟨none, none, (.st 4 (.tmp 5) (.tmp 23))⟩
  (.op false ⟨(some 6), none, (.mv (.tmp 24))⟩
  (.op false ⟨(some 7), none, (.mv (.tmp 25))⟩ .done))))))))))))))
 (.seq
 (.reg false (.op false ⟨(some 27), none, (.ld (some 4) (.tmp 1))⟩
  (.op false ⟨(some 28), none, (.call f_thimbleref20_Split [(.tmp 27)])⟩
  (.op false ⟨(some 26), none, (.mv (.tmp 28))⟩
  (.op false ⟨(some 29), none, (.ext (.tmp 26) 0)⟩
  (.op false ⟨(some 30), none, (.ext (.tmp 26) 1)⟩
  (.op false ⟨(some 31), none, (.ext (.tmp 26) 2)⟩
  (.op false ⟨(some 32), none, (.ext (.tmp 26) 3)⟩
  (.op false ⟨(some 8), none, (.alo (.agg #[(.bool false), (.slice none 0 0), (.slice none 0 0), (.slice none 0 0)]))⟩
  (.op false ⟨(some 9), none, (.alo (.agg #[(.bool false), (.slice none 0 0), (.slice none 0 0), (.slice none 0 0)]))⟩
  (.op false ⟨none, none, (.st 4 (.tmp 8) (.tmp 29))⟩
  (.op false ⟨none, none, (.st 4 (.tmp 9) (.tmp 30))⟩
  (.op false ⟨(some 10), none, (.mv (.tmp 31))⟩
  (.op false ⟨(some 11), none, (.mv (.tmp 32))⟩ .done))))))))))))))
 (.seq (.seq
 (.reg false (.op false ⟨(some 33), none, (.ld (some 4) (.tmp 4))⟩
  (.op false ⟨(some 34), none, (.ld (some 4) (.tmp 8))⟩
  (.op false ⟨(some 35), none, (.call f_thimbleref20_Same [(.tmp 33), (.tmp 34)])⟩
  (.op false ⟨(some 36), none, (.un .not (.tmp 35))⟩
  (.op false ⟨(some 37), none, (.mv (.tmp 36))⟩
  (.op false ⟨(some 38), (some (37, false)), (.ld (some 4) (.tmp 5))⟩
  (.op false ⟨(some 39), (some (37, false)), (.ld (some 4) (.tmp 9))⟩
  (.op false ⟨(some 40), (some (37, false)), (.call f_thimbleref20_Same [(.tmp 38), (.tmp 39)])⟩
  (.op false ⟨(some 41), (some (37, false)), (.un .not (.tmp 40))⟩
  (.op false ⟨(some 42), none, (.pick (.tmp 37) (.const (.bool true)) (.tmp 41))⟩
  (.op false ⟨(some 43), none, (.mv (.tmp 42))⟩
  (.op false ⟨(some 44), (some (43, false)), (.mv (.tmp 6))⟩
  (.op false ⟨(some 45), (some (43, false)), (.b2s (.tmp 44))⟩
  (.op false ⟨(some 46), (some (43, false)), (.mv (.tmp 10))⟩
  (.op false ⟨(some 47), (some (43, false)), (.b2s (.tmp 46))⟩
  (.op false ⟨(some 48), (some (43, false)), (.bin .neq (.tmp 45) (.tmp 47))⟩
  (.op false ⟨(some 49), none, (.pick (.tmp 43) (.const (.bool true)) (.tmp 48))⟩
  (.op false ⟨(some 50), none, (.mv (.tmp 49))⟩
  (.op false ⟨(some 51), (some (50, false)), (.mv (.tmp 7))⟩
  (.op false ⟨(some 52), (some (50, false)), (.mv (.tmp 11))⟩
  (.op false ⟨(some 53), (some (50, false)), (.bin .neq (.tmp 51) (.tmp 52))⟩
  (.op false ⟨(some 54), none, (.pick (.tmp 50) (.const (.bool true)) (.tmp 53))⟩ .done))))))))))))))))))))))) (.cond (.tmp 54)
 (.seq
 (.reg false (.op false ⟨(some 2), none, (.mv (.const (.bool false)))⟩ .done)) .ret) .skip))
 (.seq
 (.reg false (.op false ⟨(some 55), none, (.ld (some 4) (.tmp 4))⟩
  (.op false ⟨(some 56), none, (.call f_thimblelaw20_spoil [(.tmp 55)])⟩ .done)))
 (.seq
 (.reg false (.op false ⟨(some 57), none, (.ld (some 4) (.tmp 5))⟩
  (.op false ⟨(some 58), none, (.call f_thimblelaw20_spoil [(.tmp 57)])⟩ .done)))
 (.seq (.seq
 (.reg false (.op false ⟨(some 59), none, (.mv (.tmp 6))⟩
  (.op false ⟨(some 60), none, (.len (.tmp 59))⟩
  (.op false ⟨(some 61), none, (.mv (.const (.int .i64 0)))⟩ .done)))) (.block 0 (.loop
 (.seq
 (.reg false (.op false ⟨(some 62), none, (.bin .lss (.tmp 61) (.tmp 60))⟩ .done))
 (.seq (.cond (.tmp 62) .skip (.exit 0))
 (.seq (.block 1
 (.seq
 (.reg false (.op false ⟨(some 63), none, (.mv (.tmp 61))⟩
  (.op false ⟨(some 12), none, (.mv (.tmp 63))⟩ .done)))
 (.reg false (.op false ⟨(some 64), none, (.mv (.tmp 6))⟩
  (.op false ⟨(some 65), none, (.mv (.tmp 12))⟩
  (.op false ⟨(some 66), none, (.idx 1 (.tmp 64) (.tmp 65))⟩
  (.op false ⟨(some 67), none, (.ld none (.tmp 66))⟩
  (.op false ⟨(some 68), none, (.bin .add (.tmp 67) (.const (.int .u8 1)))⟩
  (.op false ⟨(some 69), none, (.idx 1 (.tmp 64) (.tmp 65))⟩
  (.op false ⟨none, none, (.st 1 (.tmp 69) (.tmp 68))⟩ .done))))))))))
 (.reg false (.op false ⟨(some 70), none, (.bin .add (.tmp 61) (.const (.int .i64 1)))⟩
  (.op false ⟨(some 61), none, (.mv (.tmp 70))⟩ .done)))))))))
 (.seq
 (.reg false (.op false ⟨(some 71), none, (.ld (some 4) (.tmp 3))⟩
  (.op false ⟨(some 72), none, (.ld (some 4) (.tmp 1))⟩
  (.op false ⟨(some 73), none, (.call f_thimbleref20_Same [(.tmp 71), (.tmp 72)])⟩
  (.op false ⟨(some 74), none, (.mv (.tmp 73))⟩
  (.op false ⟨(some 75), (some (74, true)), (.call f_thimblelaw20_works [])⟩
  (.op false ⟨(some 76), none, (.pick (.tmp 74) (.tmp 75) (.const (.bool false)))⟩
  (.op false ⟨(some 2), none, (.mv (.tmp 76))⟩ .done)))))))) .ret))))))))))⟩

set_option maxHeartbeats 4000000 in
theorem nodeSplits {P : Program} {f f1 f2 f3 f4 f5 f6 f7 : FuncId} (hd : dec P f = some (g_thimblelaw20_NodeSplits f1 f2 f3 f4 f5 f6 f7)) (h1 : BulkOk P f1) (h2 : WorksOk P f2) (h3 : CopyOk P f3) (h4 : SplitOk P f4) (h5 : RSplitOk P f5) (h6 : SameOk P f6) (h7 : SpoilOk P f7)
    {d : PHeap} {cs : List Value} {n : NodeD} (hn : RNode d cs n) : GCall P f [.agg cs.toArray] d [] (Ret fun v _ _ => v = .bool true) := by
  refine GCall_of hd (Nat.le_of_ble_eq_true rfl) ?_
  have hn' := hn
  obtain ⟨kv, vv, iv, rfl, hk, hv, hiv⟩ : ∃ kv vv iv, cs = [.bool n.leaf, kv, vv, iv] ∧ RBss d kv n.keys ∧ RBss d vv n.vals ∧ RInts d iv n.kids := hn
  show gwp P _ _ _ _ _
  (apply w_sq; apply w_reg; apply w_boxa; rfl; intro _ _; apply w_mvb; rfl; apply w_done0; apply w_sq; apply w_sq; apply w_reg; apply w_ldb 0; rfl; rfl; rfl)
  rename_i b1 T1
  refine w_call0 rfl (h1 hn') (fun r d1 L1 _ ⟨z, hr, hz, hdd, hL⟩ => ?_)
  subst hr; subst hdd; subst hL
  by_cases hz' : z > 3000
  · (apply w_gtr; rfl; rfl; apply w_done0; refine w_ifdT rfl (by omega) ?_; apply w_sq; apply w_reg)
    refine w_call0 rfl h2 (fun r d2 L2 _ ⟨hr, hL⟩ => ?_)
    subst hr; subst hL
    (apply w_mvb; rfl; apply w_done0; apply w_ret)
    exact fin1n rfl rfl
  have hsm : Small n := Small.of_bulk (hz (by omega))
  (apply w_gtr; rfl; rfl; apply w_done0; refine w_ifdF rfl (by omega) ?_; apply w_skip; apply w_sq; apply w_reg; apply w_ldb 0; rfl; rfl; rfl)
  refine w_call0 rfl (h3 hn' hsm.1 hsm.2.1 hsm.2.2.1 hsm.2.2.2) (fun r d2 L2 hl2 ⟨hL, cs', hr, hcs⟩ => ?_)
  subst hr; subst hL
  have hcs' := hcs
  obtain ⟨kv', vv', iv', rfl, hk', hv', hiv'⟩ : ∃ kv vv iv, cs' = [.bool n.leaf, kv, vv, iv] ∧ RBss d2 kv n.keys ∧ RBss d2 vv n.vals ∧ RInts d2 iv n.kids := hcs
  obtain ⟨ka, kc, rfl⟩ := RSl.val hk'
  obtain ⟨va, vc, rfl⟩ := RSl.val hv'
  obtain ⟨ia, ic, rfl⟩ := RSl.val hiv'
  have hnd : RNode d2 [.bool n.leaf, kv, vv, iv] n := hn'.mono hl2
  (apply w_alo; intro _ _)
  rename_i b3 T3
  refine w_st 0 rfl rfl rfl rfl (by simp [Value.cells]) rfl ?_
  (apply w_done0; apply w_sq; apply w_reg; apply w_ldb 0; rfl; rfl; rfl)
  refine w_call0 rfl (h4 hcs' hsm) (fun r d3 L3 hl3 ⟨hdd, ca, cb, kvv, La, Lb, g, hr, hL, oa, ob, og⟩ => ?_)
  subst hr; subst hdd; subst hL
  obtain ⟨ga, gc, rfl⟩ := og.val
  have oa' := oa
  obtain ⟨p1, p2, p3, _, _, _, rfl, q1, q2, q3, _⟩ := oa'
  obtain ⟨pa1, pc1, rfl⟩ := q1.val
  obtain ⟨pa2, pc2, rfl⟩ := q2.val
  obtain ⟨pa3, pc3, rfl⟩ := q3.val
  have ob' := ob
  obtain ⟨p4, p5, p6, _, _, _, rfl, q4, q5, q6, _⟩ := ob'
  obtain ⟨pa4, pc4, rfl⟩ := q4.val
  obtain ⟨pa5, pc5, rfl⟩ := q5.val
  obtain ⟨pa6, pc6, rfl⟩ := q6.val
  refine w_vs _ (bx b3 T3 [.bool n.leaf, .slice ka n.keys.length kc, .slice va n.vals.length vc, .slice ia n.kids.length ic] :: bx b1 T1 [.bool n.leaf, kv, vv, iv] :: (La ++ Lb ++ [g])) (Vs.perm (List.perm_append_comm (l₁ := La ++ Lb ++ [g]) (l₂ := [bx b3 T3 [.bool n.leaf, .slice ka n.keys.length kc, .slice va n.vals.length vc, .slice ia n.kids.length ic], bx b1 T1 [.bool n.leaf, kv, vv, iv]]))) ?_
  (apply w_mvu; rfl; apply w_ext; rfl; rfl; apply w_ext; rfl; rfl; apply w_ext; rfl; rfl; apply w_ext; rfl; rfl; apply w_alo; intro _ _; apply w_alo; intro _ _)
  rename_i b4 T4 b5 T5
  refine w_st 1 rfl rfl rfl rfl (by simp [Value.cells]) rfl ?_
  refine w_st 0 rfl rfl rfl rfl (by simp [Value.cells]) rfl ?_
  (apply w_mvs; rfl; apply w_mvi; rfl; apply w_done0; apply w_sq; apply w_reg; apply w_ldb 3; rfl; rfl; rfl)
  refine w_call0 rfl (h5 hnd hsm) (fun r d4 L4 hl4 ⟨hdd, hL, cc, cd, kw, hr, oc, od, ow⟩ => ?_)
  subst hr; subst hdd; subst hL
  have oc' := oc
  obtain ⟨r1, r2, r3, rfl, s1, s2, s3⟩ := oc'
  obtain ⟨ra1, rc1, rfl⟩ := RSl.val s1
  obtain ⟨ra2, rc2, rfl⟩ := RSl.val s2
  obtain ⟨ra3, rc3, rfl⟩ := RSl.val s3
  have od' := od
  obtain ⟨r4, r5, r6, rfl, s4, s5, s6⟩ := od'
  obtain ⟨ra4, rc4, rfl⟩ := RSl.val s4
  obtain ⟨ra5, rc5, rfl⟩ := RSl.val s5
  obtain ⟨ra6, rc6, rfl⟩ := RSl.val s6
  (apply w_mvu; rfl; apply w_ext; rfl; rfl; apply w_ext; rfl; rfl; apply w_ext; rfl; rfl; apply w_ext; rfl; rfl; apply w_alo; intro _ _; apply w_alo; intro _ _)
  rename_i b8 T8 b9 T9
  refine w_st 1 rfl rfl rfl rfl (by simp [Value.cells]) rfl ?_
  refine w_st 0 rfl rfl rfl rfl (by simp [Value.cells]) rfl ?_
  (apply w_mv; apply w_mvi; rfl; apply w_done0; apply w_sq; apply w_sq; apply w_reg; apply w_ldb 3; rfl; rfl; rfl; apply w_ldb 1; rfl; rfl; rfl)
  refine w_vs _ (bx b9 T9 [.bool (splitR n).leaf, .slice ra4 (splitR n).keys.length rc4, .slice ra5 (splitR n).vals.length rc5, .slice ra6 (splitR n).kids.length rc6] :: bx b8 T8 [.bool (splitL n).leaf, .slice ra1 (splitL n).keys.length rc1, .slice ra2 (splitL n).vals.length rc2, .slice ra3 (splitL n).kids.length rc3] :: bx b5 T5 [.bool (splitR n).leaf, .slice pa4 (splitR n).keys.length pc4, .slice pa5 (splitR n).vals.length pc5, .slice pa6 (splitR n).kids.length pc6] :: bx b4 T4 [.bool (splitL n).leaf, .slice pa1 (splitL n).keys.length pc1, .slice pa2 (splitL n).vals.length pc2, .slice pa3 (splitL n).kids.length pc3] :: bx b3 T3 [.bool n.leaf, .slice ka n.keys.length kc, .slice va n.vals.length vc, .slice ia n.kids.length ic] :: bx b1 T1 [.bool n.leaf, kv, vv, iv] :: (La ++ Lb ++ [g])) (Vs.refl _ _) ?_
  refine w_pureB rfl (fun d1 hl hL => h6 (oa.rnode hl (fun h hm => hL h (by simp [hm]))) (oc.mono hl)) ?_
  have e1 : (!decide (splitL n = splitL n)) = false := by simp
  have e2 : (!decide (splitR n = splitR n)) = false := by simp
  (apply w_not; rfl; apply w_mvb; rfl; apply w_gbF; rfl; (with_reducible assumption); apply w_gT; rfl; apply w_ldb 2; rfl; rfl; rfl; apply w_gT; rfl; apply w_ldb 0; rfl; rfl; rfl; apply w_gT; rfl)
  refine w_pureB rfl (fun d1 hl hL => h6 (ob.rnode hl (fun h hm => hL h (by simp [hm]))) (od.mono hl)) ?_
  (apply w_gT; rfl; apply w_not; rfl; apply w_pickFb; rfl; rfl; apply w_mvb; rfl; apply w_gbF; rfl; (with_reducible assumption); apply w_gT; rfl; apply w_mvs; rfl; apply w_gT; rfl; refine w_b2sG (by rfl) (by assumption) (by simp [lk]) ?_; apply w_gT; rfl; apply w_mv; apply w_gT; rfl; apply w_b2sR; rfl; assumption; apply w_gT; rfl; apply w_sne; rfl; rfl; apply w_pickFb; rfl; rfl; apply w_mvb; rfl)
  refine w_gdF rfl (by simp) ?_
  (apply w_gT; rfl; apply w_mvi; rfl; apply w_gT; rfl; apply w_mvi; rfl; apply w_gT; rfl; apply w_neq; rfl; rfl; apply w_pickFb; rfl; rfl; apply w_done0; refine w_ifdF rfl (by omega) ?_; apply w_skip; apply w_sq; apply w_reg; apply w_ldb 3; rfl; rfl; rfl)
  refine w_vs _ (La ++ ([bx b9 T9 [.bool (splitR n).leaf, .slice ra4 (splitR n).keys.length rc4, .slice ra5 (splitR n).vals.length rc5, .slice ra6 (splitR n).kids.length rc6] , bx b8 T8 [.bool (splitL n).leaf, .slice ra1 (splitL n).keys.length rc1, .slice ra2 (splitL n).vals.length rc2, .slice ra3 (splitL n).kids.length rc3] , bx b5 T5 [.bool (splitR n).leaf, .slice pa4 (splitR n).keys.length pc4, .slice pa5 (splitR n).vals.length pc5, .slice pa6 (splitR n).kids.length pc6] , bx b4 T4 [.bool (splitL n).leaf, .slice pa1 (splitL n).keys.length pc1, .slice pa2 (splitL n).vals.length pc2, .slice pa3 (splitL n).kids.length pc3] , bx b3 T3 [.bool n.leaf, .slice ka n.keys.length kc, .slice va n.vals.length vc, .slice ia n.kids.length ic], bx b1 T1 [.bool n.leaf, kv, vv, iv]] ++ (Lb ++ [g]))) (by simpa [List.append_assoc] using Vs.picks [[bx b9 T9 [.bool (splitR n).leaf, .slice ra4 (splitR n).keys.length rc4, .slice ra5 (splitR n).vals.length rc5, .slice ra6 (splitR n).kids.length rc6] , bx b8 T8 [.bool (splitL n).leaf, .slice ra1 (splitL n).keys.length rc1, .slice ra2 (splitL n).vals.length rc2, .slice ra3 (splitL n).kids.length rc3] , bx b5 T5 [.bool (splitR n).leaf, .slice pa4 (splitR n).keys.length pc4, .slice pa5 (splitR n).vals.length pc5, .slice pa6 (splitR n).kids.length pc6] , bx b4 T4 [.bool (splitL n).leaf, .slice pa1 (splitL n).keys.length pc1, .slice pa2 (splitL n).vals.length pc2, .slice pa3 (splitL n).kids.length pc3] , bx b3 T3 [.bool n.leaf, .slice ka n.keys.length kc, .slice va n.vals.length vc, .slice ia n.kids.length ic], bx b1 T1 [.bool n.leaf, kv, vv, iv]], La, Lb, [g]] [1, 0, 2, 3] [] rfl) ?_
  refine w_callA (A := La) rfl rfl (h7 oa) (fun v d5 L5 _ ⟨hdd, hL⟩ => ?_)
  subst hdd; subst hL
  (apply w_done0; apply w_sq; apply w_reg; apply w_ldb 2; rfl; rfl; rfl)
  refine w_vs _ (Lb ++ ([bx b9 T9 [.bool (splitR n).leaf, .slice ra4 (splitR n).keys.length rc4, .slice ra5 (splitR n).vals.length rc5, .slice ra6 (splitR n).kids.length rc6] , bx b8 T8 [.bool (splitL n).leaf, .slice ra1 (splitL n).keys.length rc1, .slice ra2 (splitL n).vals.length rc2, .slice ra3 (splitL n).kids.length rc3] , bx b5 T5 [.bool (splitR n).leaf, .slice pa4 (splitR n).keys.length pc4, .slice pa5 (splitR n).vals.length pc5, .slice pa6 (splitR n).kids.length pc6] , bx b4 T4 [.bool (splitL n).leaf, .slice pa1 (splitL n).keys.length pc1, .slice pa2 (splitL n).vals.length pc2, .slice pa3 (splitL n).kids.length pc3] , bx b3 T3 [.bool n.leaf, .slice ka n.keys.length kc, .slice va n.vals.length vc, .slice ia n.kids.length ic], bx b1 T1 [.bool n.leaf, kv, vv, iv]] ++ [g])) (by simpa [List.append_assoc] using Vs.picks [[bx b9 T9 [.bool (splitR n).leaf, .slice ra4 (splitR n).keys.length rc4, .slice ra5 (splitR n).vals.length rc5, .slice ra6 (splitR n).kids.length rc6] , bx b8 T8 [.bool (splitL n).leaf, .slice ra1 (splitL n).keys.length rc1, .slice ra2 (splitL n).vals.length rc2, .slice ra3 (splitL n).kids.length rc3] , bx b5 T5 [.bool (splitR n).leaf, .slice pa4 (splitR n).keys.length pc4, .slice pa5 (splitR n).vals.length pc5, .slice pa6 (splitR n).kids.length pc6] , bx b4 T4 [.bool (splitL n).leaf, .slice pa1 (splitL n).keys.length pc1, .slice pa2 (splitL n).vals.length pc2, .slice pa3 (splitL n).kids.length pc3] , bx b3 T3 [.bool n.leaf, .slice ka n.keys.length kc, .slice va n.vals.length vc, .slice ia n.kids.length ic], bx b1 T1 [.bool n.leaf, kv, vv, iv]], Lb, [g]] [1, 0, 2] [] rfl) ?_
  refine w_callA (A := Lb) rfl rfl (h7 ob) (fun v d6 L6 _ ⟨hdd, hL⟩ => ?_)
  subst hdd; subst hL
  (apply w_done0; apply w_sq; apply w_sq; apply w_reg; apply w_mvs; rfl; apply w_len; rfl; apply w_mvi; rfl; apply w_done0; apply w_block)
  have hkl : (splitK n).length ≤ 140737488355328 := og.len_le
  refine w_loopS (α := Nat × List UInt8 × PHeap) (fun x => [(1, .pointer (some ⟨b1, 0, none⟩)), (3, .pointer (some ⟨b3, 0, none⟩)), (6, .slice ga (splitK n).length gc), (60, .int .i64 (splitK n).length), (61, .int .i64 x.1)])
    (fun x d' L' => d6 = d' ∧ x.1 ≤ (splitK n).length ∧ x.2.1.length = (splitK n).length ∧ GRow 1 RByte d6 (.slice ga (splitK n).length gc) x.2.1 x.2.2 ∧ L' = [bx b9 T9 [.bool (splitR n).leaf, .slice ra4 (splitR n).keys.length rc4, .slice ra5 (splitR n).vals.length rc5, .slice ra6 (splitR n).kids.length rc6] , bx b8 T8 [.bool (splitL n).leaf, .slice ra1 (splitL n).keys.length rc1, .slice ra2 (splitL n).vals.length rc2, .slice ra3 (splitL n).kids.length rc3] , bx b5 T5 [.bool (splitR n).leaf, .slice pa4 (splitR n).keys.length pc4, .slice pa5 (splitR n).vals.length pc5, .slice pa6 (splitR n).kids.length pc6] , bx b4 T4 [.bool (splitL n).leaf, .slice pa1 (splitL n).keys.length pc1, .slice pa2 (splitL n).vals.length pc2, .slice pa3 (splitL n).kids.length pc3] , bx b3 T3 [.bool n.leaf, .slice ka n.keys.length kc, .slice va n.vals.length vc, .slice ia n.kids.length ic], bx b1 T1 [.bool n.leaf, kv, vv, iv]] ++ [x.2.2]) (fun x => (splitK n).length - x.1) (0, splitK n, g) ⟨rfl, rfl, rfl, rfl, rfl, trivial⟩ ⟨rfl, Nat.zero_le _, rfl, og, rfl⟩ ?_
  rintro ⟨k, ys, g'⟩ ρ d' L' ⟨hdd, hk1, hyl, hg, hL⟩
  simp only at hk1 hyl hg hL
  subst hdd; subst hL
  (apply w_sq; apply w_reg; apply w_lss; rfl; rfl; apply w_done0; apply w_sq)
  first | refine w_ifd rfl (fun hc => ?_) (fun hc => ?_) | refine w_if rfl (fun hc => ?_) (fun hc => ?_)
  · have hk2 : k < ys.length := by first | omega | (simp only at hc; omega)
    have hop := hg.openB hk2
    obtain ⟨yb, yT, yl, yc, e3, rfl, hop⟩ := hop
    have hyml := hop.1
    have hyg := hop.2.1
    have hyset := hop.2.2
    clear hop
    rw [hyl] at e3
    simp only [Value.slice.injEq, true_and] at e3
    obtain ⟨rfl, rfl⟩ := e3
    (apply w_skip; apply w_sq; apply w_block; apply w_sq; apply w_reg; apply w_mvi; rfl; apply w_mvi; rfl; apply w_done0; apply w_reg; apply w_mvs; rfl; apply w_mvi; rfl)
    refine w_idx1 k rfl rfl rfl (by omega) ?_
    (apply w_ld; rfl; exact hc_i 6 rfl (by simpa using hyg))
    refine w_addB rfl rfl ?_
    skip
    refine w_idx1 k rfl rfl rfl (by omega) ?_
    refine w_st 6 rfl rfl rfl rfl (by first | omega | (simp [Value.cells, byteV]; omega)) rfl ?_
    (apply w_done0; apply w_reg; apply w_add; rfl; rfl; omega; omega; apply w_mvi; rfl; apply w_done0)
    exact ⟨(k + 1, ys.set k _, _), by first | omega | (simp only; omega), ⟨rfl, rfl, rfl, rfl, int_eq (by simp), trivial⟩, rfl, by first | omega | (simp only; omega), by simpa using hyl, hyset _, rfl⟩
  · (apply w_exit; apply w_sq; apply w_reg; apply w_ldb 4; rfl; rfl; rfl; apply w_ldb 5; rfl; rfl; rfl)
    have hs : GPure P f6 [.agg [.bool n.leaf, .slice ka n.keys.length kc, .slice va n.vals.length vc, .slice ia n.kids.length ic].toArray, .agg [.bool n.leaf, kv, vv, iv].toArray] _ (.bool (decide (n = n))) := h6 hcs' hnd
    refine w_pure (vs := [.agg [.bool n.leaf, .slice ka n.keys.length kc, .slice va n.vals.length vc, .slice ia n.kids.length ic].toArray, .agg [.bool n.leaf, kv, vv, iv].toArray]) rfl hs ?_
    (apply w_mvb; rfl; refine w_gdT rfl (by with_reducible rfl) ?_; apply w_gT; rfl)
    refine w_call0 rfl h2 (fun r d2 L2 _ ⟨hr, hL⟩ => ?_)
    subst hr; subst hL
    (apply w_pickTb; rfl; rfl; apply w_mvb; rfl; apply w_done0; apply w_ret)
    exact fin1n rfl rfl
end Go.Gk.Node
