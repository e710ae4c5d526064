/-
  The law NodeBack: what is written of a node is read, and what is read is written so.
-/
import Derived.Test.YtjbpdhljjhpeeaaGkNodeM
namespace Go.Gk.Node
open Go Go.Gk
attribute [local irreducible] gwp gws

def g_thimblelaw20_NodeBack (f_thimblelaw20_works f_thimbleref20_Bulk f_node_Bytes f_node_Read f_thimbleref20_Same f_node_Right : Nat) : GFun :=
 ⟨67, [(.tmp 4)],
 (.seq
 (.reg false (.op false ⟨(some 2), none, (.box (.tmp 0))⟩
  (.op false ⟨(some 4), none, (.mv (.const (.bool false)))⟩ .done)))
 (.seq (.seq
 (.reg false (.op false ⟨(some 13), none, (.call f_thimblelaw20_works [])⟩
  (.op false ⟨(some 14), none, (.un .not (.tmp 13))⟩ .done))) (.cond (.tmp 14)
 (.seq
 (.reg false (.op false ⟨(some 4), none, (.mv (.const (.bool false)))⟩ .done)) .ret) .skip))
 (.seq (.seq
 (.reg false (.op false ⟨(some 15), none, (.ld (some 4) (.tmp 2))⟩
  (.op false ⟨(some 16), none, (.call f_thimbleref20_Bulk [(.tmp 15), (.const (.int .i64 3000))])⟩
  (.op false ⟨(some 17), none, (.bin .gtr (.tmp 16) (.const (.int .i64 3000)))⟩ .done)))) (.cond (.tmp 17)
 (.seq
 (.reg false (.op false ⟨(some 4), none, (.mv (.const (.bool true)))⟩ .done)) .ret) .skip))
 (.seq (.seq
 (.reg false (.op false ⟨(some 19), none, (.ld (some 4) (.tmp 2))⟩
  (.op false ⟨(some 20), none, (.call f_node_Bytes [(.tmp 19)])⟩
  (.op false ⟨(some 18), none, (.mv (.tmp 20))⟩
  (.op false ⟨(some 21), none, (.ext (.tmp 18) 0)⟩
  (.op false ⟨(some 22), none, (.ext (.tmp 18) 1)⟩
  (.op false ⟨(some 5), none, (.mv (.tmp 21))⟩
  (.op false ⟨(some 6), none, (.mv (.tmp 22))⟩ .done))))))))
 (.seq
 (.reg false (.op false ⟨(some 23), none, (.mv (.tmp 6))⟩
  (.op false ⟨(some 24), none, (.bin .eql (.tmp 23) (.const (.int .i64 0)))⟩ .done))) (.cond (.tmp 24)
 (.seq
 (.reg false (.op false ⟨(some 26), none, (.mv (.tmp 5))⟩
  (.op false ⟨(some 27), none, (.call f_node_Read [(.tmp 26)])⟩
  (.op false ⟨(some 25), none, (.mv (.tmp 27))⟩
  (.op false ⟨(some 28), none, (.ext (.tmp 25) 0)⟩
  (.op false ⟨(some 29), none, (.ext (.tmp 25) 1)⟩
  (.op false ⟨(some 7), none, (.alo (.agg #[(.bool false), (.slice none 0 0), (.slice none 0 0), (.slice none 0 0)]))⟩
  (.op false ⟨none, none, (.st 4 (.tmp 7) (.tmp 28))⟩
  (.op false ⟨(some 8), none, (.mv (.tmp 29))⟩ .done)))))))))
 (.seq
 (.reg false (.op false ⟨(some 30), none, (.mv (.tmp 8))⟩
  (.op false ⟨(some 31), none, (.bin .neq (.tmp 30) (.const (.int .i64 0)))⟩
  (.op false ⟨(some 32), none, (.mv (.tmp 31))⟩
  (.op false ⟨(some 33), (some (32, false)), (.ld (some 4) (.tmp 7))⟩
  (.op false ⟨(some 34), (some (32, false)), (.ld (some 4) (.tmp 2))⟩
  (.op false ⟨(some 35), (some (32, false)), (.call f_thimbleref20_Same [(.tmp 33), (.tmp 34)])⟩
  (.op false ⟨(some 36), (some (32, false)), (.un .not (.tmp 35))⟩
  (.op false ⟨(some 37), none, (.pick (.tmp 32) (.const (.bool true)) (.tmp 36))⟩
  (.op false ⟨(some 38), none, (.mv (.tmp 37))⟩
  (.op false ⟨(some 39), (some (38, false)), (.ld (some 4) (.tmp 7))⟩
  (.op false ⟨(some 40), (some (38, false)), (.call f_node_Right [(.tmp 39)])⟩
  (.op false ⟨(some 41), (some (38, false)), (.un .not (.tmp 40))⟩
  (.op false ⟨(some 42), none, (.pick (.tmp 38) (.const (.bool true)) (.tmp 41))⟩ .done)))))))))))))) (.cond (.tmp 42)
 (.seq
 (.reg false (.op false ⟨(some 4), none, (.mv (.const (.bool false)))⟩ .done)) .ret) .skip))) .skip)))
 (.seq
 (.reg false (.op false ⟨(some 44), none, (.mv (.tmp 1))⟩
  (.op false ⟨(some 45), none, (.call f_node_Read [(.tmp 44)])⟩
  (.op false ⟨(some 43), none, (.mv (.tmp 45))⟩
  (.op false ⟨(some 46), none, (.ext (.tmp 43) 0)⟩
  (.op false ⟨(some 47), none, (.ext (.tmp 43) 1)⟩
  (.op false ⟨(some 9), none, (.alo (.agg #[(.bool false), (.slice none 0 0), (.slice none 0 0), (.slice none 0 0)]))⟩
  (.op false ⟨none, none, (.st 4 (.tmp 9) (.tmp 46))⟩
  (.op false ⟨(some 10), none, (.mv (.tmp 47))⟩ .done)))))))))
 (.seq (.seq
 (.reg false (.op false ⟨(some 48), none, (.mv (.tmp 10))⟩
  (.op false ⟨(some 49), none, (.bin .neq (.tmp 48) (.const (.int .i64 0)))⟩ .done))) (.cond (.tmp 49)
 (.seq
 (.reg false (.op false ⟨(some 50), none, (.ld (some 4) (.tmp 9))⟩
  (.op false ⟨(some 51), none, (.bld [(0, 1), (1, 1), (2, 1), (3, 1)] [(.bool false), (.slice none 0 0), (.slice none 0 0), (.slice none 0 0)] [])⟩
  (.op false ⟨(some 52), none, (.call f_thimbleref20_Same [(.tmp 50), (.tmp 51)])⟩
  (.op false ⟨(some 4), none, (.mv (.tmp 52))⟩ .done))))) .ret) .skip))
 (.seq
 (.reg false (.op false ⟨(some 54), none, (.ld (some 4) (.tmp 9))⟩
  (.op false ⟨(some 55), none, (.call f_node_Bytes [(.tmp 54)])⟩
  (.op false ⟨(some 53), none, (.mv (.tmp 55))⟩
  (.op false ⟨(some 56), none, (.ext (.tmp 53) 0)⟩
  (.op false ⟨(some 57), none, (.ext (.tmp 53) 1)⟩
  (.op false ⟨(some 11), none, (.mv (.tmp 56))⟩
  (.op false ⟨(some 12), none, (.mv (.tmp 57))⟩ .done))))))))
 (.seq
 (.reg false (.op false ⟨(some 58), none, (.mv (.tmp 12))⟩
  (.op false ⟨(some 59), none, (.bin .eql (.tmp 58) (.const (.int .i64 0)))⟩
  (.op false ⟨(some 60), none, (.mv (.tmp 59))⟩
  (.op false ⟨(some 61), (some (60, true)), (.mv (.tmp 11))⟩
  (.op false ⟨(some 62), (some (60, true)), (.b2s (.tmp 61))⟩
  (.op false ⟨(some 63), (some (60, true)), (.mv (.tmp 1))⟩
  (.op false ⟨(some 64), (some (60, true)), (.b2s (.tmp 63))⟩
  (.op false ⟨(some 65), (some (60, true)), (.bin .eql (.tmp 62) (.tmp 64))⟩
  (.op false ⟨(some 66), none, (.pick (.tmp 60) (.tmp 65) (.const (.bool false)))⟩
  (.op false ⟨(some 4), none, (.mv (.tmp 66))⟩ .done))))))))))) .ret))))))))⟩

theorem nodeBack {P : Program} {f f1 f2 f3 f4 f5 f6 : FuncId} (hd : dec P f = some (g_thimblelaw20_NodeBack f1 f2 f3 f4 f5 f6)) (h1 : WorksOk P f1) (h2 : BulkOk P f2) (h3 : BytesOk P f3) (h4 : ReadOk P f4) (h5 : SameOk P f5) (h6 : RightOk P f6)
    {d : PHeap} {cs : List Value} {n : NodeD} (hn : RNode d cs n) {v : Value} {b : List UInt8} (hv : RBytes d v b) : GCall P f [.agg cs.toArray, v] d [] (Ret fun v _ _ => v = .bool true) := by
  refine GCall_of hd (Nat.le_of_ble_eq_true rfl) ?_
  have hn' := hn
  obtain ⟨kv, vv, iv, rfl, rk, rv, ri⟩ := hn'
  obtain ⟨ka, kc, rfl⟩ := RSl.val rk
  obtain ⟨va, vc, rfl⟩ := RSl.val rv
  obtain ⟨ia, ic, rfl⟩ := RSl.val ri
  show gwp P _ _ _ _ _
  apply w_sq; apply w_reg
  refine w_boxa (l := [.bool n.leaf, .slice ka n.keys.length kc, .slice va n.vals.length vc, .slice ia n.kids.length ic]) rfl (fun b2 T2 => ?_)
  refine w_frz (fun d1 hl1 hg1 => ?_)
  have hc2 := dcs_bx hg1
  have hn1 := RNode.mono hn hl1
  have hv1 := hv.mono hl1
  (apply w_mvb; rfl; apply w_done0; apply w_sq; apply w_sq; apply w_reg)
  refine w_call0 rfl h1 (fun r d2 L2 hl2 ⟨hr, hL⟩ => ?_)
  subst hr; subst hL
  have hc2' := hc2.mono hl2
  have hn2 := RNode.mono hn1 hl2
  have hv2 := hv1.mono hl2
  (apply w_not; rfl; apply w_done0; apply w_ifF; rfl; apply w_skip; apply w_sq; apply w_sq; apply w_reg; apply w_ldd; rfl; assumption; rfl)
  refine w_call0 rfl (h2 hn2) (fun r d3 L3 _ ⟨z, hr, hz, hdd, hL⟩ => ?_)
  subst hr; subst hdd; subst hL
  (apply w_gtr; rfl; rfl; apply w_done0)
  first | refine w_ifd rfl (fun hzz => ?_) (fun hzz => ?_) | refine w_if rfl (fun hzz => ?_) (fun hzz => ?_)
  · (apply w_sq; apply w_reg; apply w_mvb; rfl; apply w_done0; apply w_ret)
    exact fin1n rfl rfl
  have hsm : Small n := Small.of_bulk (hz (by omega))
  apply w_skip
  refine w_mid (fun ρ d' L' => ρ 1 = v ∧ Le d3 d') ?_ ?_
  · (apply w_sq; apply w_reg; apply w_ldd; rfl; assumption; rfl)
    refine w_call0 rfl (h3 hn2 hsm.1) (fun r d4 L4 _ ⟨hdd, hr⟩ => ?_)
    subst hdd
    rcases hr with ⟨hrt, v1, g, hr, hL, hrow⟩ | ⟨hrt, hr, hL⟩
    · subst hr; subst hL
      refine w_frz (fun d5 hl5 hg5 => ?_)
      have hpg := hrow.bytes hg5 (by omega)
      obtain ⟨pa, pc, rfl⟩ := RSl.val hpg
      (apply w_mvu; rfl; apply w_ext; rfl; rfl; apply w_ext; rfl; rfl; apply w_mvs; rfl; apply w_mvi; rfl; apply w_done0; apply w_sq; apply w_reg; apply w_mvi; rfl; apply w_eql; rfl; rfl; apply w_done0; refine w_ifdT rfl (by omega) ?_; apply w_sq; apply w_reg; apply w_mvs; rfl)
      refine w_call0 rfl (h4 hpg) (fun r d6 L6 _ ⟨hdd, cs2, hr, on⟩ => ?_)
      subst hdd
      rw [read_page hrt] at hr on
      have hr : r = .tuple #[.agg cs2.toArray, .int .i64 0] := hr
      have on : ONode d6 cs2 n L6 := on
      subst hr
      refine w_frzAll (fun d7 hl7 hg7 => ?_)
      have rn := on.rnode hl7 (fun h hm => hg7 h (List.mem_append_left _ hm))
      have rn' := rn
      obtain ⟨kv2, vv2, iv2, rfl, rk2, rv2, ri2⟩ := rn'
      obtain ⟨ka2, kc2, rfl⟩ := RSl.val rk2
      obtain ⟨va2, vc2, rfl⟩ := RSl.val rv2
      obtain ⟨ia2, ic2, rfl⟩ := RSl.val ri2
      have hc7 := hc2'.mono (hl5.trans hl7)
      have hn7 := RNode.mono hn2 (hl5.trans hl7)
      (apply w_mvu; rfl; apply w_ext; rfl; rfl; apply w_ext; rfl; rfl; apply w_alo; intro _ _)
      rename_i b7 T7
      refine w_stE 0 [.bool n.leaf, .slice ka2 n.keys.length kc2, .slice va2 n.vals.length vc2, .slice ia2 n.kids.length ic2] rfl rfl rfl rfl (by simp [Value.cells]) rfl rfl ?_
      (apply w_mvi; rfl; apply w_done0; apply w_sq; apply w_reg; apply w_mvi; rfl; apply w_neq; rfl; rfl; apply w_mvb; rfl; refine w_gdF rfl (by omega) ?_; apply w_gT; rfl; apply w_ldb 0; rfl; rfl; rfl; apply w_gT; rfl; apply w_ldd; rfl; assumption; rfl; apply w_gT; rfl)
      refine w_pure (v := .bool true) rfl (by have := h5 rn hn7; rw [decide_eq_true rfl] at this; exact this) ?_
      (apply w_gT; rfl; apply w_not; rfl; apply w_pickFb; rfl; rfl; apply w_mvb; rfl; apply w_gT; rfl; apply w_ldb 0; rfl; rfl; rfl; apply w_gT; rfl)
      refine w_pure (v := .bool true) rfl (by have := h6 rn hsm.1; rw [hrt] at this; exact this) ?_
      (apply w_gT; rfl; apply w_not; rfl; apply w_pickFb; rfl; rfl; apply w_done0; apply w_ifF; rfl; apply w_skip)
      exact ⟨rfl, hl5.trans hl7⟩
    · subst hr; subst hL
      (apply w_mvu; rfl; apply w_ext; rfl; rfl; apply w_ext; rfl; rfl; apply w_mvs; rfl; apply w_mvi; rfl; apply w_done0; apply w_sq; apply w_reg; apply w_mvi; rfl; apply w_eql; rfl; rfl; apply w_done0; refine w_ifdF rfl (by omega) ?_; apply w_skip)
      exact ⟨rfl, Le.refl _⟩
  · rintro ρ d4 L4 ⟨hs, hl4⟩
    have hv4 := hv2.mono hl4
    refine gwp_slots [(1, v)] ⟨hs, trivial⟩ ?_
    (apply w_sq; apply w_reg; apply w_mv)
    refine w_call0 rfl (h4 hv4) (fun r d6 L6 _ ⟨hdd, cs2, hr, on⟩ => ?_)
    subst hdd
    refine w_frzAll (fun d7 hl7 hg7 => ?_)
    have rn := on.rnode hl7 (fun h hm => hg7 h (List.mem_append_left _ hm))
    have hv7 := hv4.mono hl7
    subst hr
    cases hf : readF b with
    | none =>
      rw [hf] at rn
      have rn : RNode d7 cs2 zeroN := rn
      have rn' := rn
      obtain ⟨kv2, vv2, iv2, rfl, rk2, rv2, ri2⟩ := rn'
      obtain ⟨ka2, kc2, rfl⟩ := RSl.val rk2
      obtain ⟨va2, vc2, rfl⟩ := RSl.val rv2
      obtain ⟨ia2, ic2, rfl⟩ := RSl.val ri2
      (apply w_mvu; rfl; apply w_ext; rfl; rfl; apply w_ext; rfl; rfl; apply w_alo; intro _ _)
      rename_i b9 T9
      refine w_stE 0 [.bool false, .slice ka2 0 kc2, .slice va2 0 vc2, .slice ia2 0 ic2] rfl rfl rfl rfl (by simp [Value.cells]) rfl rfl ?_
      (apply w_mvi; rfl; apply w_done0; apply w_sq; apply w_sq; apply w_reg; apply w_mvi; rfl; apply w_neq; rfl; rfl; apply w_done0)
      refine w_ifdT rfl (by simp) ?_
      (apply w_sq; apply w_reg; apply w_ldb 0; rfl; rfl; rfl; apply w_bld; rfl)
      refine w_pure (v := .bool true) rfl (by have := h5 rn zero_rnode; rw [decide_eq_true rfl] at this; exact this) ?_
      (apply w_mvb; rfl; apply w_done0; apply w_ret)
      exact fin1n rfl rfl
    | some m =>
      rw [hf] at rn
      obtain ⟨hrt, hpm⟩ := readF_some hf
      have hsz := hrt
      simp only [rightB, Bool.and_eq_true, decide_eq_true_eq] at hsz
      have rn : RNode d7 cs2 m := rn
      have rn' := rn
      obtain ⟨kv2, vv2, iv2, rfl, rk2, rv2, ri2⟩ := rn'
      obtain ⟨ka2, kc2, rfl⟩ := RSl.val rk2
      obtain ⟨va2, vc2, rfl⟩ := RSl.val rv2
      obtain ⟨ia2, ic2, rfl⟩ := RSl.val ri2
      (apply w_mvu; rfl; apply w_ext; rfl; rfl; apply w_ext; rfl; rfl; apply w_alo; intro _ _)
      rename_i b9 T9
      refine w_stE 0 [.bool m.leaf, .slice ka2 m.keys.length kc2, .slice va2 m.vals.length vc2, .slice ia2 m.kids.length ic2] rfl rfl rfl rfl (by simp [Value.cells]) rfl rfl ?_
      (apply w_mvi; rfl; apply w_done0; apply w_sq; apply w_sq; apply w_reg; apply w_mvi; rfl; apply w_neq; rfl; rfl; apply w_done0)
      refine w_ifdF rfl (by simp) ?_
      (apply w_skip; apply w_sq; apply w_reg; apply w_ldb 0; rfl; rfl; rfl)
      refine w_call0 rfl (h3 rn (by omega)) (fun r d8 L8 _ ⟨hdd, hr⟩ => ?_)
      subst hdd
      rcases hr with ⟨_, v1, g, hr, hL, hrow⟩ | ⟨hrt', hr, hL⟩
      · subst hr; subst hL
        refine w_frz (fun d9 hl9 hg9 => ?_)
        have hpg := hrow.bytes hg9 (by omega)
        rw [hpm] at hpg
        obtain ⟨pa, pc, rfl⟩ := RSl.val hpg
        have hv9 := hv7.mono hl9
        (apply w_mvu; rfl; apply w_ext; rfl; rfl; apply w_ext; rfl; rfl; apply w_mvs; rfl; apply w_mvi; rfl; apply w_done0; apply w_sq; apply w_reg; apply w_mvi; rfl; apply w_eql; rfl; rfl; apply w_mvb; rfl; refine w_gdT rfl (by omega) ?_; apply w_gT; rfl; apply w_mvs; rfl; apply w_gT; rfl; apply w_b2sR; rfl; assumption; apply w_gT; rfl; apply w_mv; apply w_gT; rfl; apply w_b2sR; rfl; assumption; apply w_gT; rfl; apply w_seq; rfl; rfl; apply w_pickTb; rfl; rfl; apply w_mvb; rfl; apply w_done0; apply w_ret)
        exact fin1n rfl (bool_eq (by simp))
      · rw [hrt] at hrt'; cases hrt'
end Go.Gk.Node
