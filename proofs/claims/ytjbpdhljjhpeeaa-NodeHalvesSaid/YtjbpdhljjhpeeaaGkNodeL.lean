/-
  The law NodeReads: which node any bytes are the page of.
-/
import Derived.Test.YtjbpdhljjhpeeaaGkNodeK
import Derived.Test.YtjbpdhljjhpeeaaGkNodeG
namespace Go.Gk.Node
open Go Go.Gk
attribute [local irreducible] gwp gws

theorem OBss.mono {d d' : PHeap} {v : Value} {xs : List (List UInt8)} {L : List PHeap} (o : OBss d v xs L) (hl : Le d d') : OBss d' v xs L :=
  let ⟨us, h0, hs, h1, h2, h3, h4⟩ := o
  ⟨us, h0, hs, h1, h2, fun i hi => let ⟨u, g, k1, k2, k3⟩ := h3 i hi; ⟨u, g, k1, k2, GRow.mono (R := RByte) mono_byte k3 hl⟩, h4⟩
theorem ONode.mono {d d' : PHeap} {cs : List Value} {n : NodeD} {L : List PHeap} (o : ONode d cs n L) (hl : Le d d') : ONode d' cs n L :=
  let ⟨kv, vv, iv, Lk, Lv, hi, e, h1, h2, h3, h4⟩ := o
  ⟨kv, vv, iv, Lk, Lv, hi, e, h1.mono hl, h2.mono hl, h3.monoI hl, h4⟩
def g_thimblelaw20_NodeReads (f_node_Read f_thimbleref20_Read f_thimbleref20_Same f_thimblelaw20_spoil f_thimblelaw20_works : Nat) : GFun :=
 ⟨40, [(.tmp 2)],
 (.seq
 (.reg false (.op false ⟨(some 2), none, (.mv (.const (.bool false)))⟩ .done))
 (.seq
 (.reg false (.op false ⟨(some 8), none, (.bsl 0 1 [(.int .u8 0)] [])⟩
  (.op false ⟨(some 9), none, (.mv (.tmp 0))⟩
  (.op false ⟨(some 10), none, (.app 1 1 [(.int .u8 0)] (.tmp 8) (.tmp 9))⟩
  (.op false ⟨(some 3), none, (.mv (.tmp 10))⟩ .done)))))
 (.seq
 (.reg false (.op false ⟨(some 12), none, (.mv (.tmp 3))⟩
  (.op false ⟨(some 13), none, (.call f_node_Read [(.tmp 12)])⟩
  (.op false ⟨(some 11), none, (.mv (.tmp 13))⟩
  (.op false ⟨(some 14), none, (.ext (.tmp 11) 0)⟩
  (.op false ⟨(some 15), none, (.ext (.tmp 11) 1)⟩
  (.op false ⟨(some 4), none, (.alo (.agg #[(.bool false), (.slice none 0 0), (.slice none 0 0), (.slice none 0 0)]))⟩
  (.op false ⟨none, none, (.st 4 (.tmp 4) (.tmp 14))⟩
  (.op false ⟨(some 5), none, (.mv (.tmp 15))⟩ .done)))))))))
 (.seq
 (.reg false (.op false ⟨(some 17), none, (.mv (.tmp 0))⟩
  (.op false ⟨(some 18), none, (.call f_thimbleref20_Read [(.tmp 17)])⟩
  (.op false ⟨(some 16), none, (.mv (.tmp 18))⟩
  (.op false ⟨(some 19), none, (.ext (.tmp 16) 0)⟩
  (.op false ⟨(some 20), none, (.ext (.tmp 16) 1)⟩
  (.op false ⟨(some 6), none, (.alo (.agg #[(.bool false), (.slice none 0 0), (.slice none 0 0), (.slice none 0 0)]))⟩
  (.op false ⟨none, none, (.st 4 (.tmp 6) (.tmp 19))⟩
  (.op false ⟨(some 7), none, (.mv (.tmp 20))⟩ .done)))))))))
 (.seq (.seq
 (.reg false (.op false ⟨(some 21), none, (.ld (some 4) (.tmp 4))⟩
  (.op false ⟨(some 22), none, (.ld (some 4) (.tmp 6))⟩
  (.op false ⟨(some 23), none, (.call f_thimbleref20_Same [(.tmp 21), (.tmp 22)])⟩
  (.op false ⟨(some 24), none, (.un .not (.tmp 23))⟩
  (.op false ⟨(some 25), none, (.mv (.tmp 24))⟩
  (.op false ⟨(some 26), (some (25, false)), (.mv (.tmp 5))⟩
  (.op false ⟨(some 27), (some (25, false)), (.mv (.tmp 7))⟩
  (.op false ⟨(some 28), (some (25, false)), (.bin .neq (.tmp 26) (.tmp 27))⟩
  (.op false ⟨(some 29), none, (.pick (.tmp 25) (.const (.bool true)) (.tmp 28))⟩ .done)))))))))) (.cond (.tmp 29)
 (.seq
 (.reg false (.op false ⟨(some 2), none, (.mv (.const (.bool false)))⟩ .done)) .ret) .skip))
 (.seq
 (.reg false (.op false ⟨(some 30), none, (.ld (some 4) (.tmp 4))⟩
  (.op false ⟨(some 31), none, (.call f_thimblelaw20_spoil [(.tmp 30)])⟩ .done)))
 (.seq
 (.reg false (.op false ⟨(some 32), none, (.mv (.tmp 3))⟩
  (.op false ⟨(some 33), none, (.b2s (.tmp 32))⟩
  (.op false ⟨(some 34), none, (.mv (.tmp 0))⟩
  (.op false ⟨(some 35), none, (.b2s (.tmp 34))⟩
  (.op false ⟨(some 36), none, (.bin .eql (.tmp 33) (.tmp 35))⟩
  (.op false ⟨(some 37), none, (.mv (.tmp 36))⟩
  (.op false ⟨(some 38), (some (37, true)), (.call f_thimblelaw20_works [])⟩
  (.op false ⟨(some 39), none, (.pick (.tmp 37) (.tmp 38) (.const (.bool false)))⟩
  (.op false ⟨(some 2), none, (.mv (.tmp 39))⟩ .done)))))))))) .ret)))))))⟩

theorem nodeReads {P : Program} {f f1 f2 f3 f4 f5 : FuncId} (hd : dec P f = some (g_thimblelaw20_NodeReads f1 f2 f3 f4 f5)) (h1 : ReadOk P f1) (h2 : RReadOk P f2) (h3 : SameOk P f3) (h4 : SpoilOk P f4) (h5 : WorksOk P f5)
    {d : PHeap} {v : Value} {b : List UInt8} (hv : RBytes d v b) : GCall P f [v] d [] (Ret fun v _ _ => v = .bool true) := by
  refine GCall_of hd (Nat.le_of_ble_eq_true rfl) ?_
  have hbl := hv.len_le
  show gwp P _ _ _ _ _
  (apply w_sq; apply w_reg; apply w_mvb; rfl; apply w_done0; apply w_sq; apply w_reg)
  refine w_bsl (cs := []) (by omega) rfl (fun b8 T8 => ?_)
  (apply w_mv)
  refine w_appG 0 rfl rfl (GRow.lit0 (R := RByte) (sz := 1)) rfl (RSl.src hv cell1_byte (by omega) _) (by omega) (by simp; omega) (by simp; omega) (fun v5 hb5 o5 => ?_)
  rw [List.nil_append] at o5
  refine w_frz (fun d1 hl1 hg1 => ?_)
  have hown : RBytes d1 v5 b := o5.rsl mono_byte (by omega) hl1 hg1
  have hv1 := hv.mono hl1
  obtain ⟨a5, c5, rfl⟩ := o5.val
  (apply w_mvs; rfl; apply w_done0; apply w_sq; apply w_reg; apply w_mvs; rfl)
  refine w_call0 rfl (h1 hown) (fun r d2 L2 _ ⟨hdd, cs, hr, on⟩ => ?_)
  subst hr; subst hdd
  obtain ⟨e, he⟩ : ∃ e : Int, e = (if (readF b).isSome then 0 else 200) := ⟨_, rfl⟩
  rw [← he]
  obtain ⟨n, hn⟩ : ∃ n, n = (readF b).getD zeroN := ⟨_, rfl⟩
  rw [← hn] at on
  have on' := on
  obtain ⟨kv, vv, iv, Lk, Lv, hi, rfl, ok, ov, oi, _⟩ := on'
  obtain ⟨ka, kc, rfl⟩ := ok.val
  obtain ⟨va, vc, rfl⟩ := ov.val
  obtain ⟨ia, ic, rfl⟩ := oi.val
  (apply w_mvu; rfl; apply w_ext; rfl; rfl; apply w_ext; rfl; rfl; apply w_alo; intro _ _)
  rename_i b4 T4
  refine w_stE 0 [.bool n.leaf, .slice ka n.keys.length kc, .slice va n.vals.length vc, .slice ia n.kids.length ic] rfl rfl rfl rfl (by simp [Value.cells]) rfl rfl ?_
  (apply w_mvi; rfl; apply w_done0; apply w_sq; apply w_reg; apply w_mv)
  refine w_call0 rfl (h2 hv1) (fun r d3 L3 hl3 ⟨hL, cs2, hr, rn⟩ => ?_)
  subst hr; subst hL
  rw [← he]
  rw [← hn] at rn
  have rn' := rn
  obtain ⟨kv2, vv2, iv2, rfl, rk, rv, ri⟩ := rn'
  obtain ⟨ka2, kc2, rfl⟩ := RSl.val rk
  obtain ⟨va2, vc2, rfl⟩ := RSl.val rv
  obtain ⟨ia2, ic2, rfl⟩ := RSl.val ri
  (apply w_mvu; rfl; apply w_ext; rfl; rfl; apply w_ext; rfl; rfl; apply w_alo; intro _ _)
  rename_i b6 T6
  refine w_stE 0 [.bool n.leaf, .slice ka2 n.keys.length kc2, .slice va2 n.vals.length vc2, .slice ia2 n.kids.length ic2] rfl rfl rfl rfl (by simp [Value.cells]) rfl rfl ?_
  refine w_frz (fun d4 hl4 hg4 => w_frz (fun d5 hl5 hg5 => ?_))
  have hc6 := (dcs_bx hg4).mono hl5
  have hc4 := dcs_bx hg5
  have hl15 := hl3.trans (hl4.trans hl5)
  have hv5 := hv1.mono hl15
  have hown5 := hown.mono hl15
  (apply w_mvi; rfl; apply w_done0; apply w_sq; apply w_sq; apply w_reg; apply w_ldd; rfl; assumption; rfl; apply w_ldd; rfl; assumption; rfl)
  refine w_pureB (v := .bool true) rfl (fun d1 hl hk => by
    have := h3 (on.rnode (hl15.trans hl) (fun h hm => hk h (List.mem_append_left _ hm))) (rn.mono (hl4.trans (hl5.trans hl)))
    rw [decide_eq_true rfl] at this
    exact this) ?_
  (apply w_not; rfl; apply w_mvb; rfl; apply w_gT; rfl; apply w_mvi; rfl; apply w_gT; rfl; apply w_mvi; rfl; apply w_gT; rfl; apply w_neq; rfl; rfl; apply w_pickFb; rfl; rfl; apply w_done0; refine w_ifdF rfl (by omega) ?_; apply w_skip; apply w_sq; apply w_reg; apply w_ldd; rfl; assumption; rfl)
  refine w_callA (A := L2) (B := []) rfl rfl (h4 (on.mono hl15)) (fun v d6 L6 _ ⟨hdd, hL⟩ => ?_)
  subst hdd; subst hL
  (apply w_done0; apply w_sq; apply w_reg; apply w_mvs; rfl; apply w_b2sR; rfl; assumption; apply w_mv; apply w_b2sR; rfl; assumption; apply w_seq; rfl; rfl; apply w_mvb; rfl; refine w_gdT rfl (by with_reducible rfl) ?_; apply w_gT; rfl)
  refine w_call0 rfl h5 (fun r d7 L7 _ ⟨hr, hL⟩ => ?_)
  subst hr; subst hL
  (apply w_pickTb; rfl; rfl; apply w_mvb; rfl; apply w_done0; apply w_ret)
  exact fin1n rfl rfl
end Go.Gk.Node
