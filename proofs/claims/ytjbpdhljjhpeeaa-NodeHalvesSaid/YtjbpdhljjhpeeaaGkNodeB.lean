/-
  Nodes: a copy of one; the law of what is written.
-/
import Derived.Test.YtjbpdhljjhpeeaaGkNodeA
namespace Go.Gk.Node
open Go Go.Gk
attribute [local irreducible] gwp gws

theorem take_snoc {α : Type} {xs : List α} {k : Nat} (h : k < xs.length) : xs.take k ++ [xs[k]] = xs.take (k + 1) := (List.take_succ_eq_append_getElem h).symm
def CopyOk (P : Program) (f : FuncId) : Prop := ∀ {d : PHeap} {cs : List Value} {n : NodeD}, RNode d cs n → sizeD n ≤ 1000000000000 → n.keys.length ≤ 1000000000 → n.vals.length ≤ 1000000000 → n.kids.length ≤ 1000000000 →
  GCall P f [.agg cs.toArray] d [] (Ret fun r d' L' => L' = [] ∧ ∃ cs', r = .agg cs'.toArray ∧ RNode d' cs' n)
def g_thimbleref20_Copy : GFun :=
 ⟨52, [(.cell 2 (some 4))],
 (.seq
 (.reg false (.op false ⟨(some 1), none, (.box (.tmp 0))⟩
  (.op false ⟨(some 2), none, (.alo (.agg #[(.bool false), (.slice none 0 0), (.slice none 0 0), (.slice none 0 0)]))⟩ .done)))
 (.seq
 (.reg true (.op true ⟨(some 6), none, (.fld 0 (.tmp 1))⟩
  (.op true ⟨(some 7), none, (.ld none (.tmp 6))⟩
  (.op true ⟨(some 9), none, (.fld 3 (.tmp 1))⟩
  (.op true ⟨(some 10), none, (.ld none (.tmp 9))⟩
  (.alt ⟨(some 8), none, (.bsl 0 1 [(.int .i64 0)] [])⟩
  (.alt ⟨(some 11), none, (.app 1 8 [(.int .i64 0)] (.tmp 8) (.tmp 10))⟩
  (.op true ⟨(some 12), none, (.bld [(0, 1), (1, 1), (2, 1), (3, 1)] [(.bool false), (.slice none 0 0), (.slice none 0 0), (.slice none 0 0)] [(0, (.tmp 7)), (3, (.tmp 11))])⟩
  (.op false ⟨(some 3), none, (.alo (.agg #[(.bool false), (.slice none 0 0), (.slice none 0 0), (.slice none 0 0)]))⟩
  (.bar (.op false ⟨none, none, (.st 4 (.tmp 3) (.tmp 12))⟩ .done)))) (.op false ⟨(some 3), none, (.alo (.agg #[(.bool false), (.slice none 0 0), (.slice none 0 0), (.slice none 0 0)]))⟩
  (.op false ⟨(some 11), none, (.app 1 8 [(.int .i64 0)] (.tmp 8) (.tmp 10))⟩
  (.op true ⟨(some 12), none, (.bld [(0, 1), (1, 1), (2, 1), (3, 1)] [(.bool false), (.slice none 0 0), (.slice none 0 0), (.slice none 0 0)] [(0, (.tmp 7)), (3, (.tmp 11))])⟩
  (.bar (.op false ⟨none, none, (.st 4 (.tmp 3) (.tmp 12))⟩ .done)))))) (.op false ⟨(some 3), none, (.alo (.agg #[(.bool false), (.slice none 0 0), (.slice none 0 0), (.slice none 0 0)]))⟩
  (.op false ⟨(some 8), none, (.bsl 0 1 [(.int .i64 0)] [])⟩
  (.op false ⟨(some 11), none, (.app 1 8 [(.int .i64 0)] (.tmp 8) (.tmp 10))⟩
  (.op true ⟨(some 12), none, (.bld [(0, 1), (1, 1), (2, 1), (3, 1)] [(.bool false), (.slice none 0 0), (.slice none 0 0), (.slice none 0 0)] [(0, (.tmp 7)), (3, (.tmp 11))])⟩
  (.bar (.op false ⟨none, none, (.st 4 (.tmp 3) (.tmp 12))⟩ .done))))))))))))
 (.seq (.seq
 (.reg false (.op false ⟨(some 4), none, (.mv (.const (.int .i64 0)))⟩ .done)) (.block 0 (.loop
 (.seq (.seq
 (.reg false (.op false ⟨(some 13), none, (.mv (.tmp 4))⟩
  (.op false ⟨(some 14), none, (.fld 1 (.tmp 1))⟩
  (.op false ⟨(some 15), none, (.ld none (.tmp 14))⟩
  (.op false ⟨(some 16), none, (.len (.tmp 15))⟩
  (.op false ⟨(some 17), none, (.bin .lss (.tmp 13) (.tmp 16))⟩ .done)))))) (.cond (.tmp 17) .skip (.exit 0)))
 (.seq (.block 1
 (.reg true (.op true ⟨(some 20), none, (.fld 1 (.tmp 3))⟩
  (.op true ⟨(some 21), none, (.ld none (.tmp 20))⟩
  (.op true ⟨(some 23), none, (.fld 1 (.tmp 1))⟩
  (.op true ⟨(some 24), none, (.ld none (.tmp 23))⟩
  (.op true ⟨(some 25), none, (.mv (.tmp 4))⟩
  (.op true ⟨(some 26), none, (.idx 1 (.tmp 24) (.tmp 25))⟩
  (.op true ⟨(some 27), none, (.ld none (.tmp 26))⟩
  (.op false ⟨(some 22), none, (.bsl 0 1 [(.int .u8 0)] [])⟩
  (.op false ⟨(some 28), none, (.app 1 1 [(.int .u8 0)] (.tmp 22) (.tmp 27))⟩
  (.op false ⟨(some 29), none, (.bsl 1 1 [(.slice none 0 0)] [(0, (.tmp 28))])⟩
  (.op false ⟨(some 30), none, (.app 1 24 [(.slice none 0 0)] (.tmp 21) (.tmp 29))⟩
  (.op true ⟨(some 31), none, (.fld 1 (.tmp 3))⟩
  (.bar (.op false ⟨none, none, (.st 1 (.tmp 31) (.tmp 30))⟩ .done))))))))))))))))
 (.reg false (.op false ⟨(some 18), none, (.mv (.tmp 4))⟩
  (.op false ⟨(some 19), none, (.bin .add (.tmp 18) (.const (.int .i64 1)))⟩
  (.op false ⟨(some 4), none, (.mv (.tmp 19))⟩ .done)))))))))
 (.seq (.seq
 (.reg false (.op false ⟨(some 5), none, (.mv (.const (.int .i64 0)))⟩ .done)) (.block 2 (.loop
 (.seq (.seq
 (.reg false (.op false ⟨(some 32), none, (.mv (.tmp 5))⟩
  (.op false ⟨(some 33), none, (.fld 2 (.tmp 1))⟩
  (.op false ⟨(some 34), none, (.ld none (.tmp 33))⟩
  (.op false ⟨(some 35), none, (.len (.tmp 34))⟩
  (.op false ⟨(some 36), none, (.bin .lss (.tmp 32) (.tmp 35))⟩ .done)))))) (.cond (.tmp 36) .skip (.exit 2)))
 (.seq (.block 3
 (.reg true (.op true ⟨(some 39), none, (.fld 2 (.tmp 3))⟩
  (.op true ⟨(some 40), none, (.ld none (.tmp 39))⟩
  (.op true ⟨(some 42), none, (.fld 2 (.tmp 1))⟩
  (.op true ⟨(some 43), none, (.ld none (.tmp 42))⟩
  (.op true ⟨(some 44), none, (.mv (.tmp 5))⟩
  (.op true ⟨(some 45), none, (.idx 1 (.tmp 43) (.tmp 44))⟩
  (.op true ⟨(some 46), none, (.ld none (.tmp 45))⟩
  (.op false ⟨(some 41), none, (.bsl 0 1 [(.int .u8 0)] [])⟩
  (.op false ⟨(some 47), none, (.app 1 1 [(.int .u8 0)] (.tmp 41) (.tmp 46))⟩
  (.op false ⟨(some 48), none, (.bsl 1 1 [(.slice none 0 0)] [(0, (.tmp 47))])⟩
  (.op false ⟨(some 49), none, (.app 1 24 [(.slice none 0 0)] (.tmp 40) (.tmp 48))⟩
  (.op true ⟨(some 50), none, (.fld 2 (.tmp 3))⟩
  (.bar (.op false ⟨none, none, (.st 1 (.tmp 50) (.tmp 49))⟩ .done))))))))))))))))
 (.reg false (.op false ⟨(some 37), none, (.mv (.tmp 5))⟩
  (.op false ⟨(some 38), none, (.bin .add (.tmp 37) (.const (.int .i64 1)))⟩
  (.op false ⟨(some 5), none, (.mv (.tmp 38))⟩ .done)))))))))
 (.seq
 (.reg false (.op false ⟨(some 51), none, (.ld (some 4) (.tmp 3))⟩
  (.op false ⟨none, none, (.st 4 (.tmp 2) (.tmp 51))⟩ .done))) .ret)))))⟩

theorem copy_ok {P : Program} {f : FuncId} (hd : dec P f = some g_thimbleref20_Copy) : CopyOk P f := by
  intro d cs n hn hz hb1 hb2 hb3
  obtain ⟨lf, ks, vs, is⟩ := n
  obtain ⟨kv, vv, iv, rfl, hk, hv, hiv⟩ : ∃ kv vv iv, cs = [.bool lf, kv, vv, iv] ∧ RBss d kv ks ∧ RBss d vv vs ∧ RInts d iv is := hn
  simp only at hb1 hb2 hb3
  have hkl : ks.length ≤ 140737488355328 := RSl.len_le hk
  refine GCall_of hd (Nat.le_of_ble_eq_true rfl) ?_
  show gwp P _ _ _ _ _
  apply w_sq; apply w_reg
  (apply w_boxa; rfl; intro _ _; apply w_alo; intro _ _; apply w_done0)
  rename_i b T b2 T2
  refine w_mid (fun ρ d' L' => Le d d' ∧ ∃ b3 T3 iv', ρ 1 = .pointer (some ⟨b, 0, none⟩) ∧ ρ 2 = .pointer (some ⟨b2, 0, none⟩) ∧ ρ 3 = .pointer (some ⟨b3, 0, none⟩) ∧ RInts d' iv' is ∧
    L' = [bx b3 T3 [.bool lf, .slice none 0 0, .slice none 0 0, iv'], bx b2 T2 [.bool false, .slice none 0 0, .slice none 0 0, .slice none 0 0], bx b T [.bool lf, kv, vv, iv]]) ?_ ?_
  · apply w_drawn
    (apply w_fld; rfl; apply w_ld; rfl; exact hc_i 1 rfl rfl; apply w_fld; rfl; apply w_ld; rfl; exact hc_i 1 rfl rfl)
    have fin : ∀ {ρ : Env} {d1 : PHeap} {b3 : Nat} {T3 : TypeId} {v : Value} {h : PHeap} {L0 L1 : List PHeap}, ρ 1 = .pointer (some ⟨b, 0, none⟩) → ρ 2 = .pointer (some ⟨b2, 0, none⟩) → ρ 3 = .pointer (some ⟨b3, 0, none⟩) → GRow 1 RInt d v is h → d1 = d →
        L1 = [bx b3 T3 [.bool lf, .slice none 0 0, .slice none 0 0, v], bx b2 T2 [.bool false, .slice none 0 0, .slice none 0 0, .slice none 0 0], bx b T [.bool lf, kv, vv, iv]] →
        Vs d1 L0 d1 (h :: L1) → ∃ d2 L2, Vs d1 L0 d2 L2 ∧ (Le d d2 ∧ ∃ b3 T3 iv', ρ 1 = .pointer (some ⟨b, 0, none⟩) ∧ ρ 2 = .pointer (some ⟨b2, 0, none⟩) ∧ ρ 3 = .pointer (some ⟨b3, 0, none⟩) ∧ RInts d2 iv' is ∧
          L2 = [bx b3 T3 [.bool lf, .slice none 0 0, .slice none 0 0, iv'], bx b2 T2 [.bool false, .slice none 0 0, .slice none 0 0, .slice none 0 0], bx b T [.bool lf, kv, vv, iv]]) := by
      intro ρ d1 b3 T3 v h L0 L1 e1 e2 e3 hg hdd hL hvs
      subst hdd
      exact ⟨_, _, hvs.trans Vs.freeze, Le.join_left _ _, b3, T3, v, e1, e2, e3, hg.rsl mono_int (by omega) (Le.join_left _ _) (Le.join_right _ _), hL⟩
    refine w_alt ?_ ?_
    · refine w_bsl (cs := []) (by omega) rfl (fun b8 T8 => ?_)
      refine w_alt ?_ ?_
      · refine w_appG 0 rfl rfl (GRow.lit0 (R := RInt) (sz := 1)) rfl (RSl.src (R := RInt) (xs := is) (by assumption) cell1_int (by omega) _) (by omega) (by simp; omega) (by simp; omega) (fun v1 h1 hrow1 => ?_)
        obtain ⟨a1, c1, rfl⟩ := hrow1.val
        refine w_bld (cs := [.bool lf, .slice none 0 0, .slice none 0 0, .slice a1 is.length c1]) rfl ?_
        (apply w_alo; intro _ _; apply w_bar)
        refine w_st 2 rfl rfl rfl rfl (by simp [Value.cells]) rfl ?_
        refine w_doneE ?_
        exact fin rfl rfl rfl hrow1 rfl rfl (Vs.pick [3, 2, 0, 1] rfl)
      · (apply w_alo; intro _ _)
        refine w_appG 1 rfl rfl (GRow.lit0 (R := RInt) (sz := 1)) rfl (RSl.src (R := RInt) (xs := is) (by assumption) cell1_int (by omega) _) (by omega) (by simp; omega) (by simp; omega) (fun v1 h1 hrow1 => ?_)
        obtain ⟨a1, c1, rfl⟩ := hrow1.val
        refine w_bld (cs := [.bool lf, .slice none 0 0, .slice none 0 0, .slice a1 is.length c1]) rfl ?_
        (apply w_bar)
        refine w_st 2 rfl rfl rfl rfl (by simp [Value.cells]) rfl ?_
        refine w_doneE ?_
        exact fin rfl rfl rfl hrow1 rfl rfl (Vs.pick [3, 2, 0, 1] rfl)
    · (apply w_alo; intro _ _)
      refine w_bsl (cs := []) (by omega) rfl (fun b8 T8 => ?_)
      refine w_appG 0 rfl rfl (GRow.lit0 (R := RInt) (sz := 1)) rfl (RSl.src (R := RInt) (xs := is) (by assumption) cell1_int (by omega) _) (by omega) (by simp; omega) (by simp; omega) (fun v1 h1 hrow1 => ?_)
      obtain ⟨a1, c1, rfl⟩ := hrow1.val
      refine w_bld (cs := [.bool lf, .slice none 0 0, .slice none 0 0, .slice a1 is.length c1]) rfl ?_
      (apply w_bar)
      refine w_st 3 rfl rfl rfl rfl (by simp [Value.cells]) rfl ?_
      refine w_doneE ?_
      exact fin rfl rfl rfl hrow1 rfl rfl (Vs.pick [2, 3, 0, 1] rfl)
  rintro ρ d1 L1 ⟨hl1, b3, T3, iv', e1, e2, e3, hiv', hL⟩
  subst hL
  replace hk : RBss d1 kv ks := hk.mono hl1
  replace hv : RBss d1 vv vs := hv.mono hl1
  refine w_mid (fun ρ d' L' => Le d1 d' ∧ ∃ a c h, ρ 1 = .pointer (some ⟨b, 0, none⟩) ∧ ρ 2 = .pointer (some ⟨b2, 0, none⟩) ∧ ρ 3 = .pointer (some ⟨b3, 0, none⟩) ∧ GRow 1 RBs d' (.slice a ks.length c) ks h ∧
    L' = [h, bx b3 T3 [.bool lf, .slice a ks.length c, .slice none 0 0, iv'], bx b2 T2 [.bool false, .slice none 0 0, .slice none 0 0, .slice none 0 0], bx b T [.bool lf, kv, vv, iv]]) ?_ ?_
  · apply w_sq; apply w_reg
    refine w_vs d1 _ Vs.emp ?_
    (apply w_mvi; rfl; apply w_done0)
    apply w_block
    refine w_loopV (α := Nat) (fun k v => [(1, .pointer (some ⟨b, 0, none⟩)), (2, .pointer (some ⟨b2, 0, none⟩)), (3, .pointer (some ⟨b3, 0, none⟩)), (4, .int .i64 k)])
      (fun k v h d' L' => Le d1 d' ∧ (∃ a c, v = .slice a k c) ∧ L' = [h, bx b3 T3 [.bool lf, v, .slice none 0 0, iv'], bx b2 T2 [.bool false, .slice none 0 0, .slice none 0 0, .slice none 0 0], bx b T [.bool lf, kv, vv, iv]] ∧ k ≤ ks.length ∧ GRow 1 RBs d' v (ks.take k) h) (fun k => ks.length - k) 0 (.slice none 0 0) emp
      ⟨e1, e2, e3, rfl, trivial⟩ ⟨Le.refl _, ⟨none, 0, rfl⟩, rfl, Nat.zero_le _, GRow.nil⟩ ?_
    rintro k v h ρ d2 L1 ⟨hl, ⟨a, c, rfl⟩, hL, hk1, hrow⟩
    subst hL
    replace hk : RBss d2 kv ks := hk.mono hl
    replace hv : RBss d2 vv vs := hv.mono hl
    have htk : (ks.take k).length = k := by simp; omega
    (apply w_sq; apply w_sq; apply w_reg; apply w_mvi; rfl; apply w_fld; rfl; apply w_ld; rfl; exact hc_i 3 rfl rfl; apply w_lenR; rfl; assumption; apply w_lss; rfl; rfl; apply w_done0)
    first | refine w_ifd rfl (fun hc => ?_) (fun hc => ?_) | refine w_if rfl (fun hc => ?_) (fun hc => ?_)
    · have hk2 : k < ks.length := by omega
      (apply w_skip; apply w_sq; apply w_block)
      refine w_drawnS [1, 2, 3] [0] rfl ?_
      (apply w_fld; rfl; apply w_ld; rfl; exact hc_i 0 rfl rfl; apply w_fld; rfl; apply w_ld; rfl; exact hc_i 2 rfl rfl; apply w_mvi; rfl; refine w_idxR (sz := 1) (R := RBs) (by rfl) (by assumption) (by rfl) rfl (by omega) ?_; rintro _ _ _ _ _ ⟨_, rfl, _⟩; apply w_ld; rfl; exact hc_ds0 (by assumption) rfl)
      refine w_bsl (cs := []) (by omega) rfl (fun b8 T8 => ?_)
      have hxl : ks[k].length ≤ 140737488355328 := RSl.len_le (R := RByte) (xs := ks[k]) (sz := 1) (by assumption)
      refine w_appG 0 rfl rfl (GRow.lit0 (R := RByte) (sz := 1)) rfl (RSl.src (R := RByte) (xs := ks[k]) (by assumption) cell1_byte (by omega) _) (by omega) (by simp; omega) (by simp; omega) (fun v5 h5 hrow5 => ?_)
      refine w_frz (fun d5 hl5 hb5 => ?_)
      replace hrow5 : RBytes d5 v5 ks[k] := hrow5.rsl mono_byte (by omega) hl5 hb5
      obtain ⟨a5, c5, rfl⟩ : ∃ a c, v5 = .slice a ks[k].length c := by obtain ⟨a, c, b, o, e, _⟩ := hrow5; exact ⟨a, c, e⟩
      refine w_bsl (cs := [.slice a5 ks[k].length c5]) (by omega) rfl (fun b6 T6 => ?_)
      refine w_appL 0 rfl rfl (GRow.mono (R := RBs) mono_bs hrow hl5) rfl (GRow.lit1 (R := RBs) (x := ks[k]) rfl ⟨_, rfl, hrow5⟩) cell1_bs (by omega) (by simp; omega) (by simp; omega) (fun v6 h6 hrow6 => ?_)
      rw [take_snoc hk2] at hrow6
      obtain ⟨a6, c6, rfl⟩ := hrow6.val
      have htk' : (ks.take (k + 1)).length = k + 1 := by simp; omega
      rw [htk'] at hrow6 ⊢
      (apply w_fld; rfl; apply w_bar)
      refine w_st 0 rfl rfl rfl rfl (by simp [Value.cells]) rfl ?_
      refine w_donep [3, 0, 1, 2] rfl ?_
      (apply w_reg; apply w_mvi; rfl; apply w_add; rfl; rfl; omega; omega; apply w_mvi; rfl; apply w_done0)
      exact ⟨k + 1, _, h6, by omega, ⟨rfl, rfl, rfl, int_eq (by omega), trivial⟩, Le.trans hl hl5, ⟨a6, c6, rfl⟩, rfl, hk2, hrow6⟩
    · obtain rfl : k = ks.length := by omega
      (apply w_exit)
      rw [List.take_length] at hrow
      exact ⟨hl, a, c, h, rfl, rfl, rfl, hrow, rfl⟩
  rintro ρ d3 L1 ⟨hl3, ak, ck, hkrow, e1, e2, e3, hkr, hL⟩
  subst hL
  obtain ⟨d4, hd4⟩ : ∃ d4, d4 = join d3 hkrow := ⟨_, rfl⟩
  have hl4 : Le d3 d4 := by rw [hd4]; exact Le.join_left _ _
  obtain ⟨kv', hkv'⟩ : ∃ kv', kv' = Value.slice ak ks.length ck := ⟨_, rfl⟩
  have hkr' : RBss d4 kv' ks := by rw [hkv']; exact hkr.rsl mono_bs (by omega) hl4 (by rw [hd4]; exact Le.join_right _ _)
  replace hk : RBss d4 kv ks := hk.mono (hl3.trans hl4)
  replace hv : RBss d4 vv vs := hv.mono (hl3.trans hl4)
  rw [← hkv']
  refine w_mid (fun ρ d' L' => Le d4 d' ∧ ∃ a c h, ρ 1 = .pointer (some ⟨b, 0, none⟩) ∧ ρ 2 = .pointer (some ⟨b2, 0, none⟩) ∧ ρ 3 = .pointer (some ⟨b3, 0, none⟩) ∧ GRow 1 RBs d' (.slice a vs.length c) vs h ∧
    L' = [h, bx b3 T3 [.bool lf, kv', .slice a vs.length c, iv'], bx b2 T2 [.bool false, .slice none 0 0, .slice none 0 0, .slice none 0 0], bx b T [.bool lf, kv, vv, iv]]) ?_ ?_
  · apply w_sq; apply w_reg
    refine w_vs d4 (emp :: [bx b3 T3 [.bool lf, kv', .slice none 0 0, iv'], bx b2 T2 [.bool false, .slice none 0 0, .slice none 0 0, .slice none 0 0], bx b T [.bool lf, kv, vv, iv]]) (by rw [hd4]; exact Vs.freeze.trans Vs.emp) ?_
    (apply w_mvi; rfl; apply w_done0)
    apply w_block
    refine w_loopV (α := Nat) (fun k v => [(1, .pointer (some ⟨b, 0, none⟩)), (2, .pointer (some ⟨b2, 0, none⟩)), (3, .pointer (some ⟨b3, 0, none⟩)), (5, .int .i64 k)])
      (fun k v h d' L' => Le d4 d' ∧ (∃ a c, v = .slice a k c) ∧ L' = [h, bx b3 T3 [.bool lf, kv', v, iv'], bx b2 T2 [.bool false, .slice none 0 0, .slice none 0 0, .slice none 0 0], bx b T [.bool lf, kv, vv, iv]] ∧ k ≤ vs.length ∧ GRow 1 RBs d' v (vs.take k) h) (fun k => vs.length - k) 0 (.slice none 0 0) emp
      ⟨e1, e2, e3, rfl, trivial⟩ ⟨Le.refl _, ⟨none, 0, rfl⟩, rfl, Nat.zero_le _, GRow.nil⟩ ?_
    rintro k v h ρ d2 L1 ⟨hm, ⟨a, c, rfl⟩, hL, hk1, hrow⟩
    subst hL
    replace hk : RBss d2 kv ks := hk.mono hm
    replace hv : RBss d2 vv vs := hv.mono hm
    have htk : (vs.take k).length = k := by simp; omega
    (apply w_sq; apply w_sq; apply w_reg; apply w_mvi; rfl; apply w_fld; rfl; apply w_ld; rfl; exact hc_i 3 rfl rfl; apply w_lenR; rfl; assumption; apply w_lss; rfl; rfl; apply w_done0)
    first | refine w_ifd rfl (fun hc => ?_) (fun hc => ?_) | refine w_if rfl (fun hc => ?_) (fun hc => ?_)
    · have hk2 : k < vs.length := by omega
      (apply w_skip; apply w_sq; apply w_block)
      refine w_drawnS [1, 2, 3] [0] rfl ?_
      (apply w_fld; rfl; apply w_ld; rfl; exact hc_i 0 rfl rfl; apply w_fld; rfl; apply w_ld; rfl; exact hc_i 2 rfl rfl; apply w_mvi; rfl; refine w_idxR (sz := 1) (R := RBs) (by rfl) (by assumption) (by rfl) rfl (by omega) ?_; rintro _ _ _ _ _ ⟨_, rfl, _⟩; apply w_ld; rfl; exact hc_ds0 (by assumption) rfl)
      refine w_bsl (cs := []) (by omega) rfl (fun b8 T8 => ?_)
      have hxl : vs[k].length ≤ 140737488355328 := RSl.len_le (R := RByte) (xs := vs[k]) (sz := 1) (by assumption)
      refine w_appG 0 rfl rfl (GRow.lit0 (R := RByte) (sz := 1)) rfl (RSl.src (R := RByte) (xs := vs[k]) (by assumption) cell1_byte (by omega) _) (by omega) (by simp; omega) (by simp; omega) (fun v5 h5 hrow5 => ?_)
      refine w_frz (fun d5 hm5 hb5 => ?_)
      replace hrow5 : RBytes d5 v5 vs[k] := hrow5.rsl mono_byte (by omega) hm5 hb5
      obtain ⟨a5, c5, rfl⟩ : ∃ a c, v5 = .slice a vs[k].length c := by obtain ⟨a, c, b, o, e, _⟩ := hrow5; exact ⟨a, c, e⟩
      refine w_bsl (cs := [.slice a5 vs[k].length c5]) (by omega) rfl (fun b6 T6 => ?_)
      refine w_appL 0 rfl rfl (GRow.mono (R := RBs) mono_bs hrow hm5) rfl (GRow.lit1 (R := RBs) (x := vs[k]) rfl ⟨_, rfl, hrow5⟩) cell1_bs (by omega) (by simp; omega) (by simp; omega) (fun v6 h6 hrow6 => ?_)
      rw [take_snoc hk2] at hrow6
      obtain ⟨a6, c6, rfl⟩ := hrow6.val
      have htk' : (vs.take (k + 1)).length = k + 1 := by simp; omega
      rw [htk'] at hrow6 ⊢
      (apply w_fld; rfl; apply w_bar)
      refine w_st 0 rfl rfl rfl rfl (by simp [Value.cells]) rfl ?_
      refine w_donep [3, 0, 1, 2] rfl ?_
      (apply w_reg; apply w_mvi; rfl; apply w_add; rfl; rfl; omega; omega; apply w_mvi; rfl; apply w_done0)
      exact ⟨k + 1, _, h6, by omega, ⟨rfl, rfl, rfl, int_eq (by omega), trivial⟩, Le.trans hm hm5, ⟨a6, c6, rfl⟩, rfl, hk2, hrow6⟩
    · obtain rfl : k = vs.length := by omega
      (apply w_exit)
      rw [List.take_length] at hrow
      exact ⟨hm, a, c, h, rfl, rfl, rfl, hrow, rfl⟩
  rintro ρ d5 L1 ⟨hm, a, c, h, e1, e2, e3, hrow, hL⟩
  subst hL
  obtain ⟨ai, ci, rfl⟩ := RSl.val hiv'
  subst hkv'
  refine gwp_slots [(1, .pointer (some ⟨b, 0, none⟩)), (2, .pointer (some ⟨b2, 0, none⟩)), (3, .pointer (some ⟨b3, 0, none⟩))] ⟨e1, e2, e3, trivial⟩ ?_
  (apply w_sq; apply w_reg; apply w_ldb 1; rfl; rfl; rfl)
  refine w_st 2 rfl rfl rfl rfl (by simp [Value.cells]) rfl ?_
  (apply w_done0; apply w_ret)
  refine finF [.agg [.bool lf, .slice ak ks.length ck, .slice a vs.length c, .slice ai is.length ci].toArray] ⟨res_cell 2 rfl rfl rfl, trivial⟩ (fun d' hl hk2 => ?_)
  have hle : Le d4 d' := hm.trans hl
  exact ⟨rfl, _, rfl, _, _, _, rfl, hkr'.mono hle, hrow.rsl mono_bs (by omega) hl (hk2 _ (List.mem_of_getElem? (i := 0) rfl)), (hiv'.mono (hl3.trans hl4)).mono hle⟩

def RBytesOk (P : Program) (f : FuncId) : Prop := ∀ {d : PHeap} {cs : List Value} {n : NodeD}, RNode d cs n → sizeD n ≤ 1000000000000 → GPure P f [.agg cs.toArray] d (.tuple #[strV (if rightB n then pageD n else []), .int .i64 (if rightB n then 0 else 200)])
def g_thimbleref20_Bytes (f_thimbleref20_Right f_thimbleref20_Page : Nat) : GFun :=
 ⟨9, [(.tmp 2), (.tmp 3)],
 (.seq
 (.reg false (.op false ⟨(some 1), none, (.box (.tmp 0))⟩
  (.op false ⟨(some 2), none, (.mv (.const (strV [])))⟩
  (.op false ⟨(some 3), none, (.mv (.const (.int .i64 0)))⟩ .done))))
 (.seq (.seq
 (.reg false (.op false ⟨(some 4), none, (.ld (some 4) (.tmp 1))⟩
  (.op false ⟨(some 5), none, (.call f_thimbleref20_Right [(.tmp 4)])⟩
  (.op false ⟨(some 6), none, (.un .not (.tmp 5))⟩ .done)))) (.cond (.tmp 6)
 (.seq
 (.reg false (.op false ⟨(some 2), none, (.mv (.const (strV [])))⟩
  (.op false ⟨(some 3), none, (.mv (.const (.int .i64 200)))⟩ .done))) .ret) .skip))
 (.seq
 (.reg false (.op false ⟨(some 7), none, (.ld (some 4) (.tmp 1))⟩
  (.op false ⟨(some 8), none, (.call f_thimbleref20_Page [(.tmp 7)])⟩
  (.op false ⟨(some 2), none, (.mv (.tmp 8))⟩
  (.op false ⟨(some 3), none, (.mv (.const (.int .i64 0)))⟩ .done))))) .ret)))⟩

theorem rbytes_ok {P : Program} {f f1 f2 : FuncId} (hd : dec P f = some (g_thimbleref20_Bytes f1 f2)) (h1 : RightOk P f1) (h2 : RPageOk P f2) : RBytesOk P f := by
  intro d cs n hn hz
  have hn' := hn
  obtain ⟨lf, ks, vs, is⟩ := n
  obtain ⟨kv, vv, iv, rfl, hk, hv, hiv⟩ : ∃ kv vv iv, cs = [.bool lf, kv, vv, iv] ∧ RBss d kv ks ∧ RBss d vv vs ∧ RInts d iv is := hn
  refine GCall_of hd (Nat.le_of_ble_eq_true rfl) ?_
  show gwp P _ _ _ _ _
  (apply w_sq; apply w_reg; apply w_boxa; rfl; intro _ _; apply w_mvt; rfl; apply w_mvi; rfl; apply w_done0; apply w_sq; apply w_sq; apply w_reg; apply w_ldb 0; rfl; rfl; rfl)
  refine w_pure rfl (h1 hn' hz) ?_
  cases hr : rightB ⟨lf, ks, vs, is⟩
  · (apply w_not; rfl; apply w_done0; apply w_ifT; rfl; apply w_sq; apply w_reg; apply w_mvt; rfl; apply w_mvi; rfl; apply w_done0; apply w_ret)
    exact fin2n (v := strV []) (w := .int .i64 200) rfl rfl ⟨rfl, rfl, rfl⟩
  · (apply w_not; rfl; apply w_done0; apply w_ifF; rfl; apply w_skip; apply w_sq; apply w_reg; apply w_ldb 0; rfl; rfl; rfl)
    have hr' := hr
    simp only [rightB, Bool.and_eq_true, decide_eq_true_eq] at hr'
    refine w_pure rfl (h2 hn' hr'.1 hr'.2) ?_
    (apply w_mvt; rfl; apply w_mvi; rfl; apply w_done0; apply w_ret)
    exact fin2n (v := strV (pageD ⟨lf, ks, vs, is⟩)) (w := .int .i64 0) rfl rfl ⟨rfl, rfl, rfl⟩

theorem bytes_grow {P : Program} {f : FuncId} (h : BytesOk P f) {d : PHeap} {cs : List Value} {n : NodeD} (hn : RNode d cs n) (hz : sizeD n ≤ 1000000000000) :
    GCall P f [.agg cs.toArray] d [] (Ret fun r d' L' => d' = d ∧ ∃ v g, r = .tuple #[v, .int .i64 (if rightB n then 0 else 200)] ∧ L' = [g] ∧ GRow 1 RByte d v (if rightB n then pageD n else []) g) := by
  refine (h hn hz).monoR (fun v d' L' _ hr => ?_)
  rcases hr with ⟨hdd, ⟨hR, v, g, hv, hL, hrow⟩ | ⟨hR, hv, hL⟩⟩
  · subst hdd
    exact ⟨d', L', Vs.refl _ _, rfl, v, g, by simp [hv, hR], hL, by simp only [hR, if_true]; exact hrow.grow (by omega)⟩
  · subst hdd; subst hL
    exact ⟨d', [emp], Vs.emp, rfl, .slice none 0 0, emp, by simp [hv, hR], rfl, by simp only [hR]; exact GRow.nil⟩
def g_thimblelaw20_NodeWrites (f_thimbleref20_Bulk f_thimblelaw20_works f_thimbleref20_Copy f_node_Bytes f_thimbleref20_Bytes f_node_Size f_thimbleref20_Size f_node_Right f_thimbleref20_Right f_thimbleref20_Same : Nat) : GFun :=
 ⟨57, [(.tmp 2)],
 (.seq
 (.reg false (.op false ⟨(some 1), none, (.box (.tmp 0))⟩
  (.op false ⟨(some 2), none, (.mv (.const (.bool false)))⟩ .done)))
 (.seq (.seq
 (.reg false (.op false ⟨(some 8), none, (.ld (some 4) (.tmp 1))⟩
  (.op false ⟨(some 9), none, (.call f_thimbleref20_Bulk [(.tmp 8), (.const (.int .i64 3000))])⟩
  (.op false ⟨(some 10), none, (.bin .gtr (.tmp 9) (.const (.int .i64 3000)))⟩ .done)))) (.cond (.tmp 10)
 (.seq
 (.reg false (.op false ⟨(some 11), none, (.call f_thimblelaw20_works [])⟩
  (.op false ⟨(some 2), none, (.mv (.tmp 11))⟩ .done))) .ret) .skip))
 (.seq
 (.reg false (.op false ⟨(some 12), none, (.ld (some 4) (.tmp 1))⟩
  (.op false ⟨(some 13), none, (.call f_thimbleref20_Copy [(.tmp 12)])⟩
  (.op false ⟨(some 3), none, (.alo (.agg #[(.bool false), (.slice none 0 0), (.slice none 0 0), (.slice none 0 0)]))⟩
  (.op false ⟨none, none, (.st 4 (.tmp 3) (.tmp 13))⟩ .done)))))
 (.seq
 (.reg false (.op false ⟨(some 15), none, (.ld (some 4) (.tmp 3))⟩
  (.op false ⟨(some 16), none, (.call f_node_Bytes [(.tmp 15)])⟩
  (.op false ⟨(some 14), none, (.mv (.tmp 16))⟩
  (.op false ⟨(some 17), none, (.ext (.tmp 14) 0)⟩
  (.op false ⟨(some 18), none, (.ext (.tmp 14) 1)⟩
  (.op false ⟨(some 4), none, (.mv (.tmp 17))⟩
  (.op false ⟨(some 5), none, (.mv (.tmp 18))⟩ .done))))))))
 (.seq
 (.reg false (.op false ⟨(some 20), none, (.ld (some 4) (.tmp 1))⟩
  (.op false ⟨(some 21), none, (.call f_thimbleref20_Bytes [(.tmp 20)])⟩
  (.op false ⟨(some 19), none, (.mv (.tmp 21))⟩
  (.op false ⟨(some 22), none, (.ext (.tmp 19) 0)⟩
  (.op false ⟨(some 23), none, (.ext (.tmp 19) 1)⟩
  (.op false ⟨(some 6), none, (.mv (.tmp 22))⟩
  (.op false ⟨(some 7), none, (.mv (.tmp 23))⟩ .done))))))))
 (.seq
 (.reg true (.op true ⟨(some 24), none, (.mv (.tmp 4))⟩
  (.op true ⟨(some 25), none, (.b2s (.tmp 24))⟩
  (.op true ⟨(some 26), none, (.mv (.tmp 6))⟩
  (.op true ⟨(some 27), none, (.bin .eql (.tmp 25) (.tmp 26))⟩
  (.op true ⟨(some 28), none, (.mv (.tmp 27))⟩
  (.op true ⟨(some 29), (some (28, true)), (.mv (.tmp 5))⟩
  (.op true ⟨(some 30), (some (28, true)), (.mv (.tmp 7))⟩
  (.op true ⟨(some 31), (some (28, true)), (.bin .eql (.tmp 29) (.tmp 30))⟩
  (.op true ⟨(some 32), none, (.pick (.tmp 28) (.tmp 31) (.const (.bool false)))⟩
  (.op true ⟨(some 33), none, (.mv (.tmp 32))⟩
  (.op true ⟨(some 34), (some (33, true)), (.ld (some 4) (.tmp 3))⟩
  (.op true ⟨(some 36), (some (33, true)), (.ld (some 4) (.tmp 1))⟩
  (.op false ⟨(some 35), (some (33, true)), (.call f_node_Size [(.tmp 34)])⟩
  (.op false ⟨(some 37), (some (33, true)), (.call f_thimbleref20_Size [(.tmp 36)])⟩
  (.op true ⟨(some 38), (some (33, true)), (.bin .eql (.tmp 35) (.tmp 37))⟩
  (.op true ⟨(some 39), none, (.pick (.tmp 33) (.tmp 38) (.const (.bool false)))⟩
  (.op true ⟨(some 40), none, (.mv (.tmp 39))⟩
  (.op true ⟨(some 41), (some (40, true)), (.ld (some 4) (.tmp 3))⟩
  (.op true ⟨(some 43), (some (40, true)), (.ld (some 4) (.tmp 1))⟩
  (.op false ⟨(some 42), (some (40, true)), (.call f_node_Right [(.tmp 41)])⟩
  (.op false ⟨(some 44), (some (40, true)), (.call f_thimbleref20_Right [(.tmp 43)])⟩
  (.op true ⟨(some 45), (some (40, true)), (.eqb false (.tmp 42) (.tmp 44))⟩
  (.op true ⟨(some 46), none, (.pick (.tmp 40) (.tmp 45) (.const (.bool false)))⟩
  (.op true ⟨(some 47), none, (.mv (.tmp 46))⟩
  (.op true ⟨(some 48), (some (47, true)), (.ld (some 4) (.tmp 3))⟩
  (.op true ⟨(some 49), (some (47, true)), (.ld (some 4) (.tmp 1))⟩
  (.op false ⟨(some 50), (some (47, true)), (.call f_thimbleref20_Same [(.tmp 48), (.tmp 49)])⟩
  (.op true ⟨(some 51), none, (.pick (.tmp 47) (.tmp 50) (.const (.bool false)))⟩
  (.op true ⟨(some 52), none, (.mv (.tmp 51))⟩
  (.op true ⟨(some 53), none, (.pick (.tmp 52) (.const (.bool true)) (.const (.bool false)))⟩
  (.op true ⟨(some 54), none, (.mv (.tmp 53))⟩
  (.op false ⟨(some 55), (some (54, true)), (.call f_thimblelaw20_works [])⟩
  (.op true ⟨(some 56), none, (.pick (.tmp 54) (.tmp 55) (.const (.bool false)))⟩
  (.bar (.op true ⟨(some 2), none, (.mv (.tmp 56))⟩ .done)))))))))))))))))))))))))))))))))))) .ret))))))⟩

set_option maxHeartbeats 400000 in
theorem nodeWrites {P : Program} {f f1 f2 f3 f4 f5 f6 f7 f8 f9 f10 : FuncId} (hd : dec P f = some (g_thimblelaw20_NodeWrites f1 f2 f3 f4 f5 f6 f7 f8 f9 f10)) (h1 : BulkOk P f1) (h2 : WorksOk P f2) (h3 : CopyOk P f3) (h4 : BytesOk P f4) (h5 : RBytesOk P f5)
    (h6 : SizeOk P f6) (h7 : SizeOk P f7) (h8 : RightOk P f8) (h9 : RightOk P f9) (h10 : SameOk P f10)
    {d : PHeap} {cs : List Value} {n : NodeD} (hn : RNode d cs n) : GCall P f [.agg cs.toArray] d [] (Ret fun v _ _ => v = .bool true) := by
  refine GCall_of hd (Nat.le_of_ble_eq_true rfl) ?_
  have hn' := hn
  obtain ⟨kv, vv, iv, rfl, hk, hv, hiv⟩ : ∃ kv vv iv, cs = [.bool n.leaf, kv, vv, iv] ∧ RBss d kv n.keys ∧ RBss d vv n.vals ∧ RInts d iv n.kids := hn
  show gwp P _ _ _ _ _
  (apply w_sq; apply w_reg; apply w_boxa; rfl; intro _ _; apply w_mvb; rfl; apply w_done0; apply w_sq; apply w_sq; apply w_reg; apply w_ldb 0; rfl; rfl; rfl)
  refine w_call0 rfl (h1 hn') (fun r d1 L1 _ ⟨z, hr, hz, hdd, hL⟩ => ?_)
  subst hr; subst hdd; subst hL
  by_cases hz' : z > 3000
  · (apply w_gtr; rfl; rfl; apply w_done0; refine w_ifdT rfl (by omega) ?_; apply w_sq; apply w_reg)
    refine w_call0 rfl h2 (fun r d2 L2 _ ⟨hr, hL⟩ => ?_)
    subst hr; subst hL
    (apply w_mvb; rfl; apply w_done0; apply w_ret)
    exact fin1n rfl rfl
  · have hbk := hz (by omega)
    have hsz : sizeD n ≤ 1000000000000 := sizeD_bulk n hbk
    have hb1 : n.keys.length ≤ 1000000000 := by have := len_bsum n.keys n.keys.length; unfold bulkD at hbk; omega
    have hb2 : n.vals.length ≤ 1000000000 := by have := len_bsum n.vals n.vals.length; unfold bulkD at hbk; omega
    have hb3 : n.kids.length ≤ 1000000000 := by unfold bulkD at hbk; omega
    (apply w_gtr; rfl; rfl; apply w_done0; refine w_ifdF rfl (by omega) ?_; apply w_skip; apply w_sq; apply w_reg; apply w_ldb 0; rfl; rfl; rfl)
    refine w_call0 rfl (h3 hn' hsz hb1 hb2 hb3) (fun r d2 L2 hl2 ⟨hL, cs', hr, hcs⟩ => ?_)
    subst hr; subst hL
    have hcs' := hcs
    obtain ⟨kv', vv', iv', rfl, hk', hv', hiv'⟩ : ∃ kv vv iv, cs' = [.bool n.leaf, kv, vv, iv] ∧ RBss d2 kv n.keys ∧ RBss d2 vv n.vals ∧ RInts d2 iv n.kids := hcs
    obtain ⟨ka, kc, rfl⟩ := RSl.val hk'
    obtain ⟨va, vc, rfl⟩ := RSl.val hv'
    obtain ⟨ia, ic, rfl⟩ := RSl.val hiv'
    (apply w_alo; intro _ _)
    refine w_st 0 rfl rfl rfl rfl (by simp [Value.cells]) rfl ?_
    (apply w_done0; apply w_sq; apply w_reg; apply w_ldb 0; rfl; rfl; rfl)
    refine w_call0 rfl (bytes_grow h4 hcs' hsz) (fun r d3 L3 hl3 ⟨hdd, v, g, hr, hL, hrow⟩ => ?_)
    subst hr; subst hdd; subst hL
    refine w_frz (fun d4 hl4 hb4 => ?_)
    have hpage : RBytes d4 v (if rightB n then pageD n else []) := hrow.rsl mono_byte (by omega) hl4 hb4
    have hnd : RNode d4 [.bool n.leaf, kv, vv, iv] n := hn'.mono (hl2.trans hl4)
    have hcd : RNode d4 [.bool n.leaf, .slice ka n.keys.length kc, .slice va n.vals.length vc, .slice ia n.kids.length ic] n := hcs'.mono hl4
    (apply w_mvu; rfl; apply w_ext; rfl; rfl; apply w_ext; rfl; rfl; apply w_mv; apply w_mvi; rfl; apply w_done0; apply w_sq; apply w_reg; apply w_ldb 1; rfl; rfl; rfl)
    refine w_pure rfl (h5 hnd hsz) ?_
    (apply w_mvu; rfl; apply w_ext; rfl; rfl; apply w_ext; rfl; rfl; apply w_mvt; rfl; apply w_mvi; rfl; apply w_done0; apply w_sq; apply w_drawn; apply w_mv; apply w_b2sR; rfl; assumption; apply w_mvt; rfl; apply w_seq; rfl; rfl; apply w_mvb; rfl; refine w_gdT rfl (by with_reducible rfl) ?_; apply w_gT; rfl; apply w_mvi; rfl; apply w_gT; rfl; apply w_mvi; rfl; apply w_gT; rfl; apply w_eql; rfl; rfl; apply w_pickTb; rfl; rfl; apply w_mvb; rfl; refine w_gdT rfl (by omega) ?_; apply w_gT; rfl; apply w_ldb 0; rfl; rfl; rfl; apply w_gT; rfl; apply w_ldb 1; rfl; rfl; rfl; apply w_gT; rfl)
    refine w_pure rfl (h6 hcd hsz) ?_
    refine w_gT rfl ?_
    refine w_pure rfl (h7 hnd hsz) ?_
    have hbb : (false ^^ (rightB n == rightB n)) = true := by simp
    (apply w_gT; rfl; apply w_eql; rfl; rfl; apply w_pickTb; rfl; rfl; apply w_mvb; rfl; refine w_gdT rfl (by omega) ?_; apply w_gT; rfl; apply w_ldb 0; rfl; rfl; rfl; apply w_gT; rfl; apply w_ldb 1; rfl; rfl; rfl; apply w_gT; rfl)
    refine w_pure rfl (h8 hcd hsz) ?_
    (apply w_gT; rfl)
    refine w_pure rfl (h9 hnd hsz) ?_
    (apply w_gT; rfl; apply w_eqb; rfl; rfl; apply w_pickTb; rfl; rfl; apply w_mvb; rfl; apply w_gbT; rfl; (with_reducible assumption); apply w_gT; rfl; apply w_ldb 0; rfl; rfl; rfl; apply w_gT; rfl; apply w_ldb 1; rfl; rfl; rfl; apply w_gT; rfl)
    refine w_pure rfl (h10 hcd hnd) ?_
    (apply w_pickTb; rfl; rfl; apply w_mvb; rfl; refine w_pickdT rfl (by with_reducible rfl) rfl ?_; apply w_mvb; rfl; apply w_gT; rfl)
    refine w_call0 rfl h2 (fun r d2 L2 _ ⟨hr, hL⟩ => ?_)
    subst hr; subst hL
    (apply w_pickTb; rfl; rfl; apply w_bar; apply w_mvb; rfl; apply w_done0; apply w_ret)
    exact fin1n rfl rfl
end Go.Gk.Node
