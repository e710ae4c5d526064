/-
  Our own texts, one behind the other: GkV9 GkU3 GkS1 GkP0 GkS2 GkS3.
-/
import Derived.Lib.RuneCountTail
import Derived.Lib.QuoteLoop
import Derived.Lib.MapLaws
import Derived.Lib.ValidLaws
import Derived.Test.YtbnoplhkegcllaaDoorPkD
section
/-
  Values: copies.
-/
namespace Go.Gk.Val
open Go Go.Gk
attribute [local irreducible] gwp gws

/-! ### how many values and keys -/
mutual
def cntV : V → Nat
  | .mk _ _ _ _ l ks => 1 + ks.length + cnts l
def cnts : List V → Nat
  | [] => 0
  | x :: l => cntV x + cnts l
end
theorem cntV_eq (v : V) : cntV v = 1 + v.keys.length + cnts v.list := by obtain ⟨k, m, e, t, l, ks⟩ := v; rfl
theorem cnts_mem {x : V} : ∀ {l : List V}, x ∈ l → cntV x ≤ cnts l
  | y :: l, h => by
    rcases List.mem_cons.1 h with rfl | h
    · simp only [cnts]; omega
    · have := cnts_mem h; simp only [cnts]; omega
theorem cnts_len : ∀ l : List V, l.length ≤ cnts l
  | [] => Nat.le_refl _
  | x :: l => by
    have h1 := cntV_eq x
    have h2 := cnts_len l
    simp only [cnts, List.length_cons]; omega
theorem klens_len : ∀ l : List (List UInt8), l.length ≤ klens l
  | [] => Nat.le_refl _
  | x :: l => by
    have := klens_len l
    simp only [klens, List.length_cons]; omega
theorem cnts_bulk : ∀ {l : List V}, (∀ x ∈ l, cntV x ≤ bulkV x) → cnts l ≤ bulks l
  | [], _ => Nat.le_refl _
  | x :: l, h => by
    have h1 := h x (List.mem_cons_self ..)
    have h2 := cnts_bulk (l := l) (fun y hy => h y (List.mem_cons_of_mem _ hy))
    simp only [cnts, bulks]; omega
theorem cnt_bulk (v : V) : cntV v ≤ bulkV v := by
  induction v using V.ind with
  | h v ih =>
    have h1 := bulkV_eq v
    have h2 := cntV_eq v
    have h3 := klens_len v.keys
    have h4 := cnts_bulk ih
    omega
theorem cnt_list {v : V} : v.list.length ≤ cntV v := by
  have h1 := cntV_eq v
  have h2 := cnts_len v.list
  omega
theorem cnt_keys {v : V} : v.keys.length ≤ cntV v := by
  have h1 := cntV_eq v
  omega
theorem cnt_mem {v x : V} (h : x ∈ v.list) : cntV x ≤ cntV v := by
  have h1 := cntV_eq v
  have h2 := cnts_mem h
  omega

/-! ### how many values, keys and letters of texts -/
mutual
def txtV : V → Nat
  | .mk _ _ _ t l ks => 1 + t.length + ks.length + txts l
def txts : List V → Nat
  | [] => 0
  | x :: l => txtV x + txts l
end
theorem txtV_eq (v : V) : txtV v = 1 + v.text.length + v.keys.length + txts v.list := by obtain ⟨k, m, e, t, l, ks⟩ := v; rfl
theorem txts_mem {x : V} : ∀ {l : List V}, x ∈ l → txtV x ≤ txts l
  | y :: l, h => by
    rcases List.mem_cons.1 h with rfl | h
    · simp only [txts]; omega
    · have := txts_mem h; simp only [txts]; omega
theorem cnts_txt : ∀ {l : List V}, (∀ x ∈ l, cntV x ≤ txtV x) → cnts l ≤ txts l
  | [], _ => Nat.le_refl _
  | x :: l, h => by
    have h1 := h x (List.mem_cons_self ..)
    have h2 := cnts_txt (l := l) (fun y hy => h y (List.mem_cons_of_mem _ hy))
    simp only [cnts, txts]; omega
theorem cnt_txt (v : V) : cntV v ≤ txtV v := by
  induction v using V.ind with
  | h v ih =>
    have h1 := txtV_eq v
    have h2 := cntV_eq v
    have h4 := cnts_txt ih
    omega
theorem txts_bulk : ∀ {l : List V}, (∀ x ∈ l, txtV x ≤ bulkV x) → txts l ≤ bulks l
  | [], _ => Nat.le_refl _
  | x :: l, h => by
    have h1 := h x (List.mem_cons_self ..)
    have h2 := txts_bulk (l := l) (fun y hy => h y (List.mem_cons_of_mem _ hy))
    simp only [txts, bulks]; omega
theorem txt_bulk (v : V) : txtV v ≤ bulkV v := by
  induction v using V.ind with
  | h v ih =>
    have h1 := txtV_eq v
    have h2 := bulkV_eq v
    have h3 := klens_len v.keys
    have h4 := txts_bulk ih
    omega
theorem depth_txt (v : V) : depthV v ≤ txtV v := by
  induction v using V.ind with
  | h v ih =>
    have h1 := txtV_eq v
    obtain ⟨n, hn⟩ : ∃ n, txtV v = n + 1 := ⟨txtV v - 1, by omega⟩
    rw [hn, depth_le]
    intro x hx
    have := txts_mem hx
    have := ih x hx
    omega

section
variable {P : Program} {pan : List PanicEntry → Post} {Qn : Env → Post} {Ls L : List PHeap} {ρ : Env} {d : PHeap} {s : GS} {t : Nat} {tk : Bool}
def z6 : List Value := [.int .i64 0, .int .i64 0, .int .i64 0, strV [], .slice none 0 0, .slice none 0 0]
theorem six {cs : List Value} (h : cs.length = 6) : ∃ a0 a1 a2 a3 a4 a5, cs = [a0, a1, a2, a3, a4, a5] := by
  match cs, h with
  | [a, b, c, d, e, f], _ => exact ⟨a, b, c, d, e, f, rfl⟩
/-- A literal of one value. -/
theorem w_bsV {x : Operand} {cs : List Value} (ex : ev ρ x = .agg cs.toArray) (hc : cs.length = 6) (h : ∀ b T, gws P pan Qn s Ls (upd ρ t (.slice (some ⟨b, 0, none⟩) 1 1)) d (bx b T cs :: L)) :
    gws P pan Qn (.op false ⟨some t, none, .bsl 1 6 [.int .i64 0, .int .i64 0, .int .i64 0, strV [], .slice none 0 0, .slice none 0 0] [(0, x)]⟩ s) Ls ρ d L := by
  obtain ⟨a0, a1, a2, a3, a4, a5, rfl⟩ := six hc
  refine w_bsl (by omega) ?_ h
  simp [Instr.fill, zrow, List.range, List.range.loop, ex, Value.cells]
end

/-! ### the reference's copy -/
def RCopyOk (P : Program) (f : FuncId) : Prop := ∀ (v : V) {d : PHeap} {cs : List Value}, RVal d cs v → cntV v ≤ 1000000000 → GCall P f [.agg cs.toArray] d [] (Ret fun r d' L' => L' = [] ∧ ∃ cs', r = .agg cs'.toArray ∧ RVal d' cs' v)
def g_thimbleref03_Copy (f_thimbleref03_Copy : Nat) : GFun :=
 ⟨35, [(.cell 2 (some 6))],
 (.seq
 (.reg false (.op false ⟨(some 1), none, (.box (.tmp 0))⟩
  (.op false ⟨(some 2), none, (.alo (.agg #[(.int .i64 0), (.int .i64 0), (.int .i64 0), (strV []), (.slice none 0 0), (.slice none 0 0)]))⟩ .done)))
 (.seq
 (.reg true (.op true ⟨(some 5), none, (.fld 0 (.tmp 1))⟩
  (.op true ⟨(some 6), none, (.ld none (.tmp 5))⟩
  (.op true ⟨(some 7), none, (.fld 1 (.tmp 1))⟩
  (.op true ⟨(some 8), none, (.ld (some 2) (.tmp 7))⟩
  (.op true ⟨(some 9), none, (.fld 3 (.tmp 1))⟩
  (.op true ⟨(some 10), none, (.ld none (.tmp 9))⟩
  (.op true ⟨(some 12), none, (.fld 5 (.tmp 1))⟩
  (.op true ⟨(some 13), none, (.ld none (.tmp 12))⟩
  (.alt ⟨(some 11), none, (.bsl 0 1 [(strV [])] [])⟩
  (.alt ⟨(some 14), none, (.app 1 16 [(strV [])] (.tmp 11) (.tmp 13))⟩
  (.op true ⟨(some 15), none, (.bld [(0, 1), (1, 2), (3, 1), (4, 1), (5, 1)] [(.int .i64 0), (.int .i64 0), (.int .i64 0), (strV []), (.slice none 0 0), (.slice none 0 0)] [(0, (.tmp 6)), (1, (.tmp 8)), (2, (.tmp 10)), (4, (.tmp 14))])⟩
  (.op false ⟨(some 3), none, (.alo (.agg #[(.int .i64 0), (.int .i64 0), (.int .i64 0), (strV []), (.slice none 0 0), (.slice none 0 0)]))⟩
  (.bar (.op false ⟨none, none, (.st 6 (.tmp 3) (.tmp 15))⟩ .done)))) (.op false ⟨(some 3), none, (.alo (.agg #[(.int .i64 0), (.int .i64 0), (.int .i64 0), (strV []), (.slice none 0 0), (.slice none 0 0)]))⟩
  (.op false ⟨(some 14), none, (.app 1 16 [(strV [])] (.tmp 11) (.tmp 13))⟩
  (.op true ⟨(some 15), none, (.bld [(0, 1), (1, 2), (3, 1), (4, 1), (5, 1)] [(.int .i64 0), (.int .i64 0), (.int .i64 0), (strV []), (.slice none 0 0), (.slice none 0 0)] [(0, (.tmp 6)), (1, (.tmp 8)), (2, (.tmp 10)), (4, (.tmp 14))])⟩
  (.bar (.op false ⟨none, none, (.st 6 (.tmp 3) (.tmp 15))⟩ .done)))))) (.op false ⟨(some 3), none, (.alo (.agg #[(.int .i64 0), (.int .i64 0), (.int .i64 0), (strV []), (.slice none 0 0), (.slice none 0 0)]))⟩
  (.op false ⟨(some 11), none, (.bsl 0 1 [(strV [])] [])⟩
  (.op false ⟨(some 14), none, (.app 1 16 [(strV [])] (.tmp 11) (.tmp 13))⟩
  (.op true ⟨(some 15), none, (.bld [(0, 1), (1, 2), (3, 1), (4, 1), (5, 1)] [(.int .i64 0), (.int .i64 0), (.int .i64 0), (strV []), (.slice none 0 0), (.slice none 0 0)] [(0, (.tmp 6)), (1, (.tmp 8)), (2, (.tmp 10)), (4, (.tmp 14))])⟩
  (.bar (.op false ⟨none, none, (.st 6 (.tmp 3) (.tmp 15))⟩ .done))))))))))))))))
 (.seq (.seq
 (.reg false (.op false ⟨(some 4), none, (.mv (.const (.int .i64 0)))⟩ .done)) (.block 0 (.loop
 (.seq (.seq
 (.reg false (.op false ⟨(some 16), none, (.mv (.tmp 4))⟩
  (.op false ⟨(some 17), none, (.fld 4 (.tmp 1))⟩
  (.op false ⟨(some 18), none, (.ld none (.tmp 17))⟩
  (.op false ⟨(some 19), none, (.len (.tmp 18))⟩
  (.op false ⟨(some 20), none, (.bin .lss (.tmp 16) (.tmp 19))⟩ .done)))))) (.cond (.tmp 20) .skip (.exit 0)))
 (.seq (.block 1
 (.reg true (.op true ⟨(some 23), none, (.fld 4 (.tmp 3))⟩
  (.op true ⟨(some 24), none, (.ld none (.tmp 23))⟩
  (.op true ⟨(some 25), none, (.fld 4 (.tmp 1))⟩
  (.op true ⟨(some 26), none, (.ld none (.tmp 25))⟩
  (.op true ⟨(some 27), none, (.mv (.tmp 4))⟩
  (.op true ⟨(some 28), none, (.idx 6 (.tmp 26) (.tmp 27))⟩
  (.op true ⟨(some 29), none, (.ld (some 6) (.tmp 28))⟩
  (.op false ⟨(some 30), none, (.call f_thimbleref03_Copy [(.tmp 29)])⟩
  (.op false ⟨(some 31), none, (.bsl 1 6 [(.int .i64 0), (.int .i64 0), (.int .i64 0), (strV []), (.slice none 0 0), (.slice none 0 0)] [(0, (.tmp 30))])⟩
  (.op false ⟨(some 32), none, (.app 6 88 [(.int .i64 0), (.int .i64 0), (.int .i64 0), (strV []), (.slice none 0 0), (.slice none 0 0)] (.tmp 24) (.tmp 31))⟩
  (.op true ⟨(some 33), none, (.fld 4 (.tmp 3))⟩
  (.bar (.op false ⟨none, none, (.st 1 (.tmp 33) (.tmp 32))⟩ .done)))))))))))))))
 (.reg false (.op false ⟨(some 21), none, (.mv (.tmp 4))⟩
  (.op false ⟨(some 22), none, (.bin .add (.tmp 21) (.const (.int .i64 1)))⟩
  (.op false ⟨(some 4), none, (.mv (.tmp 22))⟩ .done)))))))))
 (.seq
 (.reg false (.op false ⟨(some 34), none, (.ld (some 6) (.tmp 3))⟩
  (.op false ⟨none, none, (.st 6 (.tmp 2) (.tmp 34))⟩ .done))) .ret))))⟩

set_option maxHeartbeats 1000000 in
theorem rcopy_ok {P : Program} {f : FuncId} (hd : dec P f = some (g_thimbleref03_Copy f)) : RCopyOk P f := by
  intro v
  induction v using V.ind with
  | h v ih =>
  intro d cs hv hb
  refine GCall_of hd (Nat.le_of_ble_eq_true rfl) ?_
  have hb1 := cnt_list (v := v)
  have hb2 := cnt_keys (v := v)
  obtain ⟨lv, kv, rfl, ik, im, ie, it, hl, hks⟩ := hv.open
  obtain ⟨la, lc, rfl⟩ := RSl.val hl
  obtain ⟨ka, kc, rfl⟩ := RSl.val hks
  show gwp P _ _ _ _ _
  apply w_sq; apply w_reg
  refine w_boxa (l := [.int .i64 v.kind, .int .i64 v.m, .int .i64 v.e, strV v.text, .slice la v.list.length lc, .slice ka v.keys.length kc]) rfl (fun b1 T1 => ?_)
  refine w_frz (fun d1 hl1 hg1 => ?_)
  have hc1 : DCs d1 b1 0 [.int .i64 v.kind, .int .i64 v.m, .int .i64 v.e, strV v.text, .slice la v.list.length lc, .slice ka v.keys.length kc] := dcs_bx hg1
  have hl' : RSl 6 RVal d1 (.slice la v.list.length lc) v.list := RVals.mono hl hl1
  have hks' : RSl 1 RStr d1 (.slice ka v.keys.length kc) v.keys := RStrs.mono hks hl1
  (apply w_alo; intro _ _; apply w_done0)
  rename_i b2 T2
  refine w_mid (fun ρ d' L' => Le d1 d' ∧ ∃ b3 T3 kv, SlotsAre ρ [(1, .pointer (some ⟨b1, 0, none⟩)), (2, .pointer (some ⟨b2, 0, none⟩)), (3, .pointer (some ⟨b3, 0, none⟩))] ∧ RStrs d' kv v.keys ∧
    L' = [bx b2 T2 [.int .i64 0, .int .i64 0, .int .i64 0, strV [], .slice none 0 0, .slice none 0 0], bx b3 T3 [.int .i64 v.kind, .int .i64 v.m, .int .i64 v.e, strV v.text, .slice none 0 0, kv]]) ?_ ?_
  · refine w_drawn ?_
    (apply w_fld; rfl; apply w_ld; rfl; exact hc_ds (by assumption) rfl; apply w_fld; rfl; apply w_lddp; rfl; assumption; rfl; apply w_fld; rfl; apply w_ld; rfl; exact hc_ds (by assumption) rfl; apply w_fld; rfl; apply w_ld; rfl; exact hc_ds (by assumption) rfl)
    refine w_alt ?_ ?_
    · refine w_bsl (cs := []) (by omega) rfl (fun b11 T11 => ?_)
      refine w_alt ?_ ?_
      · refine w_appG (R := RStr) 0 rfl rfl (GRow.lit0 (R := RStr) (sz := 1)) rfl (RSl.src (R := RStr) (xs := v.keys) hks' cell1_str (by omega) _) (by omega) (by simp; omega) (by simp; omega) (fun v14 h14 o14 => ?_)
        have o14 : GRow 1 RStr d1 v14 v.keys h14 := o14
        obtain ⟨ka', kc', rfl⟩ := o14.val
        (apply w_bvC; rfl; rfl; rfl; rfl; apply w_alo; intro _ _; apply w_bar)
        rename_i b3 T3
        refine w_stE 1 [.int .i64 v.kind, .int .i64 v.m, .int .i64 v.e, strV v.text, .slice none 0 0, .slice ka' v.keys.length kc'] rfl rfl rfl rfl (Nat.le_of_ble_eq_true rfl) rfl rfl ?_
        exact w_doneE ⟨_, _, (Vs.pick [2, 0, 1] rfl).trans Vs.freeze, Le.join_left _ _, b3, T3, _, ⟨rfl, rfl, rfl, trivial⟩, o14.rsl mono_str (by omega) (Le.join_left _ _) (Le.join_right _ _), rfl⟩
      · (apply w_alo; intro _ _)
        rename_i b3 T3
        refine w_appG (R := RStr) 1 rfl rfl (GRow.lit0 (R := RStr) (sz := 1)) rfl (RSl.src (R := RStr) (xs := v.keys) hks' cell1_str (by omega) _) (by omega) (by simp; omega) (by simp; omega) (fun v14 h14 o14 => ?_)
        have o14 : GRow 1 RStr d1 v14 v.keys h14 := o14
        obtain ⟨ka', kc', rfl⟩ := o14.val
        (apply w_bvC; rfl; rfl; rfl; rfl; apply w_bar)
        refine w_stE 1 [.int .i64 v.kind, .int .i64 v.m, .int .i64 v.e, strV v.text, .slice none 0 0, .slice ka' v.keys.length kc'] rfl rfl rfl rfl (Nat.le_of_ble_eq_true rfl) rfl rfl ?_
        exact w_doneE ⟨_, _, (Vs.pick [2, 0, 1] rfl).trans Vs.freeze, Le.join_left _ _, b3, T3, _, ⟨rfl, rfl, rfl, trivial⟩, o14.rsl mono_str (by omega) (Le.join_left _ _) (Le.join_right _ _), rfl⟩
    · (apply w_alo; intro _ _)
      rename_i b3 T3
      refine w_bsl (cs := []) (by omega) rfl (fun b11 T11 => ?_)
      refine w_appG (R := RStr) 0 rfl rfl (GRow.lit0 (R := RStr) (sz := 1)) rfl (RSl.src (R := RStr) (xs := v.keys) hks' cell1_str (by omega) _) (by omega) (by simp; omega) (by simp; omega) (fun v14 h14 o14 => ?_)
      have o14 : GRow 1 RStr d1 v14 v.keys h14 := o14
      obtain ⟨ka', kc', rfl⟩ := o14.val
      (apply w_bvC; rfl; rfl; rfl; rfl; apply w_bar)
      refine w_stE 2 [.int .i64 v.kind, .int .i64 v.m, .int .i64 v.e, strV v.text, .slice none 0 0, .slice ka' v.keys.length kc'] rfl rfl rfl rfl (Nat.le_of_ble_eq_true rfl) rfl rfl ?_
      exact w_doneE ⟨_, _, (Vs.pick [1, 0, 2] rfl).trans Vs.freeze, Le.join_left _ _, b3, T3, _, ⟨rfl, rfl, rfl, trivial⟩, o14.rsl mono_str (by omega) (Le.join_left _ _) (Le.join_right _ _), rfl⟩
  rintro ρ d2 L' ⟨hl2, b3, T3, kv, hsl, hkv, hL⟩
  subst hL
  obtain ⟨ka', kc', rfl⟩ := RSl.val hkv
  refine gwp_slots _ hsl ?_
  clear hsl
  apply w_sq; apply w_sq; apply w_reg
  refine w_vs d2 [bx b2 T2 [.int .i64 0, .int .i64 0, .int .i64 0, strV [], .slice none 0 0, .slice none 0 0], bx b3 T3 [.int .i64 v.kind, .int .i64 v.m, .int .i64 v.e, strV v.text, .slice none 0 0, .slice ka' v.keys.length kc'], emp] (Vs.emp.trans (Vs.pick [1, 2, 0] rfl)) ?_
  (apply w_mvi; rfl; apply w_done0; apply w_block)
  refine w_loopS (α := Nat) (fun i => [(1, .pointer (some ⟨b1, 0, none⟩)), (2, .pointer (some ⟨b2, 0, none⟩)), (3, .pointer (some ⟨b3, 0, none⟩)), (4, .int .i64 i)])
    (fun i d' L' => Le d2 d' ∧ i ≤ v.list.length ∧ ∃ ra rc h, GRow 6 RVal d' (.slice ra i rc) (v.list.take i) h ∧ L' = [bx b2 T2 [.int .i64 0, .int .i64 0, .int .i64 0, strV [], .slice none 0 0, .slice none 0 0], bx b3 T3 [.int .i64 v.kind, .int .i64 v.m, .int .i64 v.e, strV v.text, .slice ra i rc, .slice ka' v.keys.length kc'], h])
    (fun i => v.list.length - i) 0 ⟨rfl, rfl, rfl, rfl, trivial⟩ ⟨Le.refl _, Nat.zero_le _, none, 0, emp, GRow.nil, rfl⟩ ?_
  rintro i ρ d3 L' ⟨hl3, hi, ra, rc, h, hrow, hL⟩
  subst hL
  have hc3 := hc1.mono (hl2.trans hl3)
  have hl3' : RSl 6 RVal d3 (.slice la v.list.length lc) v.list := RVals.mono hl' (hl2.trans hl3)
  by_cases hc : i < v.list.length
  · (apply w_sq; apply w_sq; apply w_reg; apply w_mvi; rfl; apply w_fld; rfl; apply w_ld; rfl; exact hc_ds (by assumption) rfl; apply w_len; rfl; apply w_lss; rfl; rfl; apply w_done0; refine w_ifdT rfl (by omega) ?_; apply w_skip; apply w_sq; apply w_block)
    refine w_drawnA [bx b2 T2 [.int .i64 0, .int .i64 0, .int .i64 0, strV [], .slice none 0 0, .slice none 0 0], bx b3 T3 [.int .i64 v.kind, .int .i64 v.m, .int .i64 v.e, strV v.text, .slice ra i rc, .slice ka' v.keys.length kc']] [h] rfl ?_
    (apply w_fld; rfl; apply w_ld; rfl; exact hc_i 1 rfl rfl; apply w_fld; rfl; apply w_ld; rfl; exact hc_ds (by assumption) rfl; apply w_mvi; rfl; refine w_idxR (sz := 6) (R := RVal) (by rfl) (by assumption) (by rfl) rfl (by omega) ?_; rintro _ _ _ _ _ _; apply w_ldd; rfl; assumption; assumption)
    rename_i cs hcs hD hR
    refine w_call0 rfl (ih _ (List.getElem_mem hc) hR (by have := cnt_mem (List.getElem_mem hc); omega)) (fun r d4 L4 hl4 ⟨hL, cs', hr, hR'⟩ => ?_)
    subst hL; subst hr
    refine w_bsV rfl hR'.len (fun b31 T31 => ?_)
    have hrow4 : GRow 6 RVal d4 (.slice ra i rc) (v.list.take i) h := GRow.mono (R := RVal) mono_val hrow hl4
    have htl : (v.list.take i).length = i := by simp; omega
    refine w_appL (R := RVal) 0 rfl rfl hrow4 rfl (GRow.lit1 hR'.len hR') cell1_val (by omega) (by simp; omega) (by simp; omega) (fun v5 h5 o5 => ?_)
    rw [← List.take_succ_eq_append_getElem hc] at o5
    obtain ⟨a5, c5, rfl⟩ := o5.val
    have hlt : (v.list.take (i + 1)).length = i + 1 := by simp; omega
    rw [hlt] at o5 ⊢
    (apply w_fld; rfl; apply w_bar)
    refine w_stE 1 [.int .i64 v.kind, .int .i64 v.m, .int .i64 v.e, strV v.text, .slice a5 (i + 1) c5, .slice ka' v.keys.length kc'] rfl rfl rfl rfl (Nat.le_of_ble_eq_true rfl) rfl rfl ?_
    (apply w_done0; apply w_reg; apply w_mvi; rfl; apply w_add; rfl; rfl; omega; omega; apply w_mvi; rfl; apply w_done0)
    exact ⟨i + 1, by omega, ⟨rfl, rfl, rfl, rfl, trivial⟩, hl3.trans hl4, hc, a5, c5, h5, o5, rfl⟩
  · obtain rfl : i = v.list.length := by omega
    (apply w_sq; apply w_sq; apply w_reg; apply w_mvi; rfl; apply w_fld; rfl; apply w_ld; rfl; exact hc_ds (by assumption) rfl; apply w_len; rfl; apply w_lss; rfl; rfl; apply w_done0; refine w_ifdF rfl (by omega) ?_; apply w_exit; apply w_sq; apply w_reg; apply w_ldb 1; rfl; rfl; rfl)
    refine w_stE 0 [.int .i64 v.kind, .int .i64 v.m, .int .i64 v.e, strV v.text, .slice ra v.list.length rc, .slice ka' v.keys.length kc'] rfl rfl rfl rfl (Nat.le_of_ble_eq_true rfl) rfl rfl ?_
    (apply w_done0; apply w_ret)
    refine finF [.agg [.int .i64 v.kind, .int .i64 v.m, .int .i64 v.e, strV v.text, .slice ra v.list.length rc, .slice ka' v.keys.length kc'].toArray] ⟨res_cell 0 rfl rfl rfl, trivial⟩ (fun d' hld hk => ?_)
    refine ⟨rfl, _, rfl, RVal.close ik im ie it ?_ (RStrs.mono hkv (hl3.trans hld))⟩
    have := hrow.rsl (R := RVal) mono_val (by omega) hld (hk h (by simp))
    rwa [List.take_length] at this

/-! ### clones, and the copy -/
def CloneOk {α : Type} (R : PHeap → List Value → α → Prop) (by_ : Nat) (P : Program) (f : FuncId) : Prop := ∀ {d : PHeap} {v : Value} {xs : List α}, RSl 1 R d v xs → xs.length * by_ ≤ 140737488355328 →
  GCall P f [v] d [] (Ret fun r d' L' => d' = d ∧ ∃ h, L' = [h] ∧ GRow 1 R d r xs h)
def g_slices_Clone_string_string : GFun :=
 ⟨8, [(.tmp 2)],
 (.seq
 (.reg false (.op false ⟨(some 2), none, (.mv (.const (.slice none 0 0)))⟩ .done))
 (.seq (.seq
 (.reg false (.op false ⟨(some 3), none, (.mv (.tmp 0))⟩
  (.op false ⟨(some 4), none, (.eqs false (.tmp 3) (.const (.slice none 0 0)))⟩ .done))) (.cond (.tmp 4)
 (.seq
 (.reg false (.op false ⟨(some 2), none, (.mv (.const (.slice none 0 0)))⟩ .done)) .ret) .skip))
 (.seq
 (.reg false (.op false ⟨(some 5), none, (.bsl 0 1 [(strV [])] [])⟩
  (.op false ⟨(some 6), none, (.mv (.tmp 0))⟩
  (.op false ⟨(some 7), none, (.app 1 16 [(strV [])] (.tmp 5) (.tmp 6))⟩
  (.op false ⟨(some 2), none, (.mv (.tmp 7))⟩ .done))))) .ret)))⟩

theorem clone_str {P : Program} {f : FuncId} (hd : dec P f = some g_slices_Clone_string_string) : CloneOk RStr 16 P f := by
  intro d v xs hv hb
  have hv' := hv
  have hxl := RSl.len_le hv
  obtain ⟨a, c, b, o, rfl, h2, h3, h4, h5, _⟩ := hv
  refine GCall_of hd (Nat.le_of_ble_eq_true rfl) ?_
  show gwp P _ _ _ _ _
  cases a with
  | none =>
    have : xs = [] := List.eq_nil_of_length_eq_zero (by have := h4 rfl; omega)
    subst this
    apply w_sq; apply w_reg
    refine w_vs d [emp] Vs.emp ?_
    (apply w_mvs; rfl; apply w_done0; apply w_sq; apply w_sq; apply w_reg; apply w_mvs; rfl; apply w_eqsN; rfl; rfl; apply w_done0; apply w_ifT; rfl; apply w_sq; apply w_reg; apply w_mvs; rfl; apply w_done0; apply w_ret)
    exact fin1 (L' := [emp]) rfl (List.Sublist.refl _) ⟨rfl, emp, rfl, GRow.nil⟩
  | some a =>
    (apply w_sq; apply w_reg; apply w_mvs; rfl; apply w_done0; apply w_sq; apply w_sq; apply w_reg; apply w_mvs; rfl; apply w_eqsS; rfl; rfl; apply w_done0; apply w_ifF; rfl; apply w_skip; apply w_sq; apply w_reg)
    refine w_bsl (cs := []) (by omega) rfl (fun b8 T8 => ?_)
    (apply w_mvs; rfl)
    refine w_appG 0 rfl rfl (GRow.lit0 (R := RStr) (sz := 1)) rfl (RSl.src (R := RStr) (xs := xs) hv' cell1_str (by omega) _) (by omega) (by simp; omega) (by simp; omega) (fun v5 h5 hrow5 => ?_)
    (apply w_mv; apply w_done0; apply w_ret)
    exact fin1 (L' := [h5]) rfl (List.Sublist.refl _) ⟨rfl, h5, rfl, hrow5⟩
theorem OVal.cells {cs : List Value} {v : V} {h : PHeap} (o : OVal cs v h) : cs.length = 6 ∧ (cs.all (·.oneCell')) = true :=
  ⟨(o.rval (Le.refl h)).len, cell1_val _ _ _ (o.rval (Le.refl h))⟩
/-- A value's own memory, in parts. -/
def OParts (v : V) (cs : List Value) (L : List PHeap) : Prop := ∃ lv kv hk hl ccs hs, cs = [.int .i64 v.kind, .int .i64 v.m, .int .i64 v.e, strV v.text, lv, kv] ∧ GRow 1 RStr emp kv v.keys hk ∧ ORow 6 lv v.list.length ccs hl ∧ hs.length = v.list.length ∧
  (∀ i (h : i < v.list.length), OVal (chunk ccs i 6) v.list[i] (hs.getD i emp)) ∧ L = hk :: hl :: hs
def VCopyOk (P : Program) (f : FuncId) : Prop := ∀ (v : V) {d : PHeap} {cs : List Value}, RVal d cs v → cntV v ≤ 1000000000 → GCall P f [.agg cs.toArray] d [] (Ret fun r d' L' => d' = d ∧ ∃ cs' h, r = .agg cs'.toArray ∧ L' = [h] ∧ OVal cs' v h)
theorem vcopy_pack {P : Program} {f : FuncId} {v : V} {d : PHeap} {cs : List Value} (hv : RVal d cs v) (h : GCall P f [.agg cs.toArray] d [] (Ret fun r d' L' => d' = d ∧ ∃ cs', r = .agg cs'.toArray ∧ OParts v cs' L')) :
    GCall P f [.agg cs.toArray] d [] (Ret fun r d' L' => d' = d ∧ ∃ cs' h, r = .agg cs'.toArray ∧ L' = [h] ∧ OVal cs' v h) := by
  refine (Ok.disj h).monoV (fun e d' L' _ r => ?_)
  cases e with
  | panicked c => exact r.elim
  | outgrown => exact r.elim
  | returned u =>
    obtain ⟨⟨hdd, cs', hr, lv, kv, hk, hl, ccs, hs, hcs, gk, gl, hsl, el, hL⟩, hp⟩ := r
    subst hL
    obtain ⟨k, m, e, t, l, ks⟩ := v
    obtain ⟨_, _, _, ik, im, ie, it, _, _⟩ := hv.open
    exact ⟨d', _, Vs.pack _, hdd, cs', _, hr, rfl, by rw [hcs]; exact OVal.mk ik im ie it gk gl hsl el (List.pairwise_cons.1 hp).2⟩
def g_value_Copy (f_slices_Clone_string_string f_value_Copy : Nat) : GFun :=
 ⟨32, [(.cell 2 (some 6))],
 (.seq
 (.reg false (.op false ⟨(some 1), none, (.box (.tmp 0))⟩
  (.op false ⟨(some 2), none, (.alo (.agg #[(.int .i64 0), (.int .i64 0), (.int .i64 0), (strV []), (.slice none 0 0), (.slice none 0 0)]))⟩ .done)))
 (.seq
 (.reg true (.op true ⟨(some 6), none, (.fld 0 (.tmp 1))⟩
  (.op true ⟨(some 7), none, (.ld none (.tmp 6))⟩
  (.op true ⟨(some 8), none, (.fld 1 (.tmp 1))⟩
  (.op true ⟨(some 9), none, (.ld (some 2) (.tmp 8))⟩
  (.op true ⟨(some 10), none, (.fld 3 (.tmp 1))⟩
  (.op true ⟨(some 11), none, (.ld none (.tmp 10))⟩
  (.op true ⟨(some 12), none, (.fld 5 (.tmp 1))⟩
  (.op true ⟨(some 13), none, (.ld none (.tmp 12))⟩
  (.alt ⟨(some 14), none, (.call f_slices_Clone_string_string [(.tmp 13)])⟩
  (.op true ⟨(some 15), none, (.bld [(0, 1), (1, 2), (3, 1), (4, 1), (5, 1)] [(.int .i64 0), (.int .i64 0), (.int .i64 0), (strV []), (.slice none 0 0), (.slice none 0 0)] [(0, (.tmp 7)), (1, (.tmp 9)), (2, (.tmp 11)), (4, (.tmp 14))])⟩
  (.op false ⟨(some 3), none, (.alo (.agg #[(.int .i64 0), (.int .i64 0), (.int .i64 0), (strV []), (.slice none 0 0), (.slice none 0 0)]))⟩
  (.bar (.op false ⟨none, none, (.st 6 (.tmp 3) (.tmp 15))⟩ .done)))) (.op false ⟨(some 3), none, (.alo (.agg #[(.int .i64 0), (.int .i64 0), (.int .i64 0), (strV []), (.slice none 0 0), (.slice none 0 0)]))⟩
  (.op false ⟨(some 14), none, (.call f_slices_Clone_string_string [(.tmp 13)])⟩
  (.op true ⟨(some 15), none, (.bld [(0, 1), (1, 2), (3, 1), (4, 1), (5, 1)] [(.int .i64 0), (.int .i64 0), (.int .i64 0), (strV []), (.slice none 0 0), (.slice none 0 0)] [(0, (.tmp 7)), (1, (.tmp 9)), (2, (.tmp 11)), (4, (.tmp 14))])⟩
  (.bar (.op false ⟨none, none, (.st 6 (.tmp 3) (.tmp 15))⟩ .done)))))))))))))))
 (.seq (.seq
 (.reg false (.op false ⟨(some 16), none, (.fld 4 (.tmp 1))⟩
  (.op false ⟨(some 17), none, (.ld none (.tmp 16))⟩
  (.op false ⟨(some 18), none, (.len (.tmp 17))⟩
  (.op false ⟨(some 19), none, (.mv (.const (.int .i64 0)))⟩ .done))))) (.block 0 (.loop
 (.seq
 (.reg false (.op false ⟨(some 20), none, (.bin .lss (.tmp 19) (.tmp 18))⟩ .done))
 (.seq (.cond (.tmp 20) .skip (.exit 0))
 (.seq (.block 1
 (.seq
 (.reg false (.op false ⟨(some 21), none, (.idx 6 (.tmp 17) (.tmp 19))⟩
  (.op false ⟨(some 22), none, (.ld (some 6) (.tmp 21))⟩
  (.op false ⟨(some 5), none, (.alo (.agg #[(.int .i64 0), (.int .i64 0), (.int .i64 0), (strV []), (.slice none 0 0), (.slice none 0 0)]))⟩
  (.op false ⟨none, none, (.st 6 (.tmp 5) (.tmp 22))⟩ .done)))))
 (.reg true (.op true ⟨(some 23), none, (.fld 4 (.tmp 3))⟩
  (.op true ⟨(some 24), none, (.ld none (.tmp 23))⟩
  (.op true ⟨(some 25), none, (.ld (some 6) (.tmp 5))⟩
  (.op false ⟨(some 26), none, (.call f_value_Copy [(.tmp 25)])⟩
  (.op false ⟨(some 27), none, (.bsl 1 6 [(.int .i64 0), (.int .i64 0), (.int .i64 0), (strV []), (.slice none 0 0), (.slice none 0 0)] [(0, (.tmp 26))])⟩
  (.op false ⟨(some 28), none, (.app 6 88 [(.int .i64 0), (.int .i64 0), (.int .i64 0), (strV []), (.slice none 0 0), (.slice none 0 0)] (.tmp 24) (.tmp 27))⟩
  (.op true ⟨(some 29), none, (.fld 4 (.tmp 3))⟩
  (.bar (.op false ⟨none, none, (.st 1 (.tmp 29) (.tmp 28))⟩ .done))))))))))))
 (.reg false (.op false ⟨(some 30), none, (.bin .add (.tmp 19) (.const (.int .i64 1)))⟩
  (.op false ⟨(some 19), none, (.mv (.tmp 30))⟩ .done)))))))))
 (.seq
 (.reg false (.op false ⟨(some 31), none, (.ld (some 6) (.tmp 3))⟩
  (.op false ⟨none, none, (.st 6 (.tmp 2) (.tmp 31))⟩ .done))) .ret))))⟩

set_option maxHeartbeats 1000000 in
theorem vcopy_ok {P : Program} {f f1 : FuncId} (hd : dec P f = some (g_value_Copy f1 f)) (h1 : CloneOk RStr 16 P f1) : VCopyOk P f := by
  intro v
  induction v using V.ind with
  | h v ih =>
  intro d cs hv hb
  refine vcopy_pack hv (GCall.forget (Q := fun r L' => ∃ cs', r = .agg cs'.toArray ∧ OParts v cs' L') (GCall_of hd (Nat.le_of_ble_eq_true rfl) ?_))
  have hb1 := cnt_list (v := v)
  have hb2 := cnt_keys (v := v)
  obtain ⟨lv, kv, rfl, ik, im, ie, it, hl, hks⟩ := hv.open
  obtain ⟨la, lc, rfl⟩ := RSl.val hl
  obtain ⟨ka, kc, rfl⟩ := RSl.val hks
  show gwp P _ _ _ _ _
  apply w_sq; apply w_reg
  refine w_boxa (l := [.int .i64 v.kind, .int .i64 v.m, .int .i64 v.e, strV v.text, .slice la v.list.length lc, .slice ka v.keys.length kc]) rfl (fun b1 T1 => ?_)
  refine w_frz (fun d1 hl1 hg1 => ?_)
  have hc1 : DCs d1 b1 0 [.int .i64 v.kind, .int .i64 v.m, .int .i64 v.e, strV v.text, .slice la v.list.length lc, .slice ka v.keys.length kc] := dcs_bx hg1
  have hl' : RSl 6 RVal d1 (.slice la v.list.length lc) v.list := RVals.mono hl hl1
  have hks' : RSl 1 RStr d1 (.slice ka v.keys.length kc) v.keys := RStrs.mono hks hl1
  have n1 := RSl.len_le hl'
  (apply w_alo; intro _ _; apply w_done0)
  rename_i b2 T2
  refine w_mid (fun ρ d' L' => Le d1 d' ∧ ∃ b3 T3 ka' kc' hk, SlotsAre ρ [(1, .pointer (some ⟨b1, 0, none⟩)), (2, .pointer (some ⟨b2, 0, none⟩)), (3, .pointer (some ⟨b3, 0, none⟩))] ∧ GRow 1 RStr emp (.slice ka' v.keys.length kc') v.keys hk ∧
    L' = [bx b2 T2 [.int .i64 0, .int .i64 0, .int .i64 0, strV [], .slice none 0 0, .slice none 0 0], bx b3 T3 [.int .i64 v.kind, .int .i64 v.m, .int .i64 v.e, strV v.text, .slice none 0 0, .slice ka' v.keys.length kc'], hk, emp]) ?_ ?_
  · refine w_drawn ?_
    (apply w_fld; rfl; apply w_ld; rfl; exact hc_ds (by assumption) rfl; apply w_fld; rfl; apply w_lddp; rfl; assumption; rfl; apply w_fld; rfl; apply w_ld; rfl; exact hc_ds (by assumption) rfl; apply w_fld; rfl; apply w_ld; rfl; exact hc_ds (by assumption) rfl)
    refine w_alt ?_ ?_
    · refine w_call0 rfl (h1 hks' (by omega)) (fun r d4 L4 hl4 ⟨hdd, hk, hL, ⟨ccs, g1, g2⟩⟩ => ?_)
      subst hdd; subst hL
      have g : GRow 1 RStr emp r v.keys hk := ⟨ccs, g1, g2⟩
      obtain ⟨ka', kc', rfl⟩ := g.val
      (apply w_bvC; rfl; rfl; rfl; rfl; apply w_alo; intro _ _; apply w_bar)
      rename_i b3 T3
      refine w_stE 1 [.int .i64 v.kind, .int .i64 v.m, .int .i64 v.e, strV v.text, .slice none 0 0, .slice ka' v.keys.length kc'] rfl rfl rfl rfl (Nat.le_of_ble_eq_true rfl) rfl rfl ?_
      exact w_doneE ⟨_, _, Vs.emp.trans (Vs.pick [1, 2, 3, 0] rfl), Le.refl _, b3, T3, _, _, hk, ⟨rfl, rfl, rfl, trivial⟩, g, rfl⟩
    · (apply w_alo; intro _ _)
      rename_i b3 T3
      refine w_call0 rfl (h1 hks' (by omega)) (fun r d4 L4 hl4 ⟨hdd, hk, hL, ⟨ccs, g1, g2⟩⟩ => ?_)
      subst hdd; subst hL
      have g : GRow 1 RStr emp r v.keys hk := ⟨ccs, g1, g2⟩
      obtain ⟨ka', kc', rfl⟩ := g.val
      (apply w_bvC; rfl; rfl; rfl; rfl; apply w_bar)
      refine w_stE 2 [.int .i64 v.kind, .int .i64 v.m, .int .i64 v.e, strV v.text, .slice none 0 0, .slice ka' v.keys.length kc'] rfl rfl rfl rfl (Nat.le_of_ble_eq_true rfl) rfl rfl ?_
      exact w_doneE ⟨_, _, Vs.emp.trans (Vs.pick [1, 3, 2, 0] rfl), Le.refl _, b3, T3, _, _, hk, ⟨rfl, rfl, rfl, trivial⟩, g, rfl⟩
  rintro ρ d2 L' ⟨hl2, b3, T3, ka', kc', hk, hsl, hg, hL⟩
  subst hL
  refine gwp_slots _ hsl ?_
  clear hsl
  have hc2 := hc1.mono hl2
  have hl2' : RSl 6 RVal d2 (.slice la v.list.length lc) v.list := RVals.mono hl' hl2
  (apply w_sq; apply w_sq; apply w_reg; apply w_fld; rfl; apply w_ld; rfl; exact hc_ds (by assumption) rfl; apply w_len; rfl; apply w_mvi; rfl; apply w_done0; apply w_block)
  refine w_loopS (α := Nat) (fun i => [(2, .pointer (some ⟨b2, 0, none⟩)), (3, .pointer (some ⟨b3, 0, none⟩)), (17, .slice la v.list.length lc), (18, .int .i64 v.list.length), (19, .int .i64 i)])
    (fun i d' L' => d' = d2 ∧ i ≤ v.list.length ∧ ∃ ra rc hl ccs hs, ORow 6 (.slice ra i rc) i ccs hl ∧ hs.length = i ∧ (∀ j (hj : j < v.list.length), j < i → OVal (chunk ccs j 6) v.list[j] (hs.getD j emp)) ∧
      L' = bx b2 T2 [.int .i64 0, .int .i64 0, .int .i64 0, strV [], .slice none 0 0, .slice none 0 0] :: bx b3 T3 [.int .i64 v.kind, .int .i64 v.m, .int .i64 v.e, strV v.text, .slice ra i rc, .slice ka' v.keys.length kc'] :: hk :: hl :: hs)
    (fun i => v.list.length - i) 0 ⟨rfl, rfl, rfl, rfl, rfl, trivial⟩ ⟨rfl, Nat.zero_le _, none, 0, emp, [], [], ORow.nil 6, rfl, fun j _ h => absurd h (Nat.not_lt_zero j), rfl⟩ ?_
  rintro i ρ d3 L' ⟨hdd, hi, ra, rc, hl0, ccs, hs, hrow, hhs, hel, hL⟩
  subst hdd; subst hL
  have hl3' : RSl 6 RVal d3 (.slice la v.list.length lc) v.list := hl2'
  by_cases hc : i < v.list.length
  · (apply w_sq; apply w_reg; apply w_lss; rfl; rfl; apply w_done0; apply w_sq; refine w_ifdT rfl (by omega) ?_; apply w_skip; apply w_sq; apply w_block; apply w_sq; apply w_reg; refine w_idxR (sz := 6) (R := RVal) (by rfl) (by assumption) (by rfl) rfl (by omega) ?_; rintro _ _ _ _ _ _; apply w_ldd; rfl; assumption; assumption; apply w_alo; intro _ _)
    rename_i cs hcs hD hR b5 T5
    obtain ⟨c0, c1, c2, c3, c4, c5, rfl⟩ := six hcs
    refine w_stE 0 [c0, c1, c2, c3, c4, c5] rfl rfl rfl rfl (Nat.le_of_ble_eq_true rfl) (cell1_val _ _ _ hR) rfl ?_
    (apply w_done0)
    refine w_drawnA [bx b5 T5 [c0, c1, c2, c3, c4, c5], bx b2 T2 [.int .i64 0, .int .i64 0, .int .i64 0, strV [], .slice none 0 0, .slice none 0 0], bx b3 T3 [.int .i64 v.kind, .int .i64 v.m, .int .i64 v.e, strV v.text, .slice ra i rc, .slice ka' v.keys.length kc'], hk] (hl0 :: hs) rfl ?_
    (apply w_fld; rfl; apply w_ld; rfl; exact hc_i 2 rfl rfl; apply w_ldb 0; rfl; rfl; rfl)
    refine w_call0 rfl (ih _ (List.getElem_mem hc) hR (by have := cnt_mem (List.getElem_mem hc); omega)) (fun r d4 L4 _ ⟨hdd, cs', g, hr, hL, ho⟩ => ?_)
    subst hdd; subst hr; subst hL
    obtain ⟨hc6, hc1'⟩ := ho.cells
    refine w_bsV rfl hc6 (fun b27 T27 => ?_)
    refine w_appLO 1 rfl rfl hrow rfl (by rw [hc6]) hc1' (by omega) (by omega) (by omega) (fun v5 h5 o5 => ?_)
    obtain ⟨a5, _, c5', rfl, _⟩ := o5.slice
    (apply w_fld; rfl; apply w_bar)
    refine w_vs _ (bx b2 T2 [.int .i64 0, .int .i64 0, .int .i64 0, strV [], .slice none 0 0, .slice none 0 0] :: bx b3 T3 [.int .i64 v.kind, .int .i64 v.m, .int .i64 v.e, strV v.text, .slice ra i rc, .slice ka' v.keys.length kc'] :: hk :: h5 :: (hs ++ [g]))
      ((Vs.perm (List.Perm.append_left [bx b5 T5 [c0, c1, c2, c3, c4, c5], bx b2 T2 [.int .i64 0, .int .i64 0, .int .i64 0, strV [], .slice none 0 0, .slice none 0 0], bx b3 T3 [.int .i64 v.kind, .int .i64 v.m, .int .i64 v.e, strV v.text, .slice ra i rc, .slice ka' v.keys.length kc'], hk] ((List.Perm.swap _ _ _).trans ((List.perm_append_singleton g hs).symm.cons _)))).trans (Vs.drop (List.sublist_cons_self _ _))) ?_
    refine w_stE 1 [.int .i64 v.kind, .int .i64 v.m, .int .i64 v.e, strV v.text, .slice a5 (i + 1) c5', .slice ka' v.keys.length kc'] rfl rfl rfl rfl (Nat.le_of_ble_eq_true rfl) rfl rfl ?_
    (apply w_done0; apply w_reg; apply w_add; rfl; rfl; omega; omega; apply w_mvi; rfl; apply w_done0)
    refine ⟨i + 1, by omega, ⟨rfl, rfl, rfl, rfl, int_eq (by omega), trivial⟩, rfl, hc, a5, c5', h5, _, hs ++ [g], o5, by simp [hhs], fun j hj hji => ?_, rfl⟩
    have h6 : ccs.length = i * 6 := hrow.1
    by_cases e : j < i
    · rw [chunk_app_left h6 e, show (hs ++ [g]).getD j emp = hs.getD j emp by simp [List.getD, List.getElem?_append_left (show j < hs.length by omega)]]
      exact hel j hj e
    · obtain rfl : j = i := by omega
      rw [chunk_app_right h6 (Nat.le_refl _), Nat.sub_self, show chunk cs' 0 6 = cs' by simp only [chunk, Nat.zero_mul, List.drop_zero]; exact List.take_of_length_le (by omega), show (hs ++ [g]).getD j emp = g by simp [List.getD, List.getElem?_append_right (show hs.length ≤ j by omega), hhs]]
      exact ho
  · obtain rfl : i = v.list.length := by omega
    (apply w_sq; apply w_reg; apply w_lss; rfl; rfl; apply w_done0; apply w_sq; refine w_ifdF rfl (by omega) ?_; apply w_exit; apply w_sq; apply w_reg; apply w_ldb 1; rfl; rfl; rfl)
    refine w_stE 0 [.int .i64 v.kind, .int .i64 v.m, .int .i64 v.e, strV v.text, .slice ra v.list.length rc, .slice ka' v.keys.length kc'] rfl rfl rfl rfl (Nat.le_of_ble_eq_true rfl) rfl rfl ?_
    (apply w_done0; apply w_ret)
    exact finV [.agg [.int .i64 v.kind, .int .i64 v.m, .int .i64 v.e, strV v.text, .slice ra v.list.length rc, .slice ka' v.keys.length kc'].toArray] ⟨res_cell 0 rfl rfl rfl, trivial⟩ (Vs.drop (((List.Sublist.refl _).cons _).cons _)) ⟨_, rfl, _, _, hk, hl0, ccs, hs, rfl, hg, hrow, hhs, fun j hj => hel j hj hj, rfl⟩
end Go.Gk.Val
end

section
/-
  Texts as characters: plain.
-/
namespace Go.Gk.Utf
open Go Go.Lib

/-- The characters of a text. -/
def chsG : Nat → List UInt8 → List (List UInt8)
  | 0, _ => []
  | n + 1, l => if l = [] then [] else l.take (decodeL l).2 :: chsG n (l.drop (decodeL l).2)
def chs (l : List UInt8) : List (List UInt8) := chsG l.length l
def rnsG : Nat → List UInt8 → List Int
  | 0, _ => []
  | n + 1, l => if l = [] then [] else ((decodeL l).1 : Int) :: rnsG n (l.drop (decodeL l).2)
def rns (l : List UInt8) : List Int := rnsG l.length l
theorem chsG_fuel : ∀ (n m : Nat) (l : List UInt8), l.length ≤ n → l.length ≤ m → chsG n l = chsG m l
  | 0, 0, _, _, _ => rfl
  | 0, m + 1, l, h, _ => by
    have : l = [] := List.eq_nil_of_length_eq_zero (by omega)
    simp [chsG, this]
  | n + 1, 0, l, _, h => by
    have : l = [] := List.eq_nil_of_length_eq_zero (by omega)
    simp [chsG, this]
  | n + 1, m + 1, l, h1, h2 => by
    by_cases h : l = []
    · simp [chsG, h]
    · have hw := decodeL_width l
      have hl : 0 < l.length := List.length_pos_iff.2 h
      simp only [chsG, if_neg h]
      rw [chsG_fuel n m _ (by rw [List.length_drop]; omega) (by rw [List.length_drop]; omega)]
theorem chs_nil : chs [] = [] := rfl
theorem chs_step {l : List UInt8} (h : l ≠ []) : chs l = l.take (decodeL l).2 :: chs (l.drop (decodeL l).2) := by
  have hw := decodeL_width l
  have hl : 0 < l.length := List.length_pos_iff.2 h
  obtain ⟨n, hn⟩ : ∃ n, l.length = n + 1 := ⟨l.length - 1, by omega⟩
  unfold chs
  rw [hn]
  simp only [chsG, if_neg h]
  rw [chsG_fuel n (l.drop (decodeL l).2).length _ (by rw [List.length_drop]; omega) (Nat.le_refl _)]
theorem chsG_len : ∀ (n : Nat) (l : List UInt8), (chsG n l).length ≤ l.length
  | 0, _ => Nat.zero_le _
  | n + 1, l => by
    by_cases h : l = []
    · simp [chsG, h]
    · have hw := decodeL_width l
      have hl : 0 < l.length := List.length_pos_iff.2 h
      have := chsG_len n (l.drop (decodeL l).2)
      rw [List.length_drop] at this
      simp only [chsG, if_neg h, List.length_cons]; omega
theorem chs_len (l : List UInt8) : (chs l).length ≤ l.length := chsG_len _ _
theorem rnsG_len : ∀ (n : Nat) (l : List UInt8), (rnsG n l).length = (chsG n l).length
  | 0, _ => rfl
  | n + 1, l => by
    by_cases h : l = []
    · simp [chsG, rnsG, h]
    · simp only [chsG, rnsG, if_neg h, List.length_cons, rnsG_len n]
theorem rns_len (l : List UInt8) : (rns l).length = (chs l).length := rnsG_len _ _
theorem decode_drop (l : List UInt8) (i : Nat) : Utf8.decode ⟨l.toArray⟩ i = decodeL (l.drop i) := by
  have h := tail_decode ⟨l.toArray⟩ i 0
  rw [Nat.add_zero] at h
  rw [← h, decodeL]
  congr 1
  simp [ByteArray.extract, ByteArray.copySlice, ByteArray.size]
  exact List.take_of_length_le (by simp)
theorem enc_eq {r : Int} (h0 : 0 ≤ r) (h : r < 55296 ∨ (57343 < r ∧ r ≤ 1114111)) : encL r = encodeRune r := by
  have hv : Utf8.valid r = true := by simp [Utf8.valid]; omega
  simp only [encL, Utf8.encode, hv, if_true, encodeRune]
  by_cases h1 : r ≤ 127
  · rw [if_pos (by omega), encodeRuneZ_one h0 h1]; rfl
  rw [if_neg (by omega)]
  by_cases h2 : r ≤ 2047
  · rw [if_pos (by omega), encodeRuneZ_two (by omega) h2]
    simp only [List.map_cons, List.map_nil]
    rw [show (192 + r / 64).toNat = 0xC0 + r.toNat / 64 by omega, show (128 + r % 64).toNat = 0x80 + r.toNat % 64 by omega]
  rw [if_neg (by omega)]
  by_cases h3 : r ≤ 65535
  · rw [if_pos (by omega), encodeRuneZ_three (by omega)]
    simp only [List.map_cons, List.map_nil]
    rw [show (224 + r / 4096).toNat = 0xE0 + r.toNat / 4096 by omega, show (128 + r / 64 % 64).toNat = 0x80 + r.toNat / 64 % 64 by omega, show (128 + r % 64).toNat = 0x80 + r.toNat % 64 by omega]
  rw [if_neg (by omega), encodeRuneZ_four (by omega) (by omega)]
  simp only [List.map_cons, List.map_nil]
  rw [show (240 + r / 262144).toNat = 0xF0 + r.toNat / 262144 by omega, show (128 + r / 4096 % 64).toNat = 0x80 + r.toNat / 4096 % 64 by omega, show (128 + r / 64 % 64).toNat = 0x80 + r.toNat / 64 % 64 by omega, show (128 + r % 64).toNat = 0x80 + r.toNat % 64 by omega]
theorem enc_rns : ∀ (n : Nat) (l : List UInt8), validD l = true → (rnsG n l).map encL = chsG n l
  | 0, _, _ => rfl
  | n + 1, l, hv => by
    by_cases h : l = []
    · simp [chsG, rnsG, h]
    · rw [validD_step l h] at hv
      by_cases hb : (decodeL l).1 = 65533 ∧ (decodeL l).2 = 1
      · rw [if_pos hb] at hv; cases hv
      · rw [if_neg hb] at hv
        have hd : (decodeL l).1 < 55296 ∨ (57343 < (decodeL l).1 ∧ (decodeL l).1 ≤ 1114111) := by
          rw [decodeL_N]; exact decodeN_valid _ _ _ _ _ (UInt8.toNat_lt _)
        simp only [chsG, rnsG, if_neg h, List.map_cons]
        rw [enc_eq (by omega) (by omega), encode_decode l h hb, enc_rns n _ hv]
theorem rns_part {l : List UInt8} (hv : validD l = true) (a b : Nat) : (((rns l).drop a).take b).flatMap encL = (((chs l).drop a).take b).flatten := by
  rw [List.flatMap_def, List.map_take, List.map_drop, rns, enc_rns _ _ hv]; rfl
theorem runesFrom_eq (l : List UInt8) : ∀ (n i : Nat) (acc : Array Value), l.length ≤ n + i → (Conv.runesFrom ⟨l.toArray⟩ n i acc).toList = acc.toList ++ (rnsG n (l.drop i)).map (Value.int .i32)
  | 0, i, acc, h => by simp [Conv.runesFrom, rnsG]
  | n + 1, i, acc, h => by
    have hs : (⟨l.toArray⟩ : ByteArray).size = l.length := by simp [ByteArray.size]
    simp only [Conv.runesFrom, hs]
    by_cases hi : i < l.length
    · have hne : l.drop i ≠ [] := by simp; omega
      have hw := decodeL_width (l.drop i)
      rw [if_pos hi, decode_drop, runesFrom_eq l n _ _ (by omega)]
      simp only [rnsG, if_neg hne]
      simp [List.drop_drop, Nat.add_comm]
    · have hne : l.drop i = [] := by simp; omega
      rw [if_neg hi, hne]; simp [rnsG]
theorem runesL_eq (l : List UInt8) : Gk.runesL l = (rns l).map (Value.int .i32) := by
  simp only [Gk.runesL]
  rw [runesFrom_eq l _ 0 _ (by omega)]
  simp [rns]
theorem part_len {l : List UInt8} (a b : Nat) : (((chs l).drop a).take b).flatten.length ≤ l.length := by
  have key : ∀ (n : Nat) (l : List UInt8) (a b : Nat), (((chsG n l).drop a).take b).flatten.length ≤ l.length := by
    intro n
    induction n with
    | zero => intro l a b; simp [chsG]
    | succ n ih =>
      intro l a b
      by_cases h : l = []
      · simp [chsG, h]
      · simp only [chsG, if_neg h]
        have hw := decodeL_width l
        have h2 : (l.take (decodeL l).2).length + (l.drop (decodeL l).2).length = l.length := by rw [← List.length_append, List.take_append_drop]
        cases a with
        | zero =>
          cases b with
          | zero => simp
          | succ b =>
            have := ih (l.drop (decodeL l).2) 0 b
            simp only [List.drop_zero, List.take_succ_cons, List.flatten_cons, List.length_append] at this ⊢
            omega
        | succ a =>
          have := ih (l.drop (decodeL l).2) a b
          simp only [List.drop_succ_cons] at this ⊢
          omega
  exact key _ _ _ _
theorem first_w {l : List UInt8} (hl : l ≠ []) (hv : validD l = true) : (firstF l).2 = ((decodeL l).2 : Int) := by
  rw [first_eq hl]
  by_cases h : decodeL l = (65533, 1)
  · rw [validD_step l hl, h] at hv; simp at hv
  · rw [if_neg h]
theorem valid_rest {l : List UInt8} (hl : l ≠ []) (hv : validD l = true) : validD (l.drop (decodeL l).2) = true := by
  rw [validD_step l hl] at hv
  split at hv
  · cases hv
  · exact hv
/-- A first character is the first wherever it stands first. -/
theorem decode_take {l : List UInt8} (hne : l ≠ []) (hv : ¬ ((decodeL l).1 = 65533 ∧ (decodeL l).2 = 1)) (t : List UInt8) : decodeL (l.take (decodeL l).2 ++ t) = decodeL l := by
  have hl : 0 < l.length := List.length_pos_iff.2 hne
  have g : ∀ (w i : Nat), i < w → w ≤ l.length → (l.take w ++ t).getD i 0 = l.getD i 0 := by
    intro w i h1 h2
    simp only [List.getD]
    rw [List.getElem?_append_left (by simp; omega), List.getElem?_take_of_lt h1]
  have gl : ∀ w : Nat, w ≤ l.length → w ≤ (l.take w ++ t).length := by intro w h; simp; omega
  rw [decodeL_N (l.take _ ++ t)]
  rw [decodeL_N l] at hv ⊢
  rcases decodeN_shape l.length (l.getD 0 0).toNat (l.getD 1 0).toNat (l.getD 2 0).toNat (l.getD 3 0).toNat with ⟨c, e⟩ | ⟨c1, c2, c3, cv, e⟩ | ⟨c1, c2, c3, c4, cv, cs, e⟩ | ⟨c1, c2, c3, c4, c5, cv, cw, e⟩ | e
  · rw [e]; dsimp only
    rw [g 1 0 (by omega) (by omega), decodeN, if_pos c]
  · rw [e]; dsimp only
    have := gl 2 (by omega)
    rw [g 2 0 (by omega) (by omega), g 2 1 (by omega) (by omega), decodeN, if_neg (by omega), if_pos (by omega), if_pos (by omega)]
  · rw [e]; dsimp only
    have := gl 3 (by omega)
    rw [g 3 0 (by omega) (by omega), g 3 1 (by omega) (by omega), g 3 2 (by omega) (by omega), decodeN, if_neg (by omega), if_neg (by omega), if_pos (by omega), if_pos (by omega)]
  · rw [e]; dsimp only
    have := gl 4 (by omega)
    rw [g 4 0 (by omega) (by omega), g 4 1 (by omega) (by omega), g 4 2 (by omega) (by omega), g 4 3 (by omega) (by omega), decodeN, if_neg (by omega), if_neg (by omega), if_neg (by omega), if_pos (by omega), if_pos (by omega)]
  · rw [e] at hv; simp at hv
/-- Parts of a text that may be, may be. -/
theorem part_valid {l : List UInt8} (hv : validD l = true) (a b : Nat) : validD (((chs l).drop a).take b).flatten = true := by
  have key : ∀ (n : Nat) (l : List UInt8) (a b : Nat), validD l = true → validD (((chsG n l).drop a).take b).flatten = true := by
    intro n
    induction n with
    | zero => intro l a b _; simp [chsG, validD_nil]
    | succ n ih =>
      intro l a b hv
      by_cases h : l = []
      · simp [chsG, h, validD_nil]
      · have hr := valid_rest h hv
        simp only [chsG, if_neg h]
        have hw := decodeL_width l
        have hwl := decodeL_le l h
        have hl : 0 < l.length := List.length_pos_iff.2 h
        cases a with
        | zero =>
          cases b with
          | zero => simp [validD_nil]
          | succ b =>
            have hb : ¬ ((decodeL l).1 = 65533 ∧ (decodeL l).2 = 1) := fun hb => by rw [validD_step l h, if_pos hb] at hv; cases hv
            have := ih (l.drop (decodeL l).2) 0 b hr
            simp only [List.drop_zero, List.take_succ_cons, List.flatten_cons] at this ⊢
            rw [validD_step _ (by intro e; have := congrArg List.length e; rw [List.length_append, List.length_take] at this; simp only [List.length_nil] at this; omega), decode_take h hb, if_neg hb]
            have hlen : (l.take (decodeL l).2).length = (decodeL l).2 := by simp; omega
            rw [List.drop_append, List.drop_of_length_le (by omega), hlen, Nat.sub_self, List.drop_zero, List.nil_append]
            exact this
        | succ a => exact ih _ a b hr
  exact key _ _ _ _ hv
end Go.Gk.Utf
end

section
/-
  Ways: places, ends, keys.
-/
namespace Go.Gk.Val
open Go Go.Gk
attribute [local irreducible] gwp gws

/-- A step. -/
structure St where
  kind : Int
  text : List UInt8
  src : Int
  dst : Int
  hf : Bool
  ht : Bool
def RSt (_ : PHeap) (cs : List Value) (s : St) : Prop := cs = [.int .i64 s.kind, strV s.text, .int .i64 s.src, .int .i64 s.dst, .bool s.hf, .bool s.ht] ∧ I64 s.kind ∧ s.text.length ≤ 140737488355328 ∧ I64 s.src ∧ I64 s.dst
theorem cell1_st : Cell1 RSt := fun _ _ _ h => by obtain ⟨rfl, _⟩ := h; rfl
theorem mono_st : Mono RSt := fun _ h => h

/-! ### places and ends -/
def placeF (n k : Int) : Int := if n < 0 then n + k else n
def endF (n k : Int) : Int := max 0 (min k (placeF n k))
def endsF (s : St) (k : Int) : Int × Int :=
  let a := if s.hf then endF s.src k else 0
  let b := if s.ht then endF s.dst k else k
  (a, max a b)
theorem ends_le (s : St) {k : Int} (hk : 0 ≤ k) : 0 ≤ (endsF s k).1 ∧ (endsF s k).1 ≤ (endsF s k).2 ∧ (endsF s k).2 ≤ k := by
  simp only [endsF, endF]
  split <;> split <;> omega
def PlaceOk (P : Program) (f : FuncId) : Prop := ∀ {d : PHeap} {n k : Int}, I64 n → 0 ≤ k → k ≤ 140737488355328 → GPure P f [.int .i64 n, .int .i64 k] d (.int .i64 (placeF n k))
def g_steps_place : GFun :=
 ⟨11, [(.tmp 4)],
 (.seq
 (.reg false (.op false ⟨(some 4), none, (.mv (.const (.int .i64 0)))⟩ .done))
 (.seq (.seq
 (.reg false (.op false ⟨(some 5), none, (.mv (.tmp 0))⟩
  (.op false ⟨(some 6), none, (.bin .lss (.tmp 5) (.const (.int .i64 0)))⟩ .done))) (.cond (.tmp 6)
 (.seq
 (.reg false (.op false ⟨(some 7), none, (.mv (.tmp 0))⟩
  (.op false ⟨(some 8), none, (.mv (.tmp 1))⟩
  (.op false ⟨(some 9), none, (.bin .add (.tmp 7) (.tmp 8))⟩
  (.op false ⟨(some 4), none, (.mv (.tmp 9))⟩ .done))))) .ret) .skip))
 (.seq
 (.reg false (.op false ⟨(some 10), none, (.mv (.tmp 0))⟩
  (.op false ⟨(some 4), none, (.mv (.tmp 10))⟩ .done))) .ret)))⟩

theorem place_ok {P : Program} {f : FuncId} (hd : dec P f = some g_steps_place) : PlaceOk P f := by
  intro d n k ⟨hn1, hn2⟩ hk1 hk2
  refine GPure.of' hd (Nat.le_of_ble_eq_true rfl) ?_
  show gwp P _ _ _ _ _
  by_cases h : n < 0
  · (apply w_sq; apply w_reg; apply w_mvi; rfl; apply w_done0; apply w_sq; apply w_sq; apply w_reg; apply w_mvi; rfl; apply w_lss; rfl; rfl; apply w_done0; refine w_ifdT rfl (by omega) ?_; apply w_sq; apply w_reg; apply w_mvi; rfl; apply w_mvi; rfl; apply w_add; rfl; rfl; omega; omega; apply w_mvi; rfl; apply w_done0; apply w_ret)
    apply finQi; rfl
    rw [placeF, if_pos h]
  · (apply w_sq; apply w_reg; apply w_mvi; rfl; apply w_done0; apply w_sq; apply w_sq; apply w_reg; apply w_mvi; rfl; apply w_lss; rfl; rfl; apply w_done0; refine w_ifdF rfl (by omega) ?_; apply w_skip; apply w_sq; apply w_reg; apply w_mvi; rfl; apply w_mvi; rfl; apply w_done0; apply w_ret)
    apply finQi; rfl
    rw [placeF, if_neg h]
def BoundOk (P : Program) (f : FuncId) : Prop := ∀ {d : PHeap} {n k : Int}, I64 n → 0 ≤ k → k ≤ 140737488355328 → GPure P f [.int .i64 n, .int .i64 k] d (.int .i64 (endF n k))
def g_thimbleref08_bound : GFun :=
 ⟨17, [(.tmp 4)],
 (.seq
 (.reg false (.op false ⟨(some 4), none, (.mv (.const (.int .i64 0)))⟩ .done))
 (.seq (.seq
 (.reg false (.op false ⟨(some 5), none, (.mv (.tmp 0))⟩
  (.op false ⟨(some 6), none, (.bin .lss (.tmp 5) (.const (.int .i64 0)))⟩ .done))) (.cond (.tmp 6)
 (.reg false (.op false ⟨(some 7), none, (.mv (.tmp 0))⟩
  (.op false ⟨(some 8), none, (.mv (.tmp 1))⟩
  (.op false ⟨(some 9), none, (.bin .add (.tmp 7) (.tmp 8))⟩
  (.op false ⟨(some 0), none, (.mv (.tmp 9))⟩ .done))))) .skip))
 (.seq (.seq
 (.reg false (.op false ⟨(some 10), none, (.mv (.tmp 0))⟩
  (.op false ⟨(some 11), none, (.bin .lss (.tmp 10) (.const (.int .i64 0)))⟩ .done))) (.cond (.tmp 11)
 (.seq
 (.reg false (.op false ⟨(some 4), none, (.mv (.const (.int .i64 0)))⟩ .done)) .ret) .skip))
 (.seq (.seq
 (.reg false (.op false ⟨(some 12), none, (.mv (.tmp 0))⟩
  (.op false ⟨(some 13), none, (.mv (.tmp 1))⟩
  (.op false ⟨(some 14), none, (.bin .gtr (.tmp 12) (.tmp 13))⟩ .done)))) (.cond (.tmp 14)
 (.seq
 (.reg false (.op false ⟨(some 15), none, (.mv (.tmp 1))⟩
  (.op false ⟨(some 4), none, (.mv (.tmp 15))⟩ .done))) .ret) .skip))
 (.seq
 (.reg false (.op false ⟨(some 16), none, (.mv (.tmp 0))⟩
  (.op false ⟨(some 4), none, (.mv (.tmp 16))⟩ .done))) .ret)))))⟩

theorem bound_ok {P : Program} {f : FuncId} (hd : dec P f = some g_thimbleref08_bound) : BoundOk P f := by
  intro d n k ⟨hn1, hn2⟩ hk1 hk2
  refine GPure.of' hd (Nat.le_of_ble_eq_true rfl) ?_
  show gwp P _ _ _ _ _
  by_cases h : n < 0
  · by_cases h2 : n + k < 0
    · (apply w_sq; apply w_reg; apply w_mvi; rfl; apply w_done0; apply w_sq; apply w_sq; apply w_reg; apply w_mvi; rfl; apply w_lss; rfl; rfl; apply w_done0; refine w_ifdT rfl (by omega) ?_; apply w_reg; apply w_mvi; rfl; apply w_mvi; rfl; apply w_add; rfl; rfl; omega; omega; apply w_mvi; rfl; apply w_done0; apply w_sq; apply w_sq; apply w_reg; apply w_mvi; rfl; apply w_lss; rfl; rfl; apply w_done0; refine w_ifdT rfl (by omega) ?_; apply w_sq; apply w_reg; apply w_mvi; rfl; apply w_done0; apply w_ret)
      apply finQi; rfl
      simp only [endF, placeF]; rw [if_pos h]; omega
    · by_cases h3 : k < n + k
      · omega
      · (apply w_sq; apply w_reg; apply w_mvi; rfl; apply w_done0; apply w_sq; apply w_sq; apply w_reg; apply w_mvi; rfl; apply w_lss; rfl; rfl; apply w_done0; refine w_ifdT rfl (by omega) ?_; apply w_reg; apply w_mvi; rfl; apply w_mvi; rfl; apply w_add; rfl; rfl; omega; omega; apply w_mvi; rfl; apply w_done0; apply w_sq; apply w_sq; apply w_reg; apply w_mvi; rfl; apply w_lss; rfl; rfl; apply w_done0; refine w_ifdF rfl (by omega) ?_; apply w_skip; apply w_sq; apply w_sq; apply w_reg; apply w_mvi; rfl; apply w_mvi; rfl; apply w_gtr; rfl; rfl; apply w_done0; refine w_ifdF rfl (by omega) ?_; apply w_skip; apply w_sq; apply w_reg; apply w_mvi; rfl; apply w_mvi; rfl; apply w_done0; apply w_ret)
        apply finQi; rfl
        simp only [endF, placeF]; rw [if_pos h]; omega
  · by_cases h3 : k < n
    · (apply w_sq; apply w_reg; apply w_mvi; rfl; apply w_done0; apply w_sq; apply w_sq; apply w_reg; apply w_mvi; rfl; apply w_lss; rfl; rfl; apply w_done0; refine w_ifdF rfl (by omega) ?_; apply w_skip; apply w_sq; apply w_sq; apply w_reg; apply w_mvi; rfl; apply w_lss; rfl; rfl; apply w_done0; refine w_ifdF rfl (by omega) ?_; apply w_skip; apply w_sq; apply w_sq; apply w_reg; apply w_mvi; rfl; apply w_mvi; rfl; apply w_gtr; rfl; rfl; apply w_done0; refine w_ifdT rfl (by omega) ?_; apply w_sq; apply w_reg; apply w_mvi; rfl; apply w_mvi; rfl; apply w_done0; apply w_ret)
      apply finQi; rfl
      simp only [endF, placeF]; rw [if_neg h]; omega
    · (apply w_sq; apply w_reg; apply w_mvi; rfl; apply w_done0; apply w_sq; apply w_sq; apply w_reg; apply w_mvi; rfl; apply w_lss; rfl; rfl; apply w_done0; refine w_ifdF rfl (by omega) ?_; apply w_skip; apply w_sq; apply w_sq; apply w_reg; apply w_mvi; rfl; apply w_lss; rfl; rfl; apply w_done0; refine w_ifdF rfl (by omega) ?_; apply w_skip; apply w_sq; apply w_sq; apply w_reg; apply w_mvi; rfl; apply w_mvi; rfl; apply w_gtr; rfl; rfl; apply w_done0; refine w_ifdF rfl (by omega) ?_; apply w_skip; apply w_sq; apply w_reg; apply w_mvi; rfl; apply w_mvi; rfl; apply w_done0; apply w_ret)
      apply finQi; rfl
      simp only [endF, placeF]; rw [if_neg h]; omega
def EndsOk (P : Program) (f : FuncId) : Prop := ∀ {d : PHeap} {cs : List Value} {s : St} {k : Int}, RSt d cs s → 0 ≤ k → k ≤ 140737488355328 → GPure P f [.agg cs.toArray, .int .i64 k] d (.tuple #[.int .i64 (endsF s k).1, .int .i64 (endsF s k).2])
def g_steps_ends (f_steps_place : Nat) : GFun :=
 ⟨31, [(.tmp 4), (.tmp 5)],
 (.seq
 (.reg false (.op false ⟨(some 2), none, (.box (.tmp 0))⟩
  (.op false ⟨(some 4), none, (.mv (.const (.int .i64 0)))⟩
  (.op false ⟨(some 5), none, (.mv (.const (.int .i64 0)))⟩ .done))))
 (.seq
 (.reg false (.op false ⟨(some 8), none, (.mv (.tmp 1))⟩
  (.op false ⟨(some 6), none, (.mv (.const (.int .i64 0)))⟩
  (.op false ⟨(some 7), none, (.mv (.tmp 8))⟩ .done))))
 (.seq (.seq
 (.reg false (.op false ⟨(some 9), none, (.fld 4 (.tmp 2))⟩
  (.op false ⟨(some 10), none, (.ld none (.tmp 9))⟩ .done))) (.cond (.tmp 10)
 (.reg false (.op false ⟨(some 11), none, (.mv (.tmp 1))⟩
  (.op false ⟨(some 12), none, (.fld 2 (.tmp 2))⟩
  (.op false ⟨(some 13), none, (.ld none (.tmp 12))⟩
  (.op false ⟨(some 14), none, (.mv (.tmp 1))⟩
  (.op false ⟨(some 15), none, (.call f_steps_place [(.tmp 13), (.tmp 14)])⟩
  (.op false ⟨(some 16), none, (.mn2 (.tmp 11) (.tmp 15))⟩
  (.op false ⟨(some 17), none, (.mx2 (.const (.int .i64 0)) (.tmp 16))⟩
  (.op false ⟨(some 6), none, (.mv (.tmp 17))⟩ .done))))))))) .skip))
 (.seq (.seq
 (.reg false (.op false ⟨(some 18), none, (.fld 5 (.tmp 2))⟩
  (.op false ⟨(some 19), none, (.ld none (.tmp 18))⟩ .done))) (.cond (.tmp 19)
 (.reg false (.op false ⟨(some 20), none, (.mv (.tmp 1))⟩
  (.op false ⟨(some 21), none, (.fld 3 (.tmp 2))⟩
  (.op false ⟨(some 22), none, (.ld none (.tmp 21))⟩
  (.op false ⟨(some 23), none, (.mv (.tmp 1))⟩
  (.op false ⟨(some 24), none, (.call f_steps_place [(.tmp 22), (.tmp 23)])⟩
  (.op false ⟨(some 25), none, (.mn2 (.tmp 20) (.tmp 24))⟩
  (.op false ⟨(some 26), none, (.mx2 (.const (.int .i64 0)) (.tmp 25))⟩
  (.op false ⟨(some 7), none, (.mv (.tmp 26))⟩ .done))))))))) .skip))
 (.seq
 (.reg false (.op false ⟨(some 27), none, (.mv (.tmp 6))⟩
  (.op false ⟨(some 28), none, (.mv (.tmp 6))⟩
  (.op false ⟨(some 29), none, (.mv (.tmp 7))⟩
  (.op false ⟨(some 30), none, (.mx2 (.tmp 28) (.tmp 29))⟩
  (.op false ⟨(some 4), none, (.mv (.tmp 27))⟩
  (.op false ⟨(some 5), none, (.mv (.tmp 30))⟩ .done))))))) .ret)))))⟩

theorem ends_ok {P : Program} {f f1 : FuncId} (hd : dec P f = some (g_steps_ends f1)) (h1 : PlaceOk P f1) : EndsOk P f := by
  intro d cs s k ⟨hcs, ik, it, is, id⟩ hk1 hk2
  subst hcs
  refine GPure.of' hd (Nat.le_of_ble_eq_true rfl) ?_
  show gwp P _ _ _ _ _
  apply w_sq; apply w_reg
  refine w_boxa (l := [.int .i64 s.kind, strV s.text, .int .i64 s.src, .int .i64 s.dst, .bool s.hf, .bool s.ht]) rfl (fun b2 T2 => ?_)
  cases hf : s.hf with
  | true =>
    cases ht : s.ht with
    | true =>
      (apply w_mvi; rfl; apply w_mvi; rfl; apply w_done0; apply w_sq; apply w_reg; apply w_mvi; rfl; apply w_mvi; rfl; apply w_mvi; rfl; apply w_done0; apply w_sq; apply w_sq; apply w_reg; apply w_fld; rfl; apply w_ld; rfl; exact hc_i 0 rfl rfl; apply w_done0; apply w_ifT; rfl; apply w_reg; apply w_mvi; rfl; apply w_fld; rfl; apply w_ld; rfl; exact hc_i 0 rfl rfl; apply w_mvi; rfl)
      refine w_pure rfl (h1 is hk1 hk2) ?_
      (apply w_mn2; rfl; rfl; apply w_mx2; rfl; rfl; apply w_mvi; rfl; apply w_done0; apply w_sq; apply w_sq; apply w_reg; apply w_fld; rfl; apply w_ld; rfl; exact hc_i 0 rfl rfl; apply w_done0; apply w_ifT; rfl; apply w_reg; apply w_mvi; rfl; apply w_fld; rfl; apply w_ld; rfl; exact hc_i 0 rfl rfl; apply w_mvi; rfl)
      refine w_pure rfl (h1 id hk1 hk2) ?_
      (apply w_mn2; rfl; rfl; apply w_mx2; rfl; rfl; apply w_mvi; rfl; apply w_done0; apply w_sq; apply w_reg; apply w_mvi; rfl; apply w_mvi; rfl; apply w_mvi; rfl; apply w_mx2; rfl; rfl; apply w_mvi; rfl; apply w_mvi; rfl; apply w_done0; apply w_ret)
      refine finQ2 (by simp [endsF, endF, hf]; rfl) (by simp [endsF, endF, hf, ht]; rfl)
    | false =>
      (apply w_mvi; rfl; apply w_mvi; rfl; apply w_done0; apply w_sq; apply w_reg; apply w_mvi; rfl; apply w_mvi; rfl; apply w_mvi; rfl; apply w_done0; apply w_sq; apply w_sq; apply w_reg; apply w_fld; rfl; apply w_ld; rfl; exact hc_i 0 rfl rfl; apply w_done0; apply w_ifT; rfl; apply w_reg; apply w_mvi; rfl; apply w_fld; rfl; apply w_ld; rfl; exact hc_i 0 rfl rfl; apply w_mvi; rfl)
      refine w_pure rfl (h1 is hk1 hk2) ?_
      (apply w_mn2; rfl; rfl; apply w_mx2; rfl; rfl; apply w_mvi; rfl; apply w_done0; apply w_sq; apply w_sq; apply w_reg; apply w_fld; rfl; apply w_ld; rfl; exact hc_i 0 rfl rfl; apply w_done0; apply w_ifF; rfl; apply w_skip; apply w_sq; apply w_reg; apply w_mvi; rfl; apply w_mvi; rfl; apply w_mvi; rfl; apply w_mx2; rfl; rfl; apply w_mvi; rfl; apply w_mvi; rfl; apply w_done0; apply w_ret)
      refine finQ2 (by simp [endsF, endF, hf]; rfl) (by simp [endsF, endF, hf, ht]; rfl)
  | false =>
    cases ht : s.ht with
    | true =>
      (apply w_mvi; rfl; apply w_mvi; rfl; apply w_done0; apply w_sq; apply w_reg; apply w_mvi; rfl; apply w_mvi; rfl; apply w_mvi; rfl; apply w_done0; apply w_sq; apply w_sq; apply w_reg; apply w_fld; rfl; apply w_ld; rfl; exact hc_i 0 rfl rfl; apply w_done0; apply w_ifF; rfl; apply w_skip; apply w_sq; apply w_sq; apply w_reg; apply w_fld; rfl; apply w_ld; rfl; exact hc_i 0 rfl rfl; apply w_done0; apply w_ifT; rfl; apply w_reg; apply w_mvi; rfl; apply w_fld; rfl; apply w_ld; rfl; exact hc_i 0 rfl rfl; apply w_mvi; rfl)
      refine w_pure rfl (h1 id hk1 hk2) ?_
      (apply w_mn2; rfl; rfl; apply w_mx2; rfl; rfl; apply w_mvi; rfl; apply w_done0; apply w_sq; apply w_reg; apply w_mvi; rfl; apply w_mvi; rfl; apply w_mvi; rfl; apply w_mx2; rfl; rfl; apply w_mvi; rfl; apply w_mvi; rfl; apply w_done0; apply w_ret)
      refine finQ2 (by simp [endsF, endF, hf]; rfl) (by simp [endsF, endF, hf, ht]; rfl)
    | false =>
      (apply w_mvi; rfl; apply w_mvi; rfl; apply w_done0; apply w_sq; apply w_reg; apply w_mvi; rfl; apply w_mvi; rfl; apply w_mvi; rfl; apply w_done0; apply w_sq; apply w_sq; apply w_reg; apply w_fld; rfl; apply w_ld; rfl; exact hc_i 0 rfl rfl; apply w_done0; apply w_ifF; rfl; apply w_skip; apply w_sq; apply w_sq; apply w_reg; apply w_fld; rfl; apply w_ld; rfl; exact hc_i 0 rfl rfl; apply w_done0; apply w_ifF; rfl; apply w_skip; apply w_sq; apply w_reg; apply w_mvi; rfl; apply w_mvi; rfl; apply w_mvi; rfl; apply w_mx2; rfl; rfl; apply w_mvi; rfl; apply w_mvi; rfl; apply w_done0; apply w_ret)
      refine finQ2 (by simp [endsF, endF, hf]; rfl) (by simp [endsF, endF, hf, ht]; rfl)
def g_thimbleref08_ends (f_thimbleref08_bound : Nat) : GFun :=
 ⟨27, [(.tmp 4), (.tmp 5)],
 (.seq
 (.reg false (.op false ⟨(some 2), none, (.box (.tmp 0))⟩
  (.op false ⟨(some 4), none, (.mv (.const (.int .i64 0)))⟩
  (.op false ⟨(some 5), none, (.mv (.const (.int .i64 0)))⟩ .done))))
 (.seq
 (.reg false (.op false ⟨(some 6), none, (.mv (.const (.int .i64 0)))⟩ .done))
 (.seq
 (.reg false (.op false ⟨(some 8), none, (.mv (.tmp 1))⟩
  (.op false ⟨(some 7), none, (.mv (.tmp 8))⟩ .done)))
 (.seq (.seq
 (.reg false (.op false ⟨(some 9), none, (.fld 4 (.tmp 2))⟩
  (.op false ⟨(some 10), none, (.ld none (.tmp 9))⟩ .done))) (.cond (.tmp 10)
 (.reg false (.op false ⟨(some 11), none, (.fld 2 (.tmp 2))⟩
  (.op false ⟨(some 12), none, (.ld none (.tmp 11))⟩
  (.op false ⟨(some 13), none, (.mv (.tmp 1))⟩
  (.op false ⟨(some 14), none, (.call f_thimbleref08_bound [(.tmp 12), (.tmp 13)])⟩
  (.op false ⟨(some 6), none, (.mv (.tmp 14))⟩ .done)))))) .skip))
 (.seq (.seq
 (.reg false (.op false ⟨(some 15), none, (.fld 5 (.tmp 2))⟩
  (.op false ⟨(some 16), none, (.ld none (.tmp 15))⟩ .done))) (.cond (.tmp 16)
 (.reg false (.op false ⟨(some 17), none, (.fld 3 (.tmp 2))⟩
  (.op false ⟨(some 18), none, (.ld none (.tmp 17))⟩
  (.op false ⟨(some 19), none, (.mv (.tmp 1))⟩
  (.op false ⟨(some 20), none, (.call f_thimbleref08_bound [(.tmp 18), (.tmp 19)])⟩
  (.op false ⟨(some 7), none, (.mv (.tmp 20))⟩ .done)))))) .skip))
 (.seq (.seq
 (.reg false (.op false ⟨(some 21), none, (.mv (.tmp 7))⟩
  (.op false ⟨(some 22), none, (.mv (.tmp 6))⟩
  (.op false ⟨(some 23), none, (.bin .lss (.tmp 21) (.tmp 22))⟩ .done)))) (.cond (.tmp 23)
 (.reg false (.op false ⟨(some 24), none, (.mv (.tmp 6))⟩
  (.op false ⟨(some 7), none, (.mv (.tmp 24))⟩ .done))) .skip))
 (.seq
 (.reg false (.op false ⟨(some 25), none, (.mv (.tmp 6))⟩
  (.op false ⟨(some 26), none, (.mv (.tmp 7))⟩
  (.op false ⟨(some 4), none, (.mv (.tmp 25))⟩
  (.op false ⟨(some 5), none, (.mv (.tmp 26))⟩ .done))))) .ret)))))))⟩

theorem rends_ok {P : Program} {f f1 : FuncId} (hd : dec P f = some (g_thimbleref08_ends f1)) (h1 : BoundOk P f1) : EndsOk P f := by
  intro d cs s k ⟨hcs, ik, it, is, id⟩ hk1 hk2
  subst hcs
  refine GPure.of' hd (Nat.le_of_ble_eq_true rfl) ?_
  show gwp P _ _ _ _ _
  apply w_sq; apply w_reg
  refine w_boxa (l := [.int .i64 s.kind, strV s.text, .int .i64 s.src, .int .i64 s.dst, .bool s.hf, .bool s.ht]) rfl (fun b2 T2 => ?_)
  have e1 : ∀ a b : Int, b < a → max a b = a := by omega
  have e2 : ∀ a b : Int, ¬ b < a → max a b = b := by omega
  cases hf : s.hf with
  | true =>
    cases ht : s.ht with
    | true =>
      (apply w_mvi; rfl; apply w_mvi; rfl; apply w_done0; apply w_sq; apply w_reg; apply w_mvi; rfl; apply w_done0; apply w_sq; apply w_reg; apply w_mvi; rfl; apply w_mvi; rfl; apply w_done0; apply w_sq; apply w_sq; apply w_reg; apply w_fld; rfl; apply w_ld; rfl; exact hc_i 0 rfl rfl; apply w_done0; apply w_ifT; rfl; apply w_reg; apply w_fld; rfl; apply w_ld; rfl; exact hc_i 0 rfl rfl; apply w_mvi; rfl)
      refine w_pure rfl (h1 is hk1 hk2) ?_
      (apply w_mvi; rfl; apply w_done0; apply w_sq; apply w_sq; apply w_reg; apply w_fld; rfl; apply w_ld; rfl; exact hc_i 0 rfl rfl; apply w_done0; apply w_ifT; rfl; apply w_reg; apply w_fld; rfl; apply w_ld; rfl; exact hc_i 0 rfl rfl; apply w_mvi; rfl)
      refine w_pure rfl (h1 id hk1 hk2) ?_
      by_cases hc : endF s.dst k < endF s.src k
      · (apply w_mvi; rfl; apply w_done0; apply w_sq; apply w_sq; apply w_reg; apply w_mvi; rfl; apply w_mvi; rfl; apply w_lss; rfl; rfl; apply w_done0; refine w_ifdT rfl (by omega) ?_; apply w_reg; apply w_mvi; rfl; apply w_mvi; rfl; apply w_done0; apply w_sq; apply w_reg; apply w_mvi; rfl; apply w_mvi; rfl; apply w_mvi; rfl; apply w_mvi; rfl; apply w_done0; apply w_ret)
        refine finQ2 (by simp [endsF, hf]; rfl) (by simp [endsF, hf, ht, e1 _ _ hc]; rfl)
      · (apply w_mvi; rfl; apply w_done0; apply w_sq; apply w_sq; apply w_reg; apply w_mvi; rfl; apply w_mvi; rfl; apply w_lss; rfl; rfl; apply w_done0; refine w_ifdF rfl (by omega) ?_; apply w_skip; apply w_sq; apply w_reg; apply w_mvi; rfl; apply w_mvi; rfl; apply w_mvi; rfl; apply w_mvi; rfl; apply w_done0; apply w_ret)
        refine finQ2 (by simp [endsF, hf]; rfl) (by simp [endsF, hf, ht, e2 _ _ hc]; rfl)
    | false =>
      (apply w_mvi; rfl; apply w_mvi; rfl; apply w_done0; apply w_sq; apply w_reg; apply w_mvi; rfl; apply w_done0; apply w_sq; apply w_reg; apply w_mvi; rfl; apply w_mvi; rfl; apply w_done0; apply w_sq; apply w_sq; apply w_reg; apply w_fld; rfl; apply w_ld; rfl; exact hc_i 0 rfl rfl; apply w_done0; apply w_ifT; rfl; apply w_reg; apply w_fld; rfl; apply w_ld; rfl; exact hc_i 0 rfl rfl; apply w_mvi; rfl)
      refine w_pure rfl (h1 is hk1 hk2) ?_
      by_cases hc : k < endF s.src k
      · (apply w_mvi; rfl; apply w_done0; apply w_sq; apply w_sq; apply w_reg; apply w_fld; rfl; apply w_ld; rfl; exact hc_i 0 rfl rfl; apply w_done0; apply w_ifF; rfl; apply w_skip; apply w_sq; apply w_sq; apply w_reg; apply w_mvi; rfl; apply w_mvi; rfl; apply w_lss; rfl; rfl; apply w_done0; refine w_ifdT rfl (by omega) ?_; apply w_reg; apply w_mvi; rfl; apply w_mvi; rfl; apply w_done0; apply w_sq; apply w_reg; apply w_mvi; rfl; apply w_mvi; rfl; apply w_mvi; rfl; apply w_mvi; rfl; apply w_done0; apply w_ret)
        refine finQ2 (by simp [endsF, hf]; rfl) (by simp [endsF, hf, ht, e1 _ _ hc]; rfl)
      · (apply w_mvi; rfl; apply w_done0; apply w_sq; apply w_sq; apply w_reg; apply w_fld; rfl; apply w_ld; rfl; exact hc_i 0 rfl rfl; apply w_done0; apply w_ifF; rfl; apply w_skip; apply w_sq; apply w_sq; apply w_reg; apply w_mvi; rfl; apply w_mvi; rfl; apply w_lss; rfl; rfl; apply w_done0; refine w_ifdF rfl (by omega) ?_; apply w_skip; apply w_sq; apply w_reg; apply w_mvi; rfl; apply w_mvi; rfl; apply w_mvi; rfl; apply w_mvi; rfl; apply w_done0; apply w_ret)
        refine finQ2 (by simp [endsF, hf]; rfl) (by simp [endsF, hf, ht, e2 _ _ hc]; rfl)
  | false =>
    cases ht : s.ht with
    | true =>
      (apply w_mvi; rfl; apply w_mvi; rfl; apply w_done0; apply w_sq; apply w_reg; apply w_mvi; rfl; apply w_done0; apply w_sq; apply w_reg; apply w_mvi; rfl; apply w_mvi; rfl; apply w_done0; apply w_sq; apply w_sq; apply w_reg; apply w_fld; rfl; apply w_ld; rfl; exact hc_i 0 rfl rfl; apply w_done0; apply w_ifF; rfl; apply w_skip; apply w_sq; apply w_sq; apply w_reg; apply w_fld; rfl; apply w_ld; rfl; exact hc_i 0 rfl rfl; apply w_done0; apply w_ifT; rfl; apply w_reg; apply w_fld; rfl; apply w_ld; rfl; exact hc_i 0 rfl rfl; apply w_mvi; rfl)
      refine w_pure rfl (h1 id hk1 hk2) ?_
      by_cases hc : endF s.dst k < 0
      · (apply w_mvi; rfl; apply w_done0; apply w_sq; apply w_sq; apply w_reg; apply w_mvi; rfl; apply w_mvi; rfl; apply w_lss; rfl; rfl; apply w_done0; refine w_ifdT rfl (by omega) ?_; apply w_reg; apply w_mvi; rfl; apply w_mvi; rfl; apply w_done0; apply w_sq; apply w_reg; apply w_mvi; rfl; apply w_mvi; rfl; apply w_mvi; rfl; apply w_mvi; rfl; apply w_done0; apply w_ret)
        refine finQ2 (by simp [endsF, hf]; rfl) (by simp [endsF, hf, ht, e1 _ _ hc]; rfl)
      · (apply w_mvi; rfl; apply w_done0; apply w_sq; apply w_sq; apply w_reg; apply w_mvi; rfl; apply w_mvi; rfl; apply w_lss; rfl; rfl; apply w_done0; refine w_ifdF rfl (by omega) ?_; apply w_skip; apply w_sq; apply w_reg; apply w_mvi; rfl; apply w_mvi; rfl; apply w_mvi; rfl; apply w_mvi; rfl; apply w_done0; apply w_ret)
        refine finQ2 (by simp [endsF, hf]; rfl) (by simp [endsF, hf, ht, e2 _ _ hc]; rfl)
    | false =>
      by_cases hc : k < 0
      · omega
      · (apply w_mvi; rfl; apply w_mvi; rfl; apply w_done0; apply w_sq; apply w_reg; apply w_mvi; rfl; apply w_done0; apply w_sq; apply w_reg; apply w_mvi; rfl; apply w_mvi; rfl; apply w_done0; apply w_sq; apply w_sq; apply w_reg; apply w_fld; rfl; apply w_ld; rfl; exact hc_i 0 rfl rfl; apply w_done0; apply w_ifF; rfl; apply w_skip; apply w_sq; apply w_sq; apply w_reg; apply w_fld; rfl; apply w_ld; rfl; exact hc_i 0 rfl rfl; apply w_done0; apply w_ifF; rfl; apply w_skip; apply w_sq; apply w_sq; apply w_reg; apply w_mvi; rfl; apply w_mvi; rfl; apply w_lss; rfl; rfl; apply w_done0; refine w_ifdF rfl (by omega) ?_; apply w_skip; apply w_sq; apply w_reg; apply w_mvi; rfl; apply w_mvi; rfl; apply w_mvi; rfl; apply w_mvi; rfl; apply w_done0; apply w_ret)
        refine finQ2 (by simp [endsF, hf]; rfl) (by simp [endsF, hf, ht, e2 _ _ hc]; rfl)

/-! ### keys -/
theorem takeWhile_spec {α : Type} {p : α → Bool} : ∀ (l : List α), (∀ i j (hj : j < l.length) (hi : i < j), p l[j] = true → p (l[i]'(by omega)) = true) → ∀ i (hi : i < l.length), p l[i] = true ↔ i < (l.takeWhile p).length
  | [], _, i, hi => absurd hi (Nat.not_lt_zero i)
  | a :: l, h, i, hi => by
    have ih := takeWhile_spec l (fun i j hj hi hp => h (i + 1) (j + 1) (by simp; omega) (by omega) hp)
    by_cases ha : p a = true
    · rw [List.takeWhile_cons_of_pos ha, List.length_cons]
      cases i with
      | zero => simp [ha]
      | succ i => rw [List.getElem_cons_succ, ih i (by simpa using hi)]; omega
    · rw [List.takeWhile_cons_of_neg ha]
      cases i with
      | zero => simp [ha]
      | succ i =>
        constructor
        · intro hp; exact absurd (h 0 (i + 1) hi (by omega) hp) ha
        · intro hlt; simp at hlt
/-- How many keys lie before one. -/
def lowK (ks : List (List UInt8)) (k : List UInt8) : Nat := (ks.takeWhile fun x => Op.bytesLess x k).length
theorem lowK_le (ks : List (List UInt8)) (k : List UInt8) : lowK ks k ≤ ks.length := by
  have := congrArg List.length (List.takeWhile_append_dropWhile (p := fun x => Op.bytesLess x k) (l := ks))
  rw [List.length_append] at this
  simp only [lowK]; omega
theorem rise_step {ks : List (List UInt8)} (h : rising ks = true) {i : Nat} (hi : i + 1 < ks.length) : Op.bytesLess ks[i] ks[i + 1] = true := by
  by_cases hb : rise1 ks (i + 1) = true
  · rw [rise1_s hi, Bool.and_eq_true] at hb; exact hb.2
  · rw [rising, riseN_false (by simpa using hb) hi] at h; cases h
theorem rise_lt {ks : List (List UInt8)} (h : rising ks = true) : ∀ {j i : Nat} (hj : j < ks.length) (hi : i < j), Op.bytesLess (ks[i]'(by omega)) ks[j] = true := by
  intro j
  induction j with
  | zero => intro i _ hi; omega
  | succ j ih =>
    intro i hj hi
    by_cases e : i = j
    · subst e; exact rise_step h hj
    · exact bl_trans (ih (by omega) (by omega)) (rise_step h hj)
theorem low_spec {ks : List (List UInt8)} (h : rising ks = true) (k : List UInt8) (i : Nat) (hi : i < ks.length) : Op.bytesLess ks[i] k = true ↔ i < lowK ks k :=
  takeWhile_spec (p := fun x => Op.bytesLess x k) ks (fun i j hj hi hp => bl_trans (rise_lt h hj hi) hp) i hi
theorem mem_low {ks : List (List UInt8)} (h : rising ks = true) {k : List UInt8} {i : Nat} (hi : i < ks.length) (e : ks[i] = k) : lowK ks k = i := by
  have h1 : ¬ i < lowK ks k := by rw [← low_spec h k i hi, e, bl_irrefl]; simp
  by_cases h2 : lowK ks k < i
  · have h3 := rise_lt h hi h2
    rw [e] at h3
    have := (low_spec h k (lowK ks k) (by omega)).1 h3
    omega
  · omega
theorem mem_iff {ks : List (List UInt8)} (h : rising ks = true) {k : List UInt8} : k ∈ ks ↔ ∃ hi : lowK ks k < ks.length, ks[lowK ks k] = k := by
  constructor
  · intro hm
    obtain ⟨i, hi, e⟩ := List.getElem_of_mem hm
    have := mem_low h hi e
    subst this
    exact ⟨hi, e⟩
  · rintro ⟨hi, e⟩
    rw [← e]; exact List.getElem_mem hi
def NanOk (P : Program) (f : FuncId) : Prop := ∀ {d : PHeap} {l : List UInt8}, GPure P f [strV l] d (.bool false)
def g_slices_isNaN_string : GFun :=
 ⟨6, [(.tmp 2)],
 (.seq
 (.reg false (.op false ⟨(some 2), none, (.mv (.const (.bool false)))⟩ .done))
 (.seq
 (.reg false (.op false ⟨(some 3), none, (.mv (.tmp 0))⟩
  (.op false ⟨(some 4), none, (.mv (.tmp 0))⟩
  (.op false ⟨(some 5), none, (.bin .neq (.tmp 3) (.tmp 4))⟩
  (.op false ⟨(some 2), none, (.mv (.tmp 5))⟩ .done))))) .ret))⟩

theorem nan_slices_isNaN_string {P : Program} {f : FuncId} (hd : dec P f = some g_slices_isNaN_string) : NanOk P f := by
  intro d l
  refine GPure.of' hd (Nat.le_of_ble_eq_true rfl) ?_
  show gwp P _ _ _ _ _
  (apply w_sq; apply w_reg; apply w_mvb; rfl; apply w_done0; apply w_sq; apply w_reg; apply w_mvt; rfl; apply w_mvt; rfl; apply w_sne; rfl; rfl; apply w_mvb; rfl; apply w_done0; apply w_ret)
  apply finQb; rfl
  simp
def g_cmp_isNaN_string : GFun :=
 ⟨6, [(.tmp 2)],
 (.seq
 (.reg false (.op false ⟨(some 2), none, (.mv (.const (.bool false)))⟩ .done))
 (.seq
 (.reg false (.op false ⟨(some 3), none, (.mv (.tmp 0))⟩
  (.op false ⟨(some 4), none, (.mv (.tmp 0))⟩
  (.op false ⟨(some 5), none, (.bin .neq (.tmp 3) (.tmp 4))⟩
  (.op false ⟨(some 2), none, (.mv (.tmp 5))⟩ .done))))) .ret))⟩

theorem nan_cmp_isNaN_string {P : Program} {f : FuncId} (hd : dec P f = some g_cmp_isNaN_string) : NanOk P f := by
  intro d l
  refine GPure.of' hd (Nat.le_of_ble_eq_true rfl) ?_
  show gwp P _ _ _ _ _
  (apply w_sq; apply w_reg; apply w_mvb; rfl; apply w_done0; apply w_sq; apply w_reg; apply w_mvt; rfl; apply w_mvt; rfl; apply w_sne; rfl; rfl; apply w_mvb; rfl; apply w_done0; apply w_ret)
  apply finQb; rfl
  simp
def LessOk (P : Program) (f : FuncId) : Prop := ∀ {d : PHeap} {l k : List UInt8}, GPure P f [strV l, strV k] d (.bool (Op.bytesLess l k))
def g_cmp_Less_string (f_cmp_isNaN_string : Nat) : GFun :=
 ⟨17, [(.tmp 4)],
 (.seq
 (.reg false (.op false ⟨(some 4), none, (.mv (.const (.bool false)))⟩ .done))
 (.seq
 (.reg false (.op false ⟨(some 5), none, (.mv (.tmp 0))⟩
  (.op false ⟨(some 6), none, (.call f_cmp_isNaN_string [(.tmp 5)])⟩
  (.op false ⟨(some 7), none, (.mv (.tmp 6))⟩
  (.op false ⟨(some 8), (some (7, true)), (.mv (.tmp 1))⟩
  (.op false ⟨(some 9), (some (7, true)), (.call f_cmp_isNaN_string [(.tmp 8)])⟩
  (.op false ⟨(some 10), (some (7, true)), (.un .not (.tmp 9))⟩
  (.op false ⟨(some 11), none, (.pick (.tmp 7) (.tmp 10) (.const (.bool false)))⟩
  (.op false ⟨(some 12), none, (.mv (.tmp 11))⟩
  (.op false ⟨(some 13), (some (12, false)), (.mv (.tmp 0))⟩
  (.op false ⟨(some 14), (some (12, false)), (.mv (.tmp 1))⟩
  (.op false ⟨(some 15), (some (12, false)), (.bin .lss (.tmp 13) (.tmp 14))⟩
  (.op false ⟨(some 16), none, (.pick (.tmp 12) (.const (.bool true)) (.tmp 15))⟩
  (.op false ⟨(some 4), none, (.mv (.tmp 16))⟩ .done)))))))))))))) .ret))⟩

theorem less_ok {P : Program} {f f1 : FuncId} (hd : dec P f = some (g_cmp_Less_string f1)) (h1 : NanOk P f1) : LessOk P f := by
  intro d l k
  refine GPure.of' hd (Nat.le_of_ble_eq_true rfl) ?_
  show gwp P _ _ _ _ _
  (apply w_sq; apply w_reg; apply w_mvb; rfl; apply w_done0; apply w_sq; apply w_reg; apply w_mvt; rfl)
  refine w_pure rfl h1 ?_
  (apply w_mvb; rfl; apply w_gF; rfl; apply w_gF; rfl; apply w_gF; rfl; apply w_pickFb; rfl; rfl; apply w_mvb; rfl; apply w_gT; rfl; apply w_mvt; rfl; apply w_gT; rfl; apply w_mvt; rfl; apply w_gT; rfl; apply w_slt; rfl; rfl; apply w_pickFb; rfl; rfl; apply w_mvb; rfl; apply w_done0; apply w_ret)
  apply finQb; rfl
  rfl
section
variable {P : Program} {pan : List PanicEntry → Post} {Qn : Env → Post} {Ls L : List PHeap} {ρ : Env} {d : PHeap} {s : GS} {t : Nat} {tk : Bool}
theorem w_half {x y : Operand} {k' : IntKind} {a : Int} (ex : ev ρ x = .int .u64 a) (ey : ev ρ y = .int k' 1) (h0 : 0 ≤ a) (h1 : a ≤ 9223372036854775807) (h : gws P pan Qn s Ls (upd ρ t (.int .u64 (a / 2))) d L) :
    gws P pan Qn (.op tk ⟨some t, none, .bin .shr x y⟩ s) Ls ρ d L := by
  refine w_bin ?_ h
  rw [ex, ey]
  simp [binV, IntKind.bits, Int.fdiv_eq_ediv_of_nonneg]
end
def SearchOk (P : Program) (f : FuncId) : Prop := ∀ {d : PHeap} {v : Value} {ks : List (List UInt8)} {k : List UInt8}, RStrs d v ks → rising ks = true → GPure P f [v, strV k] d (.tuple #[.int .i64 (lowK ks k), .bool (decide (k ∈ ks))])
def g_slices_BinarySearch_string_string (f_cmp_Less_string f_slices_isNaN_string : Nat) : GFun :=
 ⟨54, [(.tmp 4), (.tmp 5)],
 (.seq
 (.reg false (.op false ⟨(some 4), none, (.mv (.const (.int .i64 0)))⟩
  (.op false ⟨(some 5), none, (.mv (.const (.bool false)))⟩ .done)))
 (.seq
 (.reg false (.op false ⟨(some 10), none, (.mv (.tmp 0))⟩
  (.op false ⟨(some 11), none, (.len (.tmp 10))⟩
  (.op false ⟨(some 6), none, (.mv (.tmp 11))⟩ .done))))
 (.seq
 (.reg false (.op false ⟨(some 12), none, (.mv (.tmp 6))⟩
  (.op false ⟨(some 7), none, (.mv (.const (.int .i64 0)))⟩
  (.op false ⟨(some 8), none, (.mv (.tmp 12))⟩ .done))))
 (.seq (.block 0 (.loop
 (.seq (.seq
 (.reg false (.op false ⟨(some 13), none, (.mv (.tmp 7))⟩
  (.op false ⟨(some 14), none, (.mv (.tmp 8))⟩
  (.op false ⟨(some 15), none, (.bin .lss (.tmp 13) (.tmp 14))⟩ .done)))) (.cond (.tmp 15) .skip (.exit 0))) (.block 1
 (.seq
 (.reg false (.op false ⟨(some 16), none, (.mv (.tmp 7))⟩
  (.op false ⟨(some 17), none, (.mv (.tmp 8))⟩
  (.op false ⟨(some 18), none, (.bin .add (.tmp 16) (.tmp 17))⟩
  (.op false ⟨(some 19), none, (.cvi .u64 (.tmp 18))⟩
  (.op false ⟨(some 20), none, (.bin .shr (.tmp 19) (.const (.int .u64 1)))⟩
  (.op false ⟨(some 21), none, (.cvi .i64 (.tmp 20))⟩
  (.op false ⟨(some 9), none, (.mv (.tmp 21))⟩ .done))))))))
 (.seq
 (.reg false (.op false ⟨(some 22), none, (.mv (.tmp 0))⟩
  (.op false ⟨(some 23), none, (.mv (.tmp 9))⟩
  (.op false ⟨(some 24), none, (.idx 1 (.tmp 22) (.tmp 23))⟩
  (.op false ⟨(some 25), none, (.ld none (.tmp 24))⟩
  (.op false ⟨(some 26), none, (.mv (.tmp 1))⟩
  (.op false ⟨(some 27), none, (.call f_cmp_Less_string [(.tmp 25), (.tmp 26)])⟩ .done))))))) (.cond (.tmp 27)
 (.reg false (.op false ⟨(some 28), none, (.mv (.tmp 9))⟩
  (.op false ⟨(some 29), none, (.bin .add (.tmp 28) (.const (.int .i64 1)))⟩
  (.op false ⟨(some 7), none, (.mv (.tmp 29))⟩ .done))))
 (.reg false (.op false ⟨(some 30), none, (.mv (.tmp 9))⟩
  (.op false ⟨(some 8), none, (.mv (.tmp 30))⟩ .done))))))))))
 (.seq
 (.reg false (.op false ⟨(some 31), none, (.mv (.tmp 7))⟩
  (.op false ⟨(some 32), none, (.mv (.tmp 7))⟩
  (.op false ⟨(some 33), none, (.mv (.tmp 6))⟩
  (.op false ⟨(some 34), none, (.bin .lss (.tmp 32) (.tmp 33))⟩
  (.op false ⟨(some 35), none, (.mv (.tmp 34))⟩
  (.op false ⟨(some 36), (some (35, true)), (.mv (.tmp 0))⟩
  (.op false ⟨(some 37), (some (35, true)), (.mv (.tmp 7))⟩
  (.op false ⟨(some 38), (some (35, true)), (.idx 1 (.tmp 36) (.tmp 37))⟩
  (.op false ⟨(some 39), (some (35, true)), (.ld none (.tmp 38))⟩
  (.op false ⟨(some 40), (some (35, true)), (.mv (.tmp 1))⟩
  (.op false ⟨(some 41), (some (35, true)), (.bin .eql (.tmp 39) (.tmp 40))⟩
  (.op false ⟨(some 42), (some (35, true)), (.mv (.tmp 41))⟩
  (.op false ⟨(some 43), (some (42, false)), (.mv (.tmp 0))⟩
  (.op false ⟨(some 44), (some (42, false)), (.mv (.tmp 7))⟩
  (.op false ⟨(some 45), (some (42, false)), (.idx 1 (.tmp 43) (.tmp 44))⟩
  (.op false ⟨(some 46), (some (42, false)), (.ld none (.tmp 45))⟩
  (.op false ⟨(some 47), (some (42, false)), (.call f_slices_isNaN_string [(.tmp 46)])⟩
  (.op false ⟨(some 48), (some (42, false)), (.mv (.tmp 47))⟩
  (.op false ⟨(some 49), (some (48, true)), (.mv (.tmp 1))⟩
  (.op false ⟨(some 50), (some (48, true)), (.call f_slices_isNaN_string [(.tmp 49)])⟩
  (.op false ⟨(some 51), (some (42, false)), (.pick (.tmp 48) (.tmp 50) (.const (.bool false)))⟩
  (.op false ⟨(some 52), (some (35, true)), (.pick (.tmp 42) (.const (.bool true)) (.tmp 51))⟩
  (.op false ⟨(some 53), none, (.pick (.tmp 35) (.tmp 52) (.const (.bool false)))⟩
  (.op false ⟨(some 4), none, (.mv (.tmp 31))⟩
  (.op false ⟨(some 5), none, (.mv (.tmp 53))⟩ .done)))))))))))))))))))))))))) .ret)))))⟩

theorem search_ok {P : Program} {f f1 f2 : FuncId} (hd : dec P f = some (g_slices_BinarySearch_string_string f1 f2)) (h1 : LessOk P f1) (h2 : NanOk P f2) : SearchOk P f := by
  intro d v ks k hv hr
  have n1 := RSl.len_le hv
  have hll := lowK_le ks k
  obtain ⟨a, c, rfl⟩ := RSl.val hv
  have hv' : RSl 1 RStr d (.slice a ks.length c) ks := hv
  refine GPure.of' hd (Nat.le_of_ble_eq_true rfl) ?_
  show gwp P _ _ _ _ _
  (apply w_sq; apply w_reg; apply w_mvi; rfl; apply w_mvb; rfl; apply w_done0; apply w_sq; apply w_reg; apply w_mvs; rfl; apply w_len; rfl; apply w_mvi; rfl; apply w_done0; apply w_sq; apply w_reg; apply w_mvi; rfl; apply w_mvi; rfl; apply w_mvi; rfl; apply w_done0; apply w_sq; apply w_block)
  refine w_loopN (α := Nat × Nat) (fun x => [(0, .slice a ks.length c), (1, strV k), (6, .int .i64 ks.length), (7, .int .i64 x.1), (8, .int .i64 x.2)]) (fun _ => []) (fun x => x.1 ≤ lowK ks k ∧ lowK ks k ≤ x.2 ∧ x.2 ≤ ks.length) (fun x => x.2 - x.1) (0, ks.length)
    ⟨rfl, rfl, rfl, rfl, rfl, trivial⟩ rfl ⟨Nat.zero_le _, hll, Nat.le_refl _⟩ ?_
  rintro ⟨lo, hi⟩ ρ ⟨k1, k2, k3⟩
  simp only at k1 k2 k3
  by_cases hc : lo < hi
  · obtain ⟨m, hm⟩ : ∃ m, m = (lo + hi) / 2 := ⟨_, rfl⟩
    have hmv : ((lo : Int) + hi) % 18446744073709551616 / 2 = m := by omega
    (apply w_sq; apply w_sq; apply w_reg; apply w_mvi; rfl; apply w_mvi; rfl; apply w_lss; rfl; rfl; apply w_done0; refine w_ifdT rfl (by omega) ?_; apply w_skip; apply w_block; apply w_sq; apply w_reg; apply w_mvi; rfl; apply w_mvi; rfl; apply w_add; rfl; rfl; omega; omega; apply w_cviu; rfl)
    refine w_half rfl rfl (by omega) (by omega) ?_
    (apply w_cvi64; rfl; omega; omega; apply w_mvi; rfl; apply w_done0; apply w_sq; apply w_reg; apply w_mvs; rfl; apply w_mvi; rfl)
    refine w_idxR (sz := 1) (R := RStr) (m := m) (by rfl) hv' (by rfl) hmv (by omega) ?_; rintro _ _ _ _ _ ⟨rfl, _⟩
    (apply w_ld; rfl; exact hc_ds0 (by assumption) rfl; apply w_mvt; rfl)
    refine w_pure rfl h1 ?_
    have hm' : m < ks.length := by omega
    have hsp := low_spec hr k m hm'
    cases hb : Op.bytesLess ks[m] k with
    | true =>
      have := hsp.1 hb
      (apply w_done0; apply w_ifT; rfl; apply w_reg; apply w_mvi; rfl; apply w_add; rfl; rfl; omega; omega; apply w_mvi; rfl; apply w_done0)
      exact ⟨(m + 1, hi), by simp only; omega, ⟨rfl, rfl, rfl, int_eq (by simp only; omega), rfl, trivial⟩, rfl, rfl, by simp only; omega, k2, k3⟩
    | false =>
      have : ¬ m < lowK ks k := fun h => by rw [hsp.2 h] at hb; cases hb
      (apply w_done0; apply w_ifF; rfl; apply w_reg; apply w_mvi; rfl; apply w_mvi; rfl; apply w_done0)
      exact ⟨(lo, m), by simp only; omega, ⟨rfl, rfl, rfl, rfl, int_eq (by simp only; omega), trivial⟩, rfl, rfl, k1, by simp only; omega, by simp only; omega⟩
  obtain rfl : hi = lo := by omega
  have hlo : hi = lowK ks k := by omega
  by_cases h6 : hi < ks.length
  · by_cases h7 : ks[hi] = k
    · have hmem : k ∈ ks := by rw [← h7]; exact List.getElem_mem h6
      (apply w_sq; apply w_sq; apply w_reg; apply w_mvi; rfl; apply w_mvi; rfl; apply w_lss; rfl; rfl; apply w_done0; refine w_ifdF rfl (by omega) ?_; apply w_exit; apply w_sq; apply w_reg; apply w_mvi; rfl; apply w_mvi; rfl; apply w_mvi; rfl; apply w_lss; rfl; rfl; apply w_mvb; rfl; refine w_gdT rfl (by omega) ?_; apply w_gT; rfl; apply w_mvs; rfl; apply w_gT; rfl; apply w_mvi; rfl; apply w_gT; rfl; refine w_idxR (sz := 1) (R := RStr) (by rfl) (by assumption) (by rfl) rfl (by omega) ?_; rintro _ _ _ _ _ ⟨rfl, _⟩; apply w_gT; rfl; apply w_ld; rfl; exact hc_ds0 (by assumption) rfl; apply w_gT; rfl; apply w_mvt; rfl; apply w_gT; rfl; apply w_seq; rfl; rfl; apply w_gT; rfl; apply w_mvb; rfl; refine w_gdT rfl (by omega) ?_; apply w_gF; rfl; apply w_gF; rfl; apply w_gF; rfl; apply w_gF; rfl; apply w_gF; rfl; apply w_gF; rfl; apply w_gU; rfl; apply w_gU; rfl; apply w_gF; rfl; apply w_gT; rfl; apply w_pickTb; rfl; rfl; apply w_pickTb; rfl; rfl; apply w_mvi; rfl; apply w_mvb; rfl; apply w_done0; apply w_ret)
      refine finQ2 (by rw [← hlo]; rfl) (by rw [decide_eq_true hmem]; rfl)
    · have hmem : ¬ k ∈ ks := fun h => by
        obtain ⟨_, e⟩ := (mem_iff hr).1 h
        subst hlo; exact h7 e
      (apply w_sq; apply w_sq; apply w_reg; apply w_mvi; rfl; apply w_mvi; rfl; apply w_lss; rfl; rfl; apply w_done0; refine w_ifdF rfl (by omega) ?_; apply w_exit; apply w_sq; apply w_reg; apply w_mvi; rfl; apply w_mvi; rfl; apply w_mvi; rfl; apply w_lss; rfl; rfl; apply w_mvb; rfl; refine w_gdT rfl (by omega) ?_; apply w_gT; rfl; apply w_mvs; rfl; apply w_gT; rfl; apply w_mvi; rfl; apply w_gT; rfl; refine w_idxR (sz := 1) (R := RStr) (by rfl) (by assumption) (by rfl) rfl (by omega) ?_; rintro _ _ _ _ _ ⟨rfl, _⟩; apply w_gT; rfl; apply w_ld; rfl; exact hc_ds0 (by assumption) rfl; apply w_gT; rfl; apply w_mvt; rfl; apply w_gT; rfl; apply w_seq; rfl; rfl; apply w_gT; rfl; apply w_mvb; rfl; refine w_gdF rfl (by omega) ?_; apply w_gT; rfl; apply w_mvs; rfl; apply w_gT; rfl; apply w_mvi; rfl; apply w_gT; rfl; refine w_idxR (sz := 1) (R := RStr) (by rfl) (by assumption) (by rfl) rfl (by omega) ?_; rintro _ _ _ _ _ ⟨rfl, _⟩; apply w_gT; rfl; apply w_ld; rfl; exact hc_ds0 (by assumption) rfl; apply w_gT; rfl)
      refine w_pure rfl h2 ?_
      (apply w_gT; rfl; apply w_mvb; rfl; apply w_gF; rfl; apply w_gF; rfl; apply w_gT; rfl; apply w_pickFb; rfl; rfl; apply w_gT; rfl; apply w_pickFb; rfl; rfl; apply w_pickTb; rfl; rfl; apply w_mvi; rfl; apply w_mvb; rfl; apply w_done0; apply w_ret)
      refine finQ2 (by rw [← hlo]; rfl) (by rw [decide_eq_false hmem]; rfl)
  · have hmem : ¬ k ∈ ks := fun h => by
      obtain ⟨h', e⟩ := (mem_iff hr).1 h
      omega
    (apply w_sq; apply w_sq; apply w_reg; apply w_mvi; rfl; apply w_mvi; rfl; apply w_lss; rfl; rfl; apply w_done0; refine w_ifdF rfl (by omega) ?_; apply w_exit; apply w_sq; apply w_reg; apply w_mvi; rfl; apply w_mvi; rfl; apply w_mvi; rfl; apply w_lss; rfl; rfl; apply w_mvb; rfl; refine w_gdF rfl (by omega) ?_; apply w_gF; rfl; apply w_gF; rfl; apply w_gF; rfl; apply w_gF; rfl; apply w_gF; rfl; apply w_gF; rfl; apply w_gF; rfl; apply w_gU; rfl; apply w_gU; rfl; apply w_gU; rfl; apply w_gU; rfl; apply w_gU; rfl; apply w_gU; rfl; apply w_gU; rfl; apply w_gU; rfl; apply w_gU; rfl; apply w_gF; rfl; apply w_pickFb; rfl; rfl; apply w_mvi; rfl; apply w_mvb; rfl; apply w_done0; apply w_ret)
    refine finQ2 (by rw [← hlo]; rfl) (by rw [decide_eq_false hmem]; rfl)
def KeyOk (P : Program) (f : FuncId) : Prop := ∀ {d : PHeap} {cs : List Value} {v : V} {k : List UInt8}, RVal d cs v → rising v.keys = true → GPure P f [.agg cs.toArray, strV k] d (.int .i64 (if k ∈ v.keys then (lowK v.keys k : Int) else -1))
def g_thimbleref08_key : GFun :=
 ⟨21, [(.tmp 4)],
 (.seq
 (.reg false (.op false ⟨(some 2), none, (.box (.tmp 0))⟩
  (.op false ⟨(some 4), none, (.mv (.const (.int .i64 0)))⟩ .done)))
 (.seq (.seq
 (.reg false (.op false ⟨(some 5), none, (.mv (.const (.int .i64 0)))⟩ .done)) (.block 0 (.loop
 (.seq (.seq
 (.reg false (.op false ⟨(some 6), none, (.mv (.tmp 5))⟩
  (.op false ⟨(some 7), none, (.fld 5 (.tmp 2))⟩
  (.op false ⟨(some 8), none, (.ld none (.tmp 7))⟩
  (.op false ⟨(some 9), none, (.len (.tmp 8))⟩
  (.op false ⟨(some 10), none, (.bin .lss (.tmp 6) (.tmp 9))⟩ .done)))))) (.cond (.tmp 10) .skip (.exit 0)))
 (.seq (.block 1
 (.seq
 (.reg false (.op false ⟨(some 13), none, (.fld 5 (.tmp 2))⟩
  (.op false ⟨(some 14), none, (.ld none (.tmp 13))⟩
  (.op false ⟨(some 15), none, (.mv (.tmp 5))⟩
  (.op false ⟨(some 16), none, (.idx 1 (.tmp 14) (.tmp 15))⟩
  (.op false ⟨(some 17), none, (.ld none (.tmp 16))⟩
  (.op false ⟨(some 18), none, (.mv (.tmp 1))⟩
  (.op false ⟨(some 19), none, (.bin .eql (.tmp 17) (.tmp 18))⟩ .done)))))))) (.cond (.tmp 19)
 (.seq
 (.reg false (.op false ⟨(some 20), none, (.mv (.tmp 5))⟩
  (.op false ⟨(some 4), none, (.mv (.tmp 20))⟩ .done))) .ret) .skip)))
 (.reg false (.op false ⟨(some 11), none, (.mv (.tmp 5))⟩
  (.op false ⟨(some 12), none, (.bin .add (.tmp 11) (.const (.int .i64 1)))⟩
  (.op false ⟨(some 5), none, (.mv (.tmp 12))⟩ .done)))))))))
 (.seq
 (.reg false (.op false ⟨(some 4), none, (.mv (.const (.int .i64 (-1))))⟩ .done)) .ret)))⟩

theorem key_ok {P : Program} {f : FuncId} (hd : dec P f = some g_thimbleref08_key) : KeyOk P f := by
  intro d cs v k hv hr
  refine GPure.of' hd (Nat.le_of_ble_eq_true rfl) ?_
  obtain ⟨lv, kv, rfl, ik, im, ie, it, hl, hks⟩ := hv.open
  obtain ⟨ka, kc, rfl⟩ := RSl.val hks
  have hks' : RSl 1 RStr d (.slice ka v.keys.length kc) v.keys := hks
  have n2 := RSl.len_le hks
  show gwp P _ _ _ _ _
  apply w_sq; apply w_reg
  refine w_boxa (l := [.int .i64 v.kind, .int .i64 v.m, .int .i64 v.e, strV v.text, lv, .slice ka v.keys.length kc]) rfl (fun b2 T2 => ?_)
  (apply w_mvi; rfl; apply w_done0; apply w_sq; apply w_sq; apply w_reg; apply w_mvi; rfl; apply w_done0; apply w_block)
  refine w_loopN (α := Nat) (fun i => [(1, strV k), (2, .pointer (some ⟨b2, 0, none⟩)), (5, .int .i64 i)]) (fun _ => [bx b2 T2 [.int .i64 v.kind, .int .i64 v.m, .int .i64 v.e, strV v.text, lv, .slice ka v.keys.length kc]])
    (fun i => i ≤ v.keys.length ∧ ∀ j (hj : j < v.keys.length), j < i → v.keys[j] ≠ k) (fun i => v.keys.length - i) 0 ⟨rfl, rfl, rfl, trivial⟩ rfl ⟨Nat.zero_le _, fun j _ h => absurd h (Nat.not_lt_zero j)⟩ ?_
  rintro i ρ ⟨hi, hno⟩
  by_cases hc : i < v.keys.length
  · by_cases he : v.keys[i] = k
    · (apply w_sq; apply w_sq; apply w_reg; apply w_mvi; rfl; apply w_fld; rfl; apply w_ld; rfl; exact hc_i 0 rfl rfl; apply w_len; rfl; apply w_lss; rfl; rfl; apply w_done0; refine w_ifdT rfl (by omega) ?_; apply w_skip; apply w_sq; apply w_block; apply w_sq; apply w_reg; apply w_fld; rfl; apply w_ld; rfl; exact hc_i 0 rfl rfl; apply w_mvi; rfl; refine w_idxR (sz := 1) (R := RStr) (by rfl) (by assumption) (by rfl) rfl (by omega) ?_; rintro _ _ _ _ _ ⟨rfl, _⟩; apply w_ld; rfl; exact hc_ds0 (by assumption) rfl; apply w_mvt; rfl; apply w_seq; rfl; rfl; apply w_done0; refine w_ifdT rfl (by omega) ?_; apply w_sq; apply w_reg; apply w_mvi; rfl; apply w_mvi; rfl; apply w_done0; apply w_ret)
      apply finQi; rfl
      rw [if_pos (by rw [← he]; exact List.getElem_mem hc), mem_low hr hc he]
    · (apply w_sq; apply w_sq; apply w_reg; apply w_mvi; rfl; apply w_fld; rfl; apply w_ld; rfl; exact hc_i 0 rfl rfl; apply w_len; rfl; apply w_lss; rfl; rfl; apply w_done0; refine w_ifdT rfl (by omega) ?_; apply w_skip; apply w_sq; apply w_block; apply w_sq; apply w_reg; apply w_fld; rfl; apply w_ld; rfl; exact hc_i 0 rfl rfl; apply w_mvi; rfl; refine w_idxR (sz := 1) (R := RStr) (by rfl) (by assumption) (by rfl) rfl (by omega) ?_; rintro _ _ _ _ _ ⟨rfl, _⟩; apply w_ld; rfl; exact hc_ds0 (by assumption) rfl; apply w_mvt; rfl; apply w_seq; rfl; rfl; apply w_done0; refine w_ifdF rfl (by omega) ?_; apply w_skip; apply w_reg; apply w_mvi; rfl; apply w_add; rfl; rfl; omega; omega; apply w_mvi; rfl; apply w_done0)
      refine ⟨i + 1, by omega, ⟨rfl, rfl, int_eq (by omega), trivial⟩, rfl, rfl, hc, fun j hj hji => ?_⟩
      by_cases e : j = i
      · subst e; exact he
      · exact hno j hj (by omega)
  · (apply w_sq; apply w_sq; apply w_reg; apply w_mvi; rfl; apply w_fld; rfl; apply w_ld; rfl; exact hc_i 0 rfl rfl; apply w_len; rfl; apply w_lss; rfl; rfl; apply w_done0; refine w_ifdF rfl (by omega) ?_; apply w_exit; apply w_sq; apply w_reg; apply w_mvi; rfl; apply w_done0; apply w_ret)
    apply finQi; rfl
    rw [if_neg (fun h => ?_)]
    obtain ⟨j, hj, e⟩ := List.getElem_of_mem h
    exact hno j hj (by omega) e
end Go.Gk.Val
end

section
/-
  Keys that rise, maps that are made key by key, what may be: plain.
-/
namespace Go.Gk.Val
open Go Go.Gk Go.Gk.Utf

theorem riseN_iff {ks : List (List UInt8)} : ∀ {m : Nat}, riseN ks m = true ↔ ∀ i, i < m → rise1 ks i = true
  | 0 => by simp [riseN]
  | m + 1 => by
    rw [riseN, Bool.and_eq_true, riseN_iff]
    constructor
    · rintro ⟨h1, h2⟩ i hi
      rcases Nat.lt_succ_iff_lt_or_eq.1 hi with h | rfl
      · exact h1 i h
      · exact h2
    · intro h
      exact ⟨fun i hi => h i (by omega), h m (by omega)⟩
abbrev Rise (ks : List (List UInt8)) : Prop := ks.Pairwise fun a b => Op.bytesLess a b = true
theorem rising_iff {ks : List (List UInt8)} : rising ks = true ↔ (∀ k ∈ ks, u8 k = true) ∧ Rise ks := by
  constructor
  · intro h
    refine ⟨fun k hk => ?_, ?_⟩
    · obtain ⟨i, hi, rfl⟩ := List.getElem_of_mem hk
      have := riseN_iff.1 h i hi
      rw [rise1, Bool.and_eq_true] at this
      simpa [List.getD, hi] using this.1
    · rw [Rise, List.pairwise_iff_getElem]
      intro i j hi hj hij
      exact rise_lt h hj hij
  · rintro ⟨h1, h2⟩
    rw [Rise, List.pairwise_iff_getElem] at h2
    refine riseN_iff.2 fun i hi => ?_
    rw [rise1, Bool.and_eq_true]
    refine ⟨by simpa [List.getD, hi] using h1 _ (List.getElem_mem hi), ?_⟩
    cases i with
    | zero => rfl
    | succ i =>
      have := h2 i (i + 1) (by omega) hi (by omega)
      have hi' : i < ks.length := by omega
      simpa [List.getD, hi, hi'] using this
theorem rising_sub {ks ls : List (List UInt8)} (h : rising ks = true) (hs : ls.Sublist ks) : rising ls = true := by
  rw [rising_iff] at h ⊢
  exact ⟨fun k hk => h.1 k (hs.subset hk), h.2.sublist hs⟩
theorem rise_nodup {ks : List (List UInt8)} (h : Rise ks) : ks.Nodup := h.imp fun {a b} hab e => by subst e; rw [bl_irrefl] at hab; cases hab
theorem low_lt : ∀ {ks : List (List UInt8)} {k : List UInt8} {j : Nat} (h : j < lowK ks k) (hj : j < ks.length), Op.bytesLess ks[j] k = true
  | [], _, _, _, hj => absurd hj (Nat.not_lt_zero _)
  | a :: ks, k, j, h, hj => by
    unfold lowK at h
    rw [List.takeWhile_cons] at h
    by_cases e : Op.bytesLess a k = true
    · rw [if_pos e, List.length_cons] at h
      cases j with
      | zero => exact e
      | succ j => exact low_lt (ks := ks) (by unfold lowK; omega) (by simpa using hj)
    · rw [if_neg e] at h; exact absurd h (Nat.not_lt_zero _)
theorem low_at : ∀ {ks : List (List UInt8)} {k : List UInt8} (hj : lowK ks k < ks.length), Op.bytesLess ks[lowK ks k] k = false
  | [], _, hj => absurd hj (Nat.not_lt_zero _)
  | a :: ks, k, hj => by
    by_cases e : Op.bytesLess a k = true
    · have h0 : lowK (a :: ks) k = lowK ks k + 1 := by unfold lowK; rw [List.takeWhile_cons, if_pos e, List.length_cons]
      have hj' : lowK ks k < ks.length := by rw [h0] at hj; simpa using hj
      have := low_at hj'
      simp only [h0, List.getElem_cons_succ]
      exact this
    · have h0 : lowK (a :: ks) k = 0 := by unfold lowK; rw [List.takeWhile_cons, if_neg e]; rfl
      simp only [h0, List.getElem_cons_zero]
      simpa using e
def insK (o : List (List UInt8) × List V) (k : List UInt8) (x : V) : List (List UInt8) × List V :=
  if o.1[lowK o.1 k]? = some k then (o.1, o.2.set (lowK o.1 k) x)
  else (o.1.take (lowK o.1 k) ++ [k] ++ o.1.drop (lowK o.1 k), (o.2.take (lowK o.1 k) ++ [x] ++ o.2.drop (lowK o.1 k)).set (lowK o.1 k) x)
def makeL (ks : List (List UInt8)) (l : List V) : Nat → List (List UInt8) × List V
  | 0 => ([], [])
  | n + 1 => insK (makeL ks l n) (ks.getD n []) (l.getD n V.zero)
theorem ins_len {o : List (List UInt8) × List V} (h : o.1.length = o.2.length) (k : List UInt8) (x : V) : (insK o k x).1.length = (insK o k x).2.length ∧ (insK o k x).1.length ≤ o.1.length + 1 := by
  have := lowK_le o.1 k
  unfold insK
  split
  · simp [h]
  · simp; omega
theorem make_len (ks : List (List UInt8)) (l : List V) : ∀ n, (makeL ks l n).1.length = (makeL ks l n).2.length ∧ (makeL ks l n).1.length ≤ n
  | 0 => ⟨rfl, Nat.le_refl _⟩
  | n + 1 => by
    have ih := make_len ks l n
    have := ins_len ih.1 (ks.getD n []) (l.getD n V.zero)
    exact ⟨this.1, by have := this.2; have := ih.2; rw [makeL]; omega⟩

/-! ### what may be -/
theorem may_one {v : V} (h : mayV v = true) : oneB v = true := by rw [mayV_eq, Bool.and_eq_true] at h; exact h.1
theorem may_mem {v x : V} (h : mayV v = true) (hx : x ∈ v.list) : mayV x = true := by rw [mayV_eq, Bool.and_eq_true, List.all_eq_true] at h; exact h.2 x hx
theorem may_list {l : List V} (h : ∀ x ∈ l, mayV x = true) : mayV (.mk 5 0 0 [] l []) = true := by
  rw [mayV_eq, Bool.and_eq_true, List.all_eq_true]
  exact ⟨by simp [oneB, bareB, V.kind, V.m, V.e, V.text, V.list, V.keys, numRight, u8, Lib.validD_nil, rising, riseN], h⟩
theorem may_map {l : List V} {ks : List (List UInt8)} (hr : rising ks = true) (hl : ks.length = l.length) (h : ∀ x ∈ l, mayV x = true) : mayV (.mk 6 0 0 [] l ks) = true := by
  rw [mayV_eq, Bool.and_eq_true, List.all_eq_true]
  refine ⟨?_, h⟩
  simp [oneB, bareB, V.kind, V.m, V.e, V.text, V.list, V.keys, numRight, u8, Lib.validD_nil]
  exact ⟨hr, hl⟩
theorem depth_mk {k m e : Int} {t : List UInt8} {l : List V} {ks : List (List UInt8)} {n : Nat} (h : ∀ x ∈ l, depthV x ≤ n) : depthV (.mk k m e t l ks) ≤ n + 1 := depth_le.2 h
theorem right_iff {v : V} : rightV v = 0 ↔ mayV v = true ∧ depthV v ≤ 48 := by
  unfold rightV
  constructor
  · intro h
    by_cases h1 : depthV v ≤ 48
    · rw [if_pos h1] at h
      by_cases h2 : mayV v = true
      · exact ⟨h2, h1⟩
      · rw [if_neg h2] at h; cases h
    · rw [if_neg h1] at h; cases h
  · rintro ⟨h1, h2⟩
    rw [if_pos h2, if_pos h1]
theorem i64_0 : I64 0 := ⟨by decide, by decide⟩
theorem i64_4 : I64 4 := ⟨by decide, by decide⟩
theorem i64_5 : I64 5 := ⟨by decide, by decide⟩
theorem i64_6 : I64 6 := ⟨by decide, by decide⟩
abbrev zVal : List Value := [.int .i64 0, .int .i64 0, .int .i64 0, strV [], .slice none 0 0, .slice none 0 0]
theorem finVDE {ρ : Env} {d : PHeap} {L : List PHeap} {b t u : Nat} {T : TypeId} {cs : List Value} {w : V} {e : Int} (i : Nat) (e4 : ρ t = .pointer (some ⟨b, 0, none⟩)) (hi : L[i]? = some (bx b T cs)) (e5 : ρ u = .int .i64 e) (hw : RVal d cs w) :
    retPost [.cell t (some 6), .tmp u] (Ret fun r d' L' => L' = [] ∧ ∃ cs', r = .tuple #[.agg cs'.toArray, .int .i64 e] ∧ RVal d' cs' w) ρ d L :=
  finS (L' := []) [.agg cs.toArray, .int .i64 e] ⟨res_cell i e4 hi (RVal.len hw), res_tmp e5, trivial⟩ (List.nil_sublist _) ⟨rfl, cs, rfl, hw⟩
end Go.Gk.Val
end

section
/-
  Ways: cuts; what a step gives.
-/
namespace Go.Gk.Val
open Go Go.Gk Go.Gk.Utf
attribute [local irreducible] gwp gws

def CutOk {α : Type} (sz : Nat) (R : PHeap → List Value → α → Prop) (P : Program) (f : FuncId) : Prop := ∀ {d : PHeap} {v w : Value} {xs ys : List α} {i j : Nat}, RSl sz R d v xs → RSl sz R d w ys → i ≤ j → j ≤ xs.length → xs.length + ys.length ≤ 1000000001 →
  GCall P f [v, .int .i64 i, .int .i64 j, w] d [] (Ret fun r d' L' => L' = [] ∧ RSl sz R d' r (xs.take i ++ ys ++ xs.drop j))
def g_steps_cut_string : GFun :=
 ⟨31, [(.tmp 8)],
 (.seq
 (.reg false (.op false ⟨(some 8), none, (.mv (.const (.slice none 0 0)))⟩ .done))
 (.seq
 (.reg false (.op false ⟨(some 10), none, (.mv (.tmp 0))⟩
  (.op false ⟨(some 11), none, (.len (.tmp 10))⟩
  (.op false ⟨(some 12), none, (.mv (.tmp 2))⟩
  (.op false ⟨(some 13), none, (.bin .sub (.tmp 11) (.tmp 12))⟩
  (.op false ⟨(some 14), none, (.mv (.tmp 1))⟩
  (.op false ⟨(some 15), none, (.bin .add (.tmp 13) (.tmp 14))⟩
  (.op false ⟨(some 16), none, (.mv (.tmp 3))⟩
  (.op false ⟨(some 17), none, (.len (.tmp 16))⟩
  (.op false ⟨(some 18), none, (.bin .add (.tmp 15) (.tmp 17))⟩
  (.op false ⟨(some 19), none, (.mks 1 16 [(strV [])] (.const (.int .i64 0)) (.tmp 18))⟩
  (.op false ⟨(some 9), none, (.mv (.tmp 19))⟩ .done))))))))))))
 (.seq
 (.reg true (.op true ⟨(some 20), none, (.mv (.tmp 9))⟩
  (.op true ⟨(some 21), none, (.mv (.tmp 0))⟩
  (.op true ⟨(some 22), none, (.mv (.tmp 1))⟩
  (.op true ⟨(some 23), none, (.sl 1 (.tmp 21) none (some (.tmp 22)) none)⟩
  (.op true ⟨(some 25), none, (.mv (.tmp 3))⟩
  (.op true ⟨(some 27), none, (.mv (.tmp 0))⟩
  (.op true ⟨(some 28), none, (.mv (.tmp 2))⟩
  (.op true ⟨(some 29), none, (.sl 1 (.tmp 27) (some (.tmp 28)) none none)⟩
  (.op false ⟨(some 24), none, (.app 1 16 [(strV [])] (.tmp 20) (.tmp 23))⟩
  (.op false ⟨(some 26), none, (.app 1 16 [(strV [])] (.tmp 24) (.tmp 25))⟩
  (.op false ⟨(some 30), none, (.app 1 16 [(strV [])] (.tmp 26) (.tmp 29))⟩
  (.bar (.op true ⟨(some 8), none, (.mv (.tmp 30))⟩ .done)))))))))))))) .ret)))⟩

theorem cut_string {P : Program} {f : FuncId} (hd : dec P f = some g_steps_cut_string) : CutOk 1 RStr P f := by
  intro d v w xs ys i j hv hw hij hj hb
  have n1 := RSl.len_le hv
  have n2 := RSl.len_le hw
  have hv' := hv
  obtain ⟨a, c, rfl⟩ := RSl.val hv
  obtain ⟨a2, c2, rfl⟩ := RSl.val hw
  refine GCall_of hd (Nat.le_of_ble_eq_true rfl) ?_
  show gwp P _ _ _ _ _
  (apply w_sq; apply w_reg; apply w_mvs; rfl; apply w_done0; apply w_sq; apply w_reg; apply w_mvs; rfl; apply w_len; rfl; apply w_mvi; rfl; apply w_sub; rfl; rfl; omega; omega; apply w_mvi; rfl; apply w_add; rfl; rfl; omega; omega; apply w_mvs; rfl; apply w_len; rfl; apply w_add; rfl; rfl; omega; omega)
  refine w_mks (n := 0) (c := xs.length - j + i + ys.length) rfl (int_eq (by omega)) (by omega) (by omega) (by omega) (fun b9 T9 => ?_)
  have o0 : GRow 1 RStr d (.slice (some ⟨b9, 0, none⟩) 0 (xs.length - j + i + ys.length)) [] (bx b9 T9 (zrow [strV []] ((xs.length - j + i + ys.length) * 1))) :=
    ⟨[], ORow.mk rfl (by simp) (Nat.zero_le _) (by omega) (by simp [zrow]) rfl, fun i hi => absurd hi (Nat.not_lt_zero i)⟩
  (apply w_mvs; rfl; apply w_done0; apply w_sq)
  refine w_drawnA [] [_] rfl ?_
  (apply w_mvs; rfl; apply w_mvs; rfl; apply w_mvi; rfl)
  refine w_slTo (n := i) rfl hv' rfl rfl (by omega) (fun v23 hv23 => ?_)
  (apply w_mvs; rfl; apply w_mvs; rfl; apply w_mvi; rfl)
  refine w_slFrom (n := j) rfl hv' rfl rfl (by omega) (fun v29 hv29 => ?_)
  refine w_appG (R := RStr) (xs := []) (ys := xs.take i) 0 rfl rfl o0 rfl (RSl.src (R := RStr) hv23 cell1_str (by omega) _) (by omega) (by simp; omega) (by simp; omega) (fun v5 h5 hrow5 => ?_)
  refine w_appG (R := RStr) (xs := [] ++ xs.take i) (ys := ys) 0 rfl rfl hrow5 rfl (RSl.src (R := RStr) hw cell1_str (by omega) _) (by omega) (by simp; omega) (by simp; omega) (fun v6 h6 hrow6 => ?_)
  refine w_appG (R := RStr) (xs := [] ++ xs.take i ++ ys) (ys := xs.drop j) 0 rfl rfl hrow6 rfl (RSl.src (R := RStr) hv29 cell1_str (by omega) _) (by omega) (by simp; omega) (by simp; omega) (fun v7 h7 hrow7 => ?_)
  obtain ⟨a7, c7, rfl⟩ := hrow7.val
  (apply w_bar; apply w_mvs; rfl; apply w_done0; apply w_ret)
  exact fin1F rfl (fun d' hl hk => ⟨rfl, hrow7.rsl (R := RStr) mono_str (by omega) hl (hk _ (by simp))⟩)
def g_steps_cut_api_Value : GFun :=
 ⟨31, [(.tmp 8)],
 (.seq
 (.reg false (.op false ⟨(some 8), none, (.mv (.const (.slice none 0 0)))⟩ .done))
 (.seq
 (.reg false (.op false ⟨(some 10), none, (.mv (.tmp 0))⟩
  (.op false ⟨(some 11), none, (.len (.tmp 10))⟩
  (.op false ⟨(some 12), none, (.mv (.tmp 2))⟩
  (.op false ⟨(some 13), none, (.bin .sub (.tmp 11) (.tmp 12))⟩
  (.op false ⟨(some 14), none, (.mv (.tmp 1))⟩
  (.op false ⟨(some 15), none, (.bin .add (.tmp 13) (.tmp 14))⟩
  (.op false ⟨(some 16), none, (.mv (.tmp 3))⟩
  (.op false ⟨(some 17), none, (.len (.tmp 16))⟩
  (.op false ⟨(some 18), none, (.bin .add (.tmp 15) (.tmp 17))⟩
  (.op false ⟨(some 19), none, (.mks 6 88 [(.int .i64 0), (.int .i64 0), (.int .i64 0), (strV []), (.slice none 0 0), (.slice none 0 0)] (.const (.int .i64 0)) (.tmp 18))⟩
  (.op false ⟨(some 9), none, (.mv (.tmp 19))⟩ .done))))))))))))
 (.seq
 (.reg true (.op true ⟨(some 20), none, (.mv (.tmp 9))⟩
  (.op true ⟨(some 21), none, (.mv (.tmp 0))⟩
  (.op true ⟨(some 22), none, (.mv (.tmp 1))⟩
  (.op true ⟨(some 23), none, (.sl 6 (.tmp 21) none (some (.tmp 22)) none)⟩
  (.op true ⟨(some 25), none, (.mv (.tmp 3))⟩
  (.op true ⟨(some 27), none, (.mv (.tmp 0))⟩
  (.op true ⟨(some 28), none, (.mv (.tmp 2))⟩
  (.op true ⟨(some 29), none, (.sl 6 (.tmp 27) (some (.tmp 28)) none none)⟩
  (.op false ⟨(some 24), none, (.app 6 88 [(.int .i64 0), (.int .i64 0), (.int .i64 0), (strV []), (.slice none 0 0), (.slice none 0 0)] (.tmp 20) (.tmp 23))⟩
  (.op false ⟨(some 26), none, (.app 6 88 [(.int .i64 0), (.int .i64 0), (.int .i64 0), (strV []), (.slice none 0 0), (.slice none 0 0)] (.tmp 24) (.tmp 25))⟩
  (.op false ⟨(some 30), none, (.app 6 88 [(.int .i64 0), (.int .i64 0), (.int .i64 0), (strV []), (.slice none 0 0), (.slice none 0 0)] (.tmp 26) (.tmp 29))⟩
  (.bar (.op true ⟨(some 8), none, (.mv (.tmp 30))⟩ .done)))))))))))))) .ret)))⟩

theorem cut_api_Value {P : Program} {f : FuncId} (hd : dec P f = some g_steps_cut_api_Value) : CutOk 6 RVal P f := by
  intro d v w xs ys i j hv hw hij hj hb
  have n1 := RSl.len_le hv
  have n2 := RSl.len_le hw
  have hv' := hv
  obtain ⟨a, c, rfl⟩ := RSl.val hv
  obtain ⟨a2, c2, rfl⟩ := RSl.val hw
  refine GCall_of hd (Nat.le_of_ble_eq_true rfl) ?_
  show gwp P _ _ _ _ _
  (apply w_sq; apply w_reg; apply w_mvs; rfl; apply w_done0; apply w_sq; apply w_reg; apply w_mvs; rfl; apply w_len; rfl; apply w_mvi; rfl; apply w_sub; rfl; rfl; omega; omega; apply w_mvi; rfl; apply w_add; rfl; rfl; omega; omega; apply w_mvs; rfl; apply w_len; rfl; apply w_add; rfl; rfl; omega; omega)
  refine w_mks (n := 0) (c := xs.length - j + i + ys.length) rfl (int_eq (by omega)) (by omega) (by omega) (by omega) (fun b9 T9 => ?_)
  have o0 : GRow 6 RVal d (.slice (some ⟨b9, 0, none⟩) 0 (xs.length - j + i + ys.length)) [] (bx b9 T9 (zrow [.int .i64 0,.int .i64 0,.int .i64 0,strV [],.slice none 0 0,.slice none 0 0] ((xs.length - j + i + ys.length) * 6))) :=
    ⟨[], ORow.mk rfl (by simp) (Nat.zero_le _) (by omega) (by simp [zrow]) rfl, fun i hi => absurd hi (Nat.not_lt_zero i)⟩
  (apply w_mvs; rfl; apply w_done0; apply w_sq)
  refine w_drawnA [] [_] rfl ?_
  (apply w_mvs; rfl; apply w_mvs; rfl; apply w_mvi; rfl)
  refine w_slTo (n := i) rfl hv' rfl rfl (by omega) (fun v23 hv23 => ?_)
  (apply w_mvs; rfl; apply w_mvs; rfl; apply w_mvi; rfl)
  refine w_slFrom (n := j) rfl hv' rfl rfl (by omega) (fun v29 hv29 => ?_)
  refine w_appG (R := RVal) (xs := []) (ys := xs.take i) 0 rfl rfl o0 rfl (RSl.src (R := RVal) hv23 cell1_val (by omega) _) (by omega) (by simp; omega) (by simp; omega) (fun v5 h5 hrow5 => ?_)
  refine w_appG (R := RVal) (xs := [] ++ xs.take i) (ys := ys) 0 rfl rfl hrow5 rfl (RSl.src (R := RVal) hw cell1_val (by omega) _) (by omega) (by simp; omega) (by simp; omega) (fun v6 h6 hrow6 => ?_)
  refine w_appG (R := RVal) (xs := [] ++ xs.take i ++ ys) (ys := xs.drop j) 0 rfl rfl hrow6 rfl (RSl.src (R := RVal) hv29 cell1_val (by omega) _) (by omega) (by simp; omega) (by simp; omega) (fun v7 h7 hrow7 => ?_)
  obtain ⟨a7, c7, rfl⟩ := hrow7.val
  (apply w_bar; apply w_mvs; rfl; apply w_done0; apply w_ret)
  exact fin1F rfl (fun d' hl hk => ⟨rfl, hrow7.rsl (R := RVal) mono_val (by omega) hl (hk _ (by simp))⟩)

/-! ### what a step gives -/
def nthV (l : List V) (i : Int) : V := if 0 ≤ i ∧ i < l.length then l.getD i.toNat V.zero else V.zero
def midL {α : Type} (l : List α) (ab : Int × Int) : List α := (l.drop ab.1.toNat).take (ab.2.toNat - ab.1.toNat)
def intoF (v : V) (s : St) : V × Int :=
  if v.kind = 0 then (V.zero, 0)
  else if s.kind = 0 ∧ v.kind = 6 then (if s.text ∈ v.keys then v.list.getD (lowK v.keys s.text) V.zero else V.zero, 0)
  else if s.kind = 1 ∧ v.kind = 5 then (nthV v.list (placeF s.src v.list.length), 0)
  else if s.kind = 2 ∧ v.kind = 5 then (.mk 5 0 0 [] (midL v.list (endsF s v.list.length)) [], 0)
  else if s.kind = 2 ∧ v.kind = 4 then (.mk 4 0 0 (midL (chs v.text) (endsF s (chs v.text).length)).flatten [] [], 0)
  else (V.zero, 80)
theorem one_rising {v : V} (h : oneB v = true) : rising v.keys = true := by simp [oneB] at h; exact h.1.2
theorem one_u8 {v : V} (h : oneB v = true) : u8 v.text = true := by simp [oneB] at h; exact h.1.1.2
theorem one_keys {v : V} (h : oneB v = true) (hk : v.kind = 6) : v.keys.length = v.list.length := by
  simp [oneB] at h
  rcases h.2 with h | h
  · exact absurd hk h
  · exact h
theorem finVE {ρ : Env} {d d0 : PHeap} {L : List PHeap} {b t u : Nat} {T : TypeId} {cs : List Value} {w : V} {e : Int} (i : Nat) (e4 : ρ t = .pointer (some ⟨b, 0, none⟩)) (hi : L[i]? = some (bx b T cs)) (e5 : ρ u = .int .i64 e) (hw : RVal d0 cs w) :
    retPost [.cell t (some 6), .tmp u] (Ret fun r _ L' => L' = [] ∧ ∃ cs', r = .tuple #[.agg cs'.toArray, .int .i64 e] ∧ RVal d0 cs' w) ρ d L :=
  finS (L' := []) [.agg cs.toArray, .int .i64 e] ⟨res_cell i e4 hi (RVal.len hw), res_tmp e5, trivial⟩ (List.nil_sublist _) ⟨rfl, cs, rfl, hw⟩
theorem rsl_runes {d : PHeap} {l : List UInt8} {b c : Nat} {T : TypeId} (h1 : (runesL l).length ≤ 140737488355328) (h2 : (runesL l).length ≤ c) (h3 : c ≤ maxLen) (h4 : Le (bx b T (runesL l ++ List.replicate (c - (runesL l).length) (.int .i32 0))) d) :
    RSl 1 RRune d (.slice (some ⟨b, 0, none⟩) (runesL l).length c) (rns l) := by
  have hl : (runesL l).length = (rns l).length := by rw [runesL_eq]; simp
  have o : ORow 1 (.slice (some ⟨b, 0, none⟩) (runesL l).length c) (runesL l).length (runesL l) (bx b T (runesL l ++ List.replicate (c - (runesL l).length) (.int .i32 0))) :=
    ORow.mk (by omega) h1 h2 (by simp only [maxLen] at h3; omega) (by simp; omega) (by simp)
  refine o.rsl1 h4 hl (fun i hi => ⟨.int .i32 (rns l)[i], ?_, rfl⟩)
  rw [runesL_eq]; simp [hi]
def IntoOk (P : Program) (f : FuncId) : Prop := ∀ {d : PHeap} {cs ds : List Value} {v : V} {s : St}, RVal d cs v → oneB v = true → v.text.length ≤ 1000000000 → RSt d ds s →
  GCall P f [.agg cs.toArray, .agg ds.toArray] d [] (Ret fun r d' L' => d' = d ∧ L' = [] ∧ ∃ cs', r = .tuple #[.agg cs'.toArray, .int .i64 (intoF v s).2] ∧ RVal d cs' (intoF v s).1)
def g_steps_into (f_slices_BinarySearch_string_string f_steps_place f_steps_ends : Nat) : GFun :=
 ⟨122, [(.cell 4 (some 6)), (.tmp 5)],
 (.seq
 (.reg false (.op false ⟨(some 2), none, (.box (.tmp 0))⟩
  (.op false ⟨(some 3), none, (.box (.tmp 1))⟩
  (.op false ⟨(some 4), none, (.alo (.agg #[(.int .i64 0), (.int .i64 0), (.int .i64 0), (strV []), (.slice none 0 0), (.slice none 0 0)]))⟩
  (.op false ⟨(some 5), none, (.mv (.const (.int .i64 0)))⟩ .done)))))
 (.seq (.block 0
 (.seq
 (.reg false (.op false ⟨(some 15), none, (.fld 0 (.tmp 2))⟩
  (.op false ⟨(some 16), none, (.ld none (.tmp 15))⟩
  (.op false ⟨(some 17), none, (.bin .eql (.tmp 16) (.const (.int .i64 0)))⟩
  (.op false ⟨(some 14), none, (.mv (.tmp 17))⟩ .done))))) (.cond (.tmp 14)
 (.seq
 (.reg false (.op false ⟨(some 18), none, (.bld [(0, 1), (1, 2), (3, 1), (4, 1), (5, 1)] [(.int .i64 0), (.int .i64 0), (.int .i64 0), (strV []), (.slice none 0 0), (.slice none 0 0)] [])⟩
  (.op false ⟨none, none, (.st 6 (.tmp 4) (.tmp 18))⟩
  (.op false ⟨(some 5), none, (.mv (.const (.int .i64 0)))⟩ .done)))) .ret)
 (.seq
 (.reg false (.op false ⟨(some 20), none, (.fld 0 (.tmp 3))⟩
  (.op false ⟨(some 21), none, (.ld none (.tmp 20))⟩
  (.op false ⟨(some 22), none, (.bin .eql (.tmp 21) (.const (.int .i64 0)))⟩
  (.op false ⟨(some 23), none, (.mv (.tmp 22))⟩
  (.op false ⟨(some 24), (some (23, true)), (.fld 0 (.tmp 2))⟩
  (.op false ⟨(some 25), (some (23, true)), (.ld none (.tmp 24))⟩
  (.op false ⟨(some 26), (some (23, true)), (.bin .eql (.tmp 25) (.const (.int .i64 6)))⟩
  (.op false ⟨(some 27), none, (.pick (.tmp 23) (.tmp 26) (.const (.bool false)))⟩
  (.op false ⟨(some 19), none, (.mv (.tmp 27))⟩ .done)))))))))) (.cond (.tmp 19)
 (.seq (.seq
 (.reg false (.op false ⟨(some 29), none, (.fld 5 (.tmp 2))⟩
  (.op false ⟨(some 30), none, (.ld none (.tmp 29))⟩
  (.op false ⟨(some 31), none, (.fld 1 (.tmp 3))⟩
  (.op false ⟨(some 32), none, (.ld none (.tmp 31))⟩
  (.op false ⟨(some 33), none, (.call f_slices_BinarySearch_string_string [(.tmp 30), (.tmp 32)])⟩
  (.op false ⟨(some 28), none, (.mv (.tmp 33))⟩
  (.op false ⟨(some 34), none, (.ext (.tmp 28) 0)⟩
  (.op false ⟨(some 35), none, (.ext (.tmp 28) 1)⟩
  (.op false ⟨(some 6), none, (.mv (.tmp 34))⟩
  (.op false ⟨(some 7), none, (.mv (.tmp 35))⟩ .done)))))))))))
 (.seq
 (.reg false (.op false ⟨(some 36), none, (.mv (.tmp 7))⟩ .done)) (.cond (.tmp 36)
 (.seq
 (.reg false (.op false ⟨(some 37), none, (.fld 4 (.tmp 2))⟩
  (.op false ⟨(some 38), none, (.ld none (.tmp 37))⟩
  (.op false ⟨(some 39), none, (.mv (.tmp 6))⟩
  (.op false ⟨(some 40), none, (.idx 6 (.tmp 38) (.tmp 39))⟩
  (.op false ⟨(some 41), none, (.ld (some 6) (.tmp 40))⟩
  (.op false ⟨none, none, (.st 6 (.tmp 4) (.tmp 41))⟩
  (.op false ⟨(some 5), none, (.mv (.const (.int .i64 0)))⟩ .done)))))))) .ret) .skip)))
 (.seq
 (.reg false (.op false ⟨(some 42), none, (.bld [(0, 1), (1, 2), (3, 1), (4, 1), (5, 1)] [(.int .i64 0), (.int .i64 0), (.int .i64 0), (strV []), (.slice none 0 0), (.slice none 0 0)] [])⟩
  (.op false ⟨none, none, (.st 6 (.tmp 4) (.tmp 42))⟩
  (.op false ⟨(some 5), none, (.mv (.const (.int .i64 0)))⟩ .done)))) .ret))
 (.seq
 (.reg false (.op false ⟨(some 44), none, (.fld 0 (.tmp 3))⟩
  (.op false ⟨(some 45), none, (.ld none (.tmp 44))⟩
  (.op false ⟨(some 46), none, (.bin .eql (.tmp 45) (.const (.int .i64 1)))⟩
  (.op false ⟨(some 47), none, (.mv (.tmp 46))⟩
  (.op false ⟨(some 48), (some (47, true)), (.fld 0 (.tmp 2))⟩
  (.op false ⟨(some 49), (some (47, true)), (.ld none (.tmp 48))⟩
  (.op false ⟨(some 50), (some (47, true)), (.bin .eql (.tmp 49) (.const (.int .i64 5)))⟩
  (.op false ⟨(some 51), none, (.pick (.tmp 47) (.tmp 50) (.const (.bool false)))⟩
  (.op false ⟨(some 43), none, (.mv (.tmp 51))⟩ .done)))))))))) (.cond (.tmp 43)
 (.seq (.seq
 (.reg false (.op false ⟨(some 52), none, (.fld 2 (.tmp 3))⟩
  (.op false ⟨(some 53), none, (.ld none (.tmp 52))⟩
  (.op false ⟨(some 54), none, (.fld 4 (.tmp 2))⟩
  (.op false ⟨(some 55), none, (.ld none (.tmp 54))⟩
  (.op false ⟨(some 56), none, (.len (.tmp 55))⟩
  (.op false ⟨(some 57), none, (.call f_steps_place [(.tmp 53), (.tmp 56)])⟩
  (.op false ⟨(some 8), none, (.mv (.tmp 57))⟩ .done))))))))
 (.seq
 (.reg false (.op false ⟨(some 58), none, (.mv (.tmp 8))⟩
  (.op false ⟨(some 59), none, (.bin .geq (.tmp 58) (.const (.int .i64 0)))⟩
  (.op false ⟨(some 60), none, (.mv (.tmp 59))⟩
  (.op false ⟨(some 61), (some (60, true)), (.mv (.tmp 8))⟩
  (.op false ⟨(some 62), (some (60, true)), (.fld 4 (.tmp 2))⟩
  (.op false ⟨(some 63), (some (60, true)), (.ld none (.tmp 62))⟩
  (.op false ⟨(some 64), (some (60, true)), (.len (.tmp 63))⟩
  (.op false ⟨(some 65), (some (60, true)), (.bin .lss (.tmp 61) (.tmp 64))⟩
  (.op false ⟨(some 66), none, (.pick (.tmp 60) (.tmp 65) (.const (.bool false)))⟩ .done)))))))))) (.cond (.tmp 66)
 (.seq
 (.reg false (.op false ⟨(some 67), none, (.fld 4 (.tmp 2))⟩
  (.op false ⟨(some 68), none, (.ld none (.tmp 67))⟩
  (.op false ⟨(some 69), none, (.mv (.tmp 8))⟩
  (.op false ⟨(some 70), none, (.idx 6 (.tmp 68) (.tmp 69))⟩
  (.op false ⟨(some 71), none, (.ld (some 6) (.tmp 70))⟩
  (.op false ⟨none, none, (.st 6 (.tmp 4) (.tmp 71))⟩
  (.op false ⟨(some 5), none, (.mv (.const (.int .i64 0)))⟩ .done)))))))) .ret) .skip)))
 (.seq
 (.reg false (.op false ⟨(some 72), none, (.bld [(0, 1), (1, 2), (3, 1), (4, 1), (5, 1)] [(.int .i64 0), (.int .i64 0), (.int .i64 0), (strV []), (.slice none 0 0), (.slice none 0 0)] [])⟩
  (.op false ⟨none, none, (.st 6 (.tmp 4) (.tmp 72))⟩
  (.op false ⟨(some 5), none, (.mv (.const (.int .i64 0)))⟩ .done)))) .ret))
 (.seq
 (.reg false (.op false ⟨(some 74), none, (.fld 0 (.tmp 3))⟩
  (.op false ⟨(some 75), none, (.ld none (.tmp 74))⟩
  (.op false ⟨(some 76), none, (.bin .eql (.tmp 75) (.const (.int .i64 2)))⟩
  (.op false ⟨(some 77), none, (.mv (.tmp 76))⟩
  (.op false ⟨(some 78), (some (77, true)), (.fld 0 (.tmp 2))⟩
  (.op false ⟨(some 79), (some (77, true)), (.ld none (.tmp 78))⟩
  (.op false ⟨(some 80), (some (77, true)), (.bin .eql (.tmp 79) (.const (.int .i64 5)))⟩
  (.op false ⟨(some 81), none, (.pick (.tmp 77) (.tmp 80) (.const (.bool false)))⟩
  (.op false ⟨(some 73), none, (.mv (.tmp 81))⟩ .done)))))))))) (.cond (.tmp 73)
 (.seq
 (.reg false (.op false ⟨(some 83), none, (.ld (some 6) (.tmp 3))⟩
  (.op false ⟨(some 84), none, (.fld 4 (.tmp 2))⟩
  (.op false ⟨(some 85), none, (.ld none (.tmp 84))⟩
  (.op false ⟨(some 86), none, (.len (.tmp 85))⟩
  (.op false ⟨(some 87), none, (.call f_steps_ends [(.tmp 83), (.tmp 86)])⟩
  (.op false ⟨(some 82), none, (.mv (.tmp 87))⟩
  (.op false ⟨(some 88), none, (.ext (.tmp 82) 0)⟩
  (.op false ⟨(some 89), none, (.ext (.tmp 82) 1)⟩
  (.op false ⟨(some 9), none, (.mv (.tmp 88))⟩
  (.op false ⟨(some 10), none, (.mv (.tmp 89))⟩ .done)))))))))))
 (.seq
 (.reg false (.op false ⟨(some 90), none, (.fld 4 (.tmp 2))⟩
  (.op false ⟨(some 91), none, (.ld none (.tmp 90))⟩
  (.op false ⟨(some 92), none, (.mv (.tmp 9))⟩
  (.op false ⟨(some 93), none, (.mv (.tmp 10))⟩
  (.op false ⟨(some 94), none, (.sl 6 (.tmp 91) (some (.tmp 92)) (some (.tmp 93)) none)⟩
  (.op false ⟨(some 95), none, (.bld [(0, 1), (1, 2), (3, 1), (4, 1), (5, 1)] [(.int .i64 0), (.int .i64 0), (.int .i64 0), (strV []), (.slice none 0 0), (.slice none 0 0)] [(0, (.const (.int .i64 5))), (3, (.tmp 94))])⟩
  (.op false ⟨none, none, (.st 6 (.tmp 4) (.tmp 95))⟩
  (.op false ⟨(some 5), none, (.mv (.const (.int .i64 0)))⟩ .done))))))))) .ret))
 (.seq
 (.reg false (.op false ⟨(some 97), none, (.fld 0 (.tmp 3))⟩
  (.op false ⟨(some 98), none, (.ld none (.tmp 97))⟩
  (.op false ⟨(some 99), none, (.bin .eql (.tmp 98) (.const (.int .i64 2)))⟩
  (.op false ⟨(some 100), none, (.mv (.tmp 99))⟩
  (.op false ⟨(some 101), (some (100, true)), (.fld 0 (.tmp 2))⟩
  (.op false ⟨(some 102), (some (100, true)), (.ld none (.tmp 101))⟩
  (.op false ⟨(some 103), (some (100, true)), (.bin .eql (.tmp 102) (.const (.int .i64 4)))⟩
  (.op false ⟨(some 104), none, (.pick (.tmp 100) (.tmp 103) (.const (.bool false)))⟩
  (.op false ⟨(some 96), none, (.mv (.tmp 104))⟩ .done)))))))))) (.cond (.tmp 96)
 (.seq
 (.reg false (.op false ⟨(some 105), none, (.fld 3 (.tmp 2))⟩
  (.op false ⟨(some 106), none, (.ld none (.tmp 105))⟩
  (.op false ⟨(some 107), none, (.s2r (.tmp 106))⟩
  (.op false ⟨(some 11), none, (.mv (.tmp 107))⟩ .done)))))
 (.seq
 (.reg false (.op false ⟨(some 109), none, (.ld (some 6) (.tmp 3))⟩
  (.op false ⟨(some 110), none, (.mv (.tmp 11))⟩
  (.op false ⟨(some 111), none, (.len (.tmp 110))⟩
  (.op false ⟨(some 112), none, (.call f_steps_ends [(.tmp 109), (.tmp 111)])⟩
  (.op false ⟨(some 108), none, (.mv (.tmp 112))⟩
  (.op false ⟨(some 113), none, (.ext (.tmp 108) 0)⟩
  (.op false ⟨(some 114), none, (.ext (.tmp 108) 1)⟩
  (.op false ⟨(some 12), none, (.mv (.tmp 113))⟩
  (.op false ⟨(some 13), none, (.mv (.tmp 114))⟩ .done))))))))))
 (.seq
 (.reg false (.op false ⟨(some 115), none, (.mv (.tmp 11))⟩
  (.op false ⟨(some 116), none, (.mv (.tmp 12))⟩
  (.op false ⟨(some 117), none, (.mv (.tmp 13))⟩
  (.op false ⟨(some 118), none, (.sl 1 (.tmp 115) (some (.tmp 116)) (some (.tmp 117)) none)⟩
  (.op false ⟨(some 119), none, (.r2s (.tmp 118))⟩
  (.op false ⟨(some 120), none, (.bld [(0, 1), (1, 2), (3, 1), (4, 1), (5, 1)] [(.int .i64 0), (.int .i64 0), (.int .i64 0), (strV []), (.slice none 0 0), (.slice none 0 0)] [(0, (.const (.int .i64 4))), (2, (.tmp 119))])⟩
  (.op false ⟨none, none, (.st 6 (.tmp 4) (.tmp 120))⟩
  (.op false ⟨(some 5), none, (.mv (.const (.int .i64 0)))⟩ .done))))))))) .ret))) .skip)))))))))))
 (.seq
 (.reg false (.op false ⟨(some 121), none, (.bld [(0, 1), (1, 2), (3, 1), (4, 1), (5, 1)] [(.int .i64 0), (.int .i64 0), (.int .i64 0), (strV []), (.slice none 0 0), (.slice none 0 0)] [])⟩
  (.op false ⟨none, none, (.st 6 (.tmp 4) (.tmp 121))⟩
  (.op false ⟨(some 5), none, (.mv (.const (.int .i64 80)))⟩ .done)))) .ret)))⟩

set_option maxHeartbeats 1000000 in
theorem into_ok {P : Program} {f f1 f2 f3 : FuncId} (hd : dec P f = some (g_steps_into f1 f2 f3)) (h1 : SearchOk P f1) (h2 : PlaceOk P f2) (h3 : EndsOk P f3) : IntoOk P f := by
  intro d cs ds v s hv hone hvt hs
  have hr := one_rising hone
  have hu := one_u8 hone
  have hkl := one_keys hone
  refine GCall.forget (Q := fun r L' => L' = [] ∧ ∃ cs', r = .tuple #[.agg cs'.toArray, .int .i64 (intoF v s).2] ∧ RVal d cs' (intoF v s).1) ?_
  refine GCall_of hd (Nat.le_of_ble_eq_true rfl) ?_
  obtain ⟨w, e, hF⟩ : ∃ w e, intoF v s = (w, e) := ⟨_, _, rfl⟩
  rw [hF]
  have hs' := hs
  obtain ⟨hds, ik', it', is, id⟩ := hs'
  subst hds
  obtain ⟨lv, kv, rfl, ik, im, ie, it, hl, hks⟩ := hv.open
  obtain ⟨la, lc, rfl⟩ := RSl.val hl
  obtain ⟨ka, kc, rfl⟩ := RSl.val hks
  have hl' : RSl 6 RVal d (.slice la v.list.length lc) v.list := hl
  have n1 := RSl.len_le hl
  have n2 := RSl.len_le hks
  show gwp P _ _ _ _ _
  apply w_sq; apply w_reg
  refine w_boxa (l := [.int .i64 v.kind, .int .i64 v.m, .int .i64 v.e, strV v.text, .slice la v.list.length lc, .slice ka v.keys.length kc]) rfl (fun b2 T2 => ?_)
  refine w_boxa (l := [.int .i64 s.kind, strV s.text, .int .i64 s.src, .int .i64 s.dst, .bool s.hf, .bool s.ht]) rfl (fun b3 T3 => ?_)
  (apply w_alo; intro _ _; apply w_mvi; rfl; apply w_done0)
  rename_i b4 T4
  by_cases k0 : v.kind = 0
  · rw [intoF, if_pos k0] at hF; cases hF
    (apply w_sq; apply w_block; apply w_sq; apply w_reg; apply w_fld; rfl; apply w_ld; rfl; exact hc_i 2 rfl rfl; apply w_eql; rfl; rfl; apply w_mvb; rfl; apply w_done0; refine w_ifdT rfl (by omega) ?_; apply w_sq; apply w_reg; apply w_bvZ)
    refine w_stE 0 [.int .i64 0, .int .i64 0, .int .i64 0, strV [], .slice none 0 0, .slice none 0 0] rfl rfl rfl rfl (Nat.le_of_ble_eq_true rfl) rfl rfl ?_
    (apply w_mvi; rfl; apply w_done0; apply w_ret)
    exact finVE 0 rfl rfl rfl RVal.zero
  by_cases s0 : s.kind = 0
  · by_cases v6 : v.kind = 6
    · rw [intoF, if_neg k0, if_pos ⟨s0, v6⟩] at hF
      (apply w_sq; apply w_block; apply w_sq; apply w_reg; apply w_fld; rfl; apply w_ld; rfl; exact hc_i 2 rfl rfl; apply w_eql; rfl; rfl; apply w_mvb; rfl; apply w_done0; refine w_ifdF rfl (by omega) ?_; apply w_sq; apply w_reg; apply w_fld; rfl; apply w_ld; rfl; exact hc_i 1 rfl rfl; apply w_eql; rfl; rfl; apply w_mvb; rfl; refine w_gdT rfl (by omega) ?_; apply w_gT; rfl; apply w_fld; rfl; apply w_gT; rfl; apply w_ld; rfl; exact hc_i 2 rfl rfl; apply w_gT; rfl; apply w_eql; rfl; rfl; apply w_pickTb; rfl; rfl; apply w_mvb; rfl; apply w_done0; refine w_ifdT rfl (by omega) ?_; apply w_sq; apply w_sq; apply w_reg; apply w_fld; rfl; apply w_ld; rfl; exact hc_i 2 rfl rfl; apply w_fld; rfl; apply w_ld; rfl; exact hc_i 1 rfl rfl)
      refine w_pure rfl (h1 hks hr) ?_
      by_cases hm : s.text ∈ v.keys
      · rw [if_pos hm] at hF; cases hF
        obtain ⟨hlo, _⟩ := (mem_iff hr).1 hm
        have hlo2 : lowK v.keys s.text < v.list.length := by have := hkl v6; omega
        (apply w_mvu; rfl; apply w_ext; rfl; rfl; apply w_ext; rfl; rfl; apply w_mvi; rfl; apply w_mvb; rfl; apply w_done0; apply w_sq; apply w_reg; apply w_mvb; rfl; apply w_done0; refine w_ifdT rfl (by omega) ?_; apply w_sq; apply w_reg; apply w_fld; rfl; apply w_ld; rfl; exact hc_i 2 rfl rfl; apply w_mvi; rfl; refine w_idxR (sz := 6) (R := RVal) (by rfl) (by assumption) (by rfl) rfl (by omega) ?_; rintro _ _ _ _ _ _; apply w_ldd; rfl; assumption; assumption)
        rename_i cs hcs hD hR
        obtain ⟨c0, c1, c2, c3, c4, c5, rfl⟩ := six hcs
        refine w_stE 0 [c0, c1, c2, c3, c4, c5] rfl rfl rfl rfl (Nat.le_of_ble_eq_true rfl) (cell1_val _ _ _ hR) rfl ?_
        (apply w_mvi; rfl; apply w_done0; apply w_ret)
        exact finVE 0 rfl rfl rfl (by rw [show v.list.getD (lowK v.keys s.text) V.zero = v.list[lowK v.keys s.text] by simp [hlo2]]; exact hR)
      · rw [if_neg hm] at hF; cases hF
        (apply w_mvu; rfl; apply w_ext; rfl; rfl; apply w_ext; rfl; rfl; apply w_mvi; rfl; apply w_mvb; rfl; apply w_done0; apply w_sq; apply w_reg; apply w_mvb; rfl; apply w_done0; refine w_ifdF rfl (by omega) ?_; apply w_skip; apply w_sq; apply w_reg; apply w_bvZ)
        refine w_stE 0 [.int .i64 0, .int .i64 0, .int .i64 0, strV [], .slice none 0 0, .slice none 0 0] rfl rfl rfl rfl (Nat.le_of_ble_eq_true rfl) rfl rfl ?_
        (apply w_mvi; rfl; apply w_done0; apply w_ret)
        exact finVE 0 rfl rfl rfl RVal.zero
    · rw [intoF, if_neg k0, if_neg (fun h => v6 h.2), if_neg (fun h => by omega), if_neg (fun h => by omega), if_neg (fun h => by omega)] at hF; cases hF
      (apply w_sq; apply w_block; apply w_sq; apply w_reg; apply w_fld; rfl; apply w_ld; rfl; exact hc_i 2 rfl rfl; apply w_eql; rfl; rfl; apply w_mvb; rfl; apply w_done0; refine w_ifdF rfl (by omega) ?_; apply w_sq; apply w_reg; apply w_fld; rfl; apply w_ld; rfl; exact hc_i 1 rfl rfl; apply w_eql; rfl; rfl; apply w_mvb; rfl; refine w_gdT rfl (by omega) ?_; apply w_gT; rfl; apply w_fld; rfl; apply w_gT; rfl; apply w_ld; rfl; exact hc_i 2 rfl rfl; apply w_gT; rfl; apply w_eql; rfl; rfl; apply w_pickTb; rfl; rfl; apply w_mvb; rfl; apply w_done0; refine w_ifdF rfl (by omega) ?_; apply w_sq; apply w_reg; apply w_fld; rfl; apply w_ld; rfl; exact hc_i 1 rfl rfl; apply w_eql; rfl; rfl; apply w_mvb; rfl; refine w_gdF rfl (by omega) ?_; apply w_gF; rfl; apply w_gF; rfl; apply w_gF; rfl; apply w_pickFb; rfl; rfl; apply w_mvb; rfl; apply w_done0; apply w_ifF; rfl; apply w_sq; apply w_reg; apply w_fld; rfl; apply w_ld; rfl; exact hc_i 1 rfl rfl; apply w_eql; rfl; rfl; apply w_mvb; rfl; refine w_gdF rfl (by omega) ?_; apply w_gF; rfl; apply w_gF; rfl; apply w_gF; rfl; apply w_pickFb; rfl; rfl; apply w_mvb; rfl; apply w_done0; apply w_ifF; rfl; apply w_sq; apply w_reg; apply w_fld; rfl; apply w_ld; rfl; exact hc_i 1 rfl rfl; apply w_eql; rfl; rfl; apply w_mvb; rfl; refine w_gdF rfl (by omega) ?_; apply w_gF; rfl; apply w_gF; rfl; apply w_gF; rfl; apply w_pickFb; rfl; rfl; apply w_mvb; rfl; apply w_done0; apply w_ifF; rfl; apply w_skip; apply w_sq; apply w_reg; apply w_bvZ)
      refine w_stE 0 [.int .i64 0, .int .i64 0, .int .i64 0, strV [], .slice none 0 0, .slice none 0 0] rfl rfl rfl rfl (Nat.le_of_ble_eq_true rfl) rfl rfl ?_
      (apply w_mvi; rfl; apply w_done0; apply w_ret)
      exact finVE 0 rfl rfl rfl RVal.zero
  by_cases s1 : s.kind = 1
  · by_cases v5 : v.kind = 5
    · rw [intoF, if_neg k0, if_neg (fun h => s0 h.1), if_pos ⟨s1, v5⟩, nthV] at hF
      (apply w_sq; apply w_block; apply w_sq; apply w_reg; apply w_fld; rfl; apply w_ld; rfl; exact hc_i 2 rfl rfl; apply w_eql; rfl; rfl; apply w_mvb; rfl; apply w_done0; refine w_ifdF rfl (by omega) ?_; apply w_sq; apply w_reg; apply w_fld; rfl; apply w_ld; rfl; exact hc_i 1 rfl rfl; apply w_eql; rfl; rfl; apply w_mvb; rfl; refine w_gdF rfl (by omega) ?_; apply w_gF; rfl; apply w_gF; rfl; apply w_gF; rfl; apply w_pickFb; rfl; rfl; apply w_mvb; rfl; apply w_done0; apply w_ifF; rfl; apply w_sq; apply w_reg; apply w_fld; rfl; apply w_ld; rfl; exact hc_i 1 rfl rfl; apply w_eql; rfl; rfl; apply w_mvb; rfl; refine w_gdT rfl (by omega) ?_; apply w_gT; rfl; apply w_fld; rfl; apply w_gT; rfl; apply w_ld; rfl; exact hc_i 2 rfl rfl; apply w_gT; rfl; apply w_eql; rfl; rfl; apply w_pickTb; rfl; rfl; apply w_mvb; rfl; apply w_done0; refine w_ifdT rfl (by omega) ?_; apply w_sq; apply w_sq; apply w_reg; apply w_fld; rfl; apply w_ld; rfl; exact hc_i 1 rfl rfl; apply w_fld; rfl; apply w_ld; rfl; exact hc_i 2 rfl rfl; apply w_len; rfl)
      refine w_pure rfl (h2 is (by omega) (by omega)) ?_
      by_cases p0 : 0 ≤ placeF s.src v.list.length
      · by_cases p1 : placeF s.src v.list.length < v.list.length
        · rw [if_pos ⟨p0, p1⟩] at hF; cases hF
          have hlo2 : (placeF s.src v.list.length).toNat < v.list.length := by omega
          (apply w_mvi; rfl; apply w_done0; apply w_sq; apply w_reg; apply w_mvi; rfl; apply w_geq; rfl; rfl; apply w_mvb; rfl; refine w_gdT rfl (by omega) ?_; apply w_gT; rfl; apply w_mvi; rfl; apply w_gT; rfl; apply w_fld; rfl; apply w_gT; rfl; apply w_ld; rfl; exact hc_i 2 rfl rfl; apply w_gT; rfl; apply w_len; rfl; apply w_gT; rfl; apply w_lss; rfl; rfl; apply w_pickTb; rfl; rfl; apply w_done0; refine w_ifdT rfl (by omega) ?_; apply w_sq; apply w_reg; apply w_fld; rfl; apply w_ld; rfl; exact hc_i 2 rfl rfl; apply w_mvi; rfl)
          refine w_idxR (sz := 6) (R := RVal) (m := (placeF s.src v.list.length).toNat) (by rfl) hl' (by rfl) (by omega) hlo2 ?_; rintro _ _ cs hcs hD hR
          (apply w_ldd; rfl; assumption; assumption)
          obtain ⟨c0, c1, c2, c3, c4, c5, rfl⟩ := six hcs
          refine w_stE 0 [c0, c1, c2, c3, c4, c5] rfl rfl rfl rfl (Nat.le_of_ble_eq_true rfl) (cell1_val _ _ _ hR) rfl ?_
          (apply w_mvi; rfl; apply w_done0; apply w_ret)
          exact finVE 0 rfl rfl rfl (by rw [show v.list.getD (placeF s.src v.list.length).toNat V.zero = v.list[(placeF s.src v.list.length).toNat] by simp [hlo2]]; exact hR)
        · rw [if_neg (fun h => p1 h.2)] at hF; cases hF
          (apply w_mvi; rfl; apply w_done0; apply w_sq; apply w_reg; apply w_mvi; rfl; apply w_geq; rfl; rfl; apply w_mvb; rfl; refine w_gdT rfl (by omega) ?_; apply w_gT; rfl; apply w_mvi; rfl; apply w_gT; rfl; apply w_fld; rfl; apply w_gT; rfl; apply w_ld; rfl; exact hc_i 2 rfl rfl; apply w_gT; rfl; apply w_len; rfl; apply w_gT; rfl; apply w_lss; rfl; rfl; apply w_pickTb; rfl; rfl; apply w_done0; refine w_ifdF rfl (by omega) ?_; apply w_skip; apply w_sq; apply w_reg; apply w_bvZ)
          refine w_stE 0 [.int .i64 0, .int .i64 0, .int .i64 0, strV [], .slice none 0 0, .slice none 0 0] rfl rfl rfl rfl (Nat.le_of_ble_eq_true rfl) rfl rfl ?_
          (apply w_mvi; rfl; apply w_done0; apply w_ret)
          exact finVE 0 rfl rfl rfl RVal.zero
      · rw [if_neg (fun h => p0 h.1)] at hF; cases hF
        (apply w_mvi; rfl; apply w_done0; apply w_sq; apply w_reg; apply w_mvi; rfl; apply w_geq; rfl; rfl; apply w_mvb; rfl; refine w_gdF rfl (by omega) ?_; apply w_gF; rfl; apply w_gF; rfl; apply w_gF; rfl; apply w_gF; rfl; apply w_gF; rfl; apply w_pickFb; rfl; rfl; apply w_done0; apply w_ifF; rfl; apply w_skip; apply w_sq; apply w_reg; apply w_bvZ)
        refine w_stE 0 [.int .i64 0, .int .i64 0, .int .i64 0, strV [], .slice none 0 0, .slice none 0 0] rfl rfl rfl rfl (Nat.le_of_ble_eq_true rfl) rfl rfl ?_
        (apply w_mvi; rfl; apply w_done0; apply w_ret)
        exact finVE 0 rfl rfl rfl RVal.zero
    · rw [intoF, if_neg k0, if_neg (fun h => s0 h.1), if_neg (fun h => v5 h.2), if_neg (fun h => by omega), if_neg (fun h => by omega)] at hF; cases hF
      (apply w_sq; apply w_block; apply w_sq; apply w_reg; apply w_fld; rfl; apply w_ld; rfl; exact hc_i 2 rfl rfl; apply w_eql; rfl; rfl; apply w_mvb; rfl; apply w_done0; refine w_ifdF rfl (by omega) ?_; apply w_sq; apply w_reg; apply w_fld; rfl; apply w_ld; rfl; exact hc_i 1 rfl rfl; apply w_eql; rfl; rfl; apply w_mvb; rfl; refine w_gdF rfl (by omega) ?_; apply w_gF; rfl; apply w_gF; rfl; apply w_gF; rfl; apply w_pickFb; rfl; rfl; apply w_mvb; rfl; apply w_done0; apply w_ifF; rfl; apply w_sq; apply w_reg; apply w_fld; rfl; apply w_ld; rfl; exact hc_i 1 rfl rfl; apply w_eql; rfl; rfl; apply w_mvb; rfl; refine w_gdT rfl (by omega) ?_; apply w_gT; rfl; apply w_fld; rfl; apply w_gT; rfl; apply w_ld; rfl; exact hc_i 2 rfl rfl; apply w_gT; rfl; apply w_eql; rfl; rfl; apply w_pickTb; rfl; rfl; apply w_mvb; rfl; apply w_done0; refine w_ifdF rfl (by omega) ?_; apply w_sq; apply w_reg; apply w_fld; rfl; apply w_ld; rfl; exact hc_i 1 rfl rfl; apply w_eql; rfl; rfl; apply w_mvb; rfl; refine w_gdF rfl (by omega) ?_; apply w_gF; rfl; apply w_gF; rfl; apply w_gF; rfl; apply w_pickFb; rfl; rfl; apply w_mvb; rfl; apply w_done0; apply w_ifF; rfl; apply w_sq; apply w_reg; apply w_fld; rfl; apply w_ld; rfl; exact hc_i 1 rfl rfl; apply w_eql; rfl; rfl; apply w_mvb; rfl; refine w_gdF rfl (by omega) ?_; apply w_gF; rfl; apply w_gF; rfl; apply w_gF; rfl; apply w_pickFb; rfl; rfl; apply w_mvb; rfl; apply w_done0; apply w_ifF; rfl; apply w_skip; apply w_sq; apply w_reg; apply w_bvZ)
      refine w_stE 0 [.int .i64 0, .int .i64 0, .int .i64 0, strV [], .slice none 0 0, .slice none 0 0] rfl rfl rfl rfl (Nat.le_of_ble_eq_true rfl) rfl rfl ?_
      (apply w_mvi; rfl; apply w_done0; apply w_ret)
      exact finVE 0 rfl rfl rfl RVal.zero
  by_cases s2 : s.kind = 2
  · by_cases v5 : v.kind = 5
    · rw [intoF, if_neg k0, if_neg (fun h => s0 h.1), if_neg (fun h => s1 h.1), if_pos ⟨s2, v5⟩] at hF; cases hF
      have hends := ends_le s (k := v.list.length) (by omega)
      (apply w_sq; apply w_block; apply w_sq; apply w_reg; apply w_fld; rfl; apply w_ld; rfl; exact hc_i 2 rfl rfl; apply w_eql; rfl; rfl; apply w_mvb; rfl; apply w_done0; refine w_ifdF rfl (by omega) ?_; apply w_sq; apply w_reg; apply w_fld; rfl; apply w_ld; rfl; exact hc_i 1 rfl rfl; apply w_eql; rfl; rfl; apply w_mvb; rfl; refine w_gdF rfl (by omega) ?_; apply w_gF; rfl; apply w_gF; rfl; apply w_gF; rfl; apply w_pickFb; rfl; rfl; apply w_mvb; rfl; apply w_done0; apply w_ifF; rfl; apply w_sq; apply w_reg; apply w_fld; rfl; apply w_ld; rfl; exact hc_i 1 rfl rfl; apply w_eql; rfl; rfl; apply w_mvb; rfl; refine w_gdF rfl (by omega) ?_; apply w_gF; rfl; apply w_gF; rfl; apply w_gF; rfl; apply w_pickFb; rfl; rfl; apply w_mvb; rfl; apply w_done0; apply w_ifF; rfl; apply w_sq; apply w_reg; apply w_fld; rfl; apply w_ld; rfl; exact hc_i 1 rfl rfl; apply w_eql; rfl; rfl; apply w_mvb; rfl; refine w_gdT rfl (by omega) ?_; apply w_gT; rfl; apply w_fld; rfl; apply w_gT; rfl; apply w_ld; rfl; exact hc_i 2 rfl rfl; apply w_gT; rfl; apply w_eql; rfl; rfl; apply w_pickTb; rfl; rfl; apply w_mvb; rfl; apply w_done0; refine w_ifdT rfl (by omega) ?_; apply w_sq; apply w_reg; apply w_ldb 1; rfl; rfl; rfl; apply w_fld; rfl; apply w_ld; rfl; exact hc_i 2 rfl rfl; apply w_len; rfl)
      refine w_pure rfl (h3 hs (by omega) (by omega)) ?_
      (apply w_mvu; rfl; apply w_ext; rfl; rfl; apply w_ext; rfl; rfl; apply w_mvi; rfl; apply w_mvi; rfl; apply w_done0; apply w_sq; apply w_reg; apply w_fld; rfl; apply w_ld; rfl; exact hc_i 2 rfl rfl; apply w_mvi; rfl; apply w_mvi; rfl)
      refine w_slMid (n := (endsF s v.list.length).1.toNat) (m := (endsF s v.list.length).2.toNat) rfl hl' rfl rfl (by omega) (by omega) (by omega) (by omega) (fun v' hv' => ?_)
      obtain ⟨sa, sc, rfl⟩ := RSl.val hv'
      (apply w_bvKL; rfl; rfl)
      refine w_stE 0 [.int .i64 5, .int .i64 0, .int .i64 0, strV [], .slice sa _ sc, .slice none 0 0] rfl rfl rfl rfl (Nat.le_of_ble_eq_true rfl) rfl rfl ?_
      (apply w_mvi; rfl; apply w_done0; apply w_ret)
      exact finVE 0 rfl rfl rfl (RVal.close (v := .mk 5 0 0 [] (midL v.list (endsF s v.list.length)) []) i64_5 i64_0 i64_0 (by simp) hv' RSl.nil)
    by_cases v4 : v.kind = 4
    · rw [intoF, if_neg k0, if_neg (fun h => s0 h.1), if_neg (fun h => s1 h.1), if_neg (fun h => v5 h.2), if_pos ⟨s2, v4⟩] at hF; cases hF
      have hrl : (runesL v.text).length = (chs v.text).length := by rw [runesL_eq]; simp [rns_len]
      have hcl := chs_len v.text
      have hends := ends_le s (k := (chs v.text).length) (by omega)
      have hrn := rns_len v.text
      (apply w_sq; apply w_block; apply w_sq; apply w_reg; apply w_fld; rfl; apply w_ld; rfl; exact hc_i 2 rfl rfl; apply w_eql; rfl; rfl; apply w_mvb; rfl; apply w_done0; refine w_ifdF rfl (by omega) ?_; apply w_sq; apply w_reg; apply w_fld; rfl; apply w_ld; rfl; exact hc_i 1 rfl rfl; apply w_eql; rfl; rfl; apply w_mvb; rfl; refine w_gdF rfl (by omega) ?_; apply w_gF; rfl; apply w_gF; rfl; apply w_gF; rfl; apply w_pickFb; rfl; rfl; apply w_mvb; rfl; apply w_done0; apply w_ifF; rfl; apply w_sq; apply w_reg; apply w_fld; rfl; apply w_ld; rfl; exact hc_i 1 rfl rfl; apply w_eql; rfl; rfl; apply w_mvb; rfl; refine w_gdF rfl (by omega) ?_; apply w_gF; rfl; apply w_gF; rfl; apply w_gF; rfl; apply w_pickFb; rfl; rfl; apply w_mvb; rfl; apply w_done0; apply w_ifF; rfl; apply w_sq; apply w_reg; apply w_fld; rfl; apply w_ld; rfl; exact hc_i 1 rfl rfl; apply w_eql; rfl; rfl; apply w_mvb; rfl; refine w_gdT rfl (by omega) ?_; apply w_gT; rfl; apply w_fld; rfl; apply w_gT; rfl; apply w_ld; rfl; exact hc_i 2 rfl rfl; apply w_gT; rfl; apply w_eql; rfl; rfl; apply w_pickTb; rfl; rfl; apply w_mvb; rfl; apply w_done0; refine w_ifdF rfl (by omega) ?_; apply w_sq; apply w_reg; apply w_fld; rfl; apply w_ld; rfl; exact hc_i 1 rfl rfl; apply w_eql; rfl; rfl; apply w_mvb; rfl; refine w_gdT rfl (by omega) ?_; apply w_gT; rfl; apply w_fld; rfl; apply w_gT; rfl; apply w_ld; rfl; exact hc_i 2 rfl rfl; apply w_gT; rfl; apply w_eql; rfl; rfl; apply w_pickTb; rfl; rfl; apply w_mvb; rfl; apply w_done0; refine w_ifdT rfl (by omega) ?_; apply w_sq; apply w_reg; apply w_fld; rfl; apply w_ld; rfl; exact hc_i 2 rfl rfl)
      refine w_s2r rfl (by omega) (fun b11 T11 c11 hc1 hc2 => ?_)
      refine w_frz (fun d5 hl5 hg5 => ?_)
      have hrr := rsl_runes (by omega) hc1 hc2 hg5
      rw [hrl] at hrr ⊢
      (apply w_mvs; rfl; apply w_done0; apply w_sq; apply w_reg; apply w_ldb 1; rfl; rfl; rfl; apply w_mvs; rfl; apply w_len; rfl)
      refine w_pure rfl (h3 (d := d5) hs (by omega) (by omega)) ?_
      (apply w_mvu; rfl; apply w_ext; rfl; rfl; apply w_ext; rfl; rfl; apply w_mvi; rfl; apply w_mvi; rfl; apply w_done0; apply w_sq; apply w_reg; apply w_mvs; rfl; apply w_mvi; rfl; apply w_mvi; rfl)
      refine w_slMid (n := (endsF s (chs v.text).length).1.toNat) (m := (endsF s (chs v.text).length).2.toNat) rfl hrr rfl rfl (by omega) (by omega) (by omega) (by omega) (fun v' hv' => ?_)
      refine w_r2s rfl hv' ?_
      rw [rns_part hu]
      (apply w_bvKT; rfl; rfl)
      refine w_stE 0 [.int .i64 4, .int .i64 0, .int .i64 0, strV (midL (chs v.text) (endsF s (chs v.text).length)).flatten, .slice none 0 0, .slice none 0 0] rfl rfl rfl rfl (Nat.le_of_ble_eq_true rfl) rfl rfl ?_
      (apply w_mvi; rfl; apply w_done0; apply w_ret)
      exact finVE 0 rfl rfl rfl (RVal.close (v := .mk 4 0 0 (midL (chs v.text) (endsF s (chs v.text).length)).flatten [] []) i64_4 i64_0 i64_0 (Nat.le_trans (part_len _ _) it) RSl.nil RSl.nil)
    rw [intoF, if_neg k0, if_neg (fun h => s0 h.1), if_neg (fun h => s1 h.1), if_neg (fun h => v5 h.2), if_neg (fun h => v4 h.2)] at hF; cases hF
    (apply w_sq; apply w_block; apply w_sq; apply w_reg; apply w_fld; rfl; apply w_ld; rfl; exact hc_i 2 rfl rfl; apply w_eql; rfl; rfl; apply w_mvb; rfl; apply w_done0; refine w_ifdF rfl (by omega) ?_; apply w_sq; apply w_reg; apply w_fld; rfl; apply w_ld; rfl; exact hc_i 1 rfl rfl; apply w_eql; rfl; rfl; apply w_mvb; rfl; refine w_gdF rfl (by omega) ?_; apply w_gF; rfl; apply w_gF; rfl; apply w_gF; rfl; apply w_pickFb; rfl; rfl; apply w_mvb; rfl; apply w_done0; apply w_ifF; rfl; apply w_sq; apply w_reg; apply w_fld; rfl; apply w_ld; rfl; exact hc_i 1 rfl rfl; apply w_eql; rfl; rfl; apply w_mvb; rfl; refine w_gdF rfl (by omega) ?_; apply w_gF; rfl; apply w_gF; rfl; apply w_gF; rfl; apply w_pickFb; rfl; rfl; apply w_mvb; rfl; apply w_done0; apply w_ifF; rfl; apply w_sq; apply w_reg; apply w_fld; rfl; apply w_ld; rfl; exact hc_i 1 rfl rfl; apply w_eql; rfl; rfl; apply w_mvb; rfl; refine w_gdT rfl (by omega) ?_; apply w_gT; rfl; apply w_fld; rfl; apply w_gT; rfl; apply w_ld; rfl; exact hc_i 2 rfl rfl; apply w_gT; rfl; apply w_eql; rfl; rfl; apply w_pickTb; rfl; rfl; apply w_mvb; rfl; apply w_done0; refine w_ifdF rfl (by omega) ?_; apply w_sq; apply w_reg; apply w_fld; rfl; apply w_ld; rfl; exact hc_i 1 rfl rfl; apply w_eql; rfl; rfl; apply w_mvb; rfl; refine w_gdT rfl (by omega) ?_; apply w_gT; rfl; apply w_fld; rfl; apply w_gT; rfl; apply w_ld; rfl; exact hc_i 2 rfl rfl; apply w_gT; rfl; apply w_eql; rfl; rfl; apply w_pickTb; rfl; rfl; apply w_mvb; rfl; apply w_done0; refine w_ifdF rfl (by omega) ?_; apply w_skip; apply w_sq; apply w_reg; apply w_bvZ)
    refine w_stE 0 [.int .i64 0, .int .i64 0, .int .i64 0, strV [], .slice none 0 0, .slice none 0 0] rfl rfl rfl rfl (Nat.le_of_ble_eq_true rfl) rfl rfl ?_
    (apply w_mvi; rfl; apply w_done0; apply w_ret)
    exact finVE 0 rfl rfl rfl RVal.zero
  rw [intoF, if_neg k0, if_neg (fun h => s0 h.1), if_neg (fun h => s1 h.1), if_neg (fun h => s2 h.1), if_neg (fun h => s2 h.1)] at hF; cases hF
  (apply w_sq; apply w_block; apply w_sq; apply w_reg; apply w_fld; rfl; apply w_ld; rfl; exact hc_i 2 rfl rfl; apply w_eql; rfl; rfl; apply w_mvb; rfl; apply w_done0; refine w_ifdF rfl (by omega) ?_; apply w_sq; apply w_reg; apply w_fld; rfl; apply w_ld; rfl; exact hc_i 1 rfl rfl; apply w_eql; rfl; rfl; apply w_mvb; rfl; refine w_gdF rfl (by omega) ?_; apply w_gF; rfl; apply w_gF; rfl; apply w_gF; rfl; apply w_pickFb; rfl; rfl; apply w_mvb; rfl; apply w_done0; apply w_ifF; rfl; apply w_sq; apply w_reg; apply w_fld; rfl; apply w_ld; rfl; exact hc_i 1 rfl rfl; apply w_eql; rfl; rfl; apply w_mvb; rfl; refine w_gdF rfl (by omega) ?_; apply w_gF; rfl; apply w_gF; rfl; apply w_gF; rfl; apply w_pickFb; rfl; rfl; apply w_mvb; rfl; apply w_done0; apply w_ifF; rfl; apply w_sq; apply w_reg; apply w_fld; rfl; apply w_ld; rfl; exact hc_i 1 rfl rfl; apply w_eql; rfl; rfl; apply w_mvb; rfl; refine w_gdF rfl (by omega) ?_; apply w_gF; rfl; apply w_gF; rfl; apply w_gF; rfl; apply w_pickFb; rfl; rfl; apply w_mvb; rfl; apply w_done0; apply w_ifF; rfl; apply w_sq; apply w_reg; apply w_fld; rfl; apply w_ld; rfl; exact hc_i 1 rfl rfl; apply w_eql; rfl; rfl; apply w_mvb; rfl; refine w_gdF rfl (by omega) ?_; apply w_gF; rfl; apply w_gF; rfl; apply w_gF; rfl; apply w_pickFb; rfl; rfl; apply w_mvb; rfl; apply w_done0; apply w_ifF; rfl; apply w_skip; apply w_sq; apply w_reg; apply w_bvZ)
  refine w_stE 0 [.int .i64 0, .int .i64 0, .int .i64 0, strV [], .slice none 0 0, .slice none 0 0] rfl rfl rfl rfl (Nat.le_of_ble_eq_true rfl) rfl rfl ?_
  (apply w_mvi; rfl; apply w_done0; apply w_ret)
  exact finVE 0 rfl rfl rfl RVal.zero
end Go.Gk.Val
end

section
/-
  Ways: the reference: characters; what a step gives.
-/
namespace Go.Gk.Val
open Go Go.Gk Go.Gk.Utf
attribute [local irreducible] gwp gws

def CharsOk (P : Program) (f : FuncId) : Prop := ∀ {d : PHeap} {l : List UInt8}, u8 l = true → l.length ≤ 1000000000 → GCall P f [strV l] d [] (Ret fun r d' L' => L' = [] ∧ RStrs d' r (chs l))
def g_thimbleref08_chars (f_thimbleref02_First : Nat) : GFun :=
 ⟨24, [(.tmp 2)],
 (.seq
 (.reg false (.op false ⟨(some 2), none, (.mv (.const (.slice none 0 0)))⟩ .done))
 (.seq
 (.reg false (.op false ⟨(some 3), none, (.mv (.const (.slice none 0 0)))⟩ .done))
 (.seq (.block 0 (.loop
 (.seq (.seq
 (.reg false (.op false ⟨(some 6), none, (.mv (.tmp 0))⟩
  (.op false ⟨(some 7), none, (.lens (.tmp 6))⟩
  (.op false ⟨(some 8), none, (.bin .gtr (.tmp 7) (.const (.int .i64 0)))⟩ .done)))) (.cond (.tmp 8) .skip (.exit 0))) (.block 1
 (.seq
 (.reg false (.op false ⟨(some 10), none, (.mv (.tmp 0))⟩
  (.op false ⟨(some 11), none, (.call f_thimbleref02_First [(.tmp 10)])⟩
  (.op false ⟨(some 9), none, (.mv (.tmp 11))⟩
  (.op false ⟨(some 12), none, (.ext (.tmp 9) 0)⟩
  (.op false ⟨(some 13), none, (.ext (.tmp 9) 1)⟩
  (.op false ⟨(some 4), none, (.mv (.tmp 12))⟩
  (.op false ⟨(some 5), none, (.mv (.tmp 13))⟩ .done))))))))
 (.seq
 (.reg false (.op false ⟨(some 14), none, (.mv (.tmp 3))⟩
  (.op false ⟨(some 15), none, (.mv (.tmp 0))⟩
  (.op false ⟨(some 16), none, (.mv (.tmp 5))⟩
  (.op false ⟨(some 17), none, (.sls (.tmp 15) none (some (.tmp 16)))⟩
  (.op false ⟨(some 18), none, (.bsl 1 1 [(strV [])] [(0, (.tmp 17))])⟩
  (.op false ⟨(some 19), none, (.app 1 16 [(strV [])] (.tmp 14) (.tmp 18))⟩
  (.op false ⟨(some 3), none, (.mv (.tmp 19))⟩ .done))))))))
 (.reg false (.op false ⟨(some 20), none, (.mv (.tmp 0))⟩
  (.op false ⟨(some 21), none, (.mv (.tmp 5))⟩
  (.op false ⟨(some 22), none, (.sls (.tmp 20) (some (.tmp 21)) none)⟩
  (.op false ⟨(some 0), none, (.mv (.tmp 22))⟩ .done)))))))))))
 (.seq
 (.reg false (.op false ⟨(some 23), none, (.mv (.tmp 3))⟩
  (.op false ⟨(some 2), none, (.mv (.tmp 23))⟩ .done))) .ret))))⟩

theorem chars_ok {P : Program} {f f1 : FuncId} (hd : dec P f = some (g_thimbleref08_chars f1)) (h1 : FirstOk P f1) : CharsOk P f := by
  intro d l hu hl
  have hlen := chs_len l
  refine GCall_of hd (Nat.le_of_ble_eq_true rfl) ?_
  show gwp P _ _ _ _ _
  apply w_sq; apply w_reg
  refine w_vs d [emp] Vs.emp ?_
  (apply w_mvs; rfl; apply w_done0; apply w_sq; apply w_reg; apply w_mvs; rfl; apply w_done0; apply w_sq; apply w_block)
  refine w_loopV (α := List UInt8) (fun x w => [(0, strV x), (3, w)])
    (fun x w h d' L' => d' = d ∧ ∃ dn : List (List UInt8), x.length + dn.length ≤ l.length ∧ u8 x = true ∧ dn ++ chs x = chs l ∧ GRow 1 RStr d w dn h ∧ L' = [h]) (fun x => x.length) l (.slice none 0 0) emp
    ⟨rfl, rfl, trivial⟩ ⟨rfl, [], by simp, hu, rfl, GRow.nil, rfl⟩ ?_
  rintro l' w h ρ d' L' ⟨hdd, dn, hle, hu', hch, hrow, hL⟩
  subst hdd; subst hL
  obtain ⟨a, c, rfl⟩ := hrow.val
  by_cases hc : l' = []
  · have h0 : l'.length = 0 := by rw [hc]; rfl
    (apply w_sq; apply w_sq; apply w_reg; apply w_mvt; rfl; apply w_lens; rfl; apply w_gtr; rfl; rfl; apply w_done0; refine w_ifdF rfl (by omega) ?_; apply w_exit; apply w_sq; apply w_reg; apply w_mvs; rfl; apply w_mvs; rfl; apply w_done0; apply w_ret)
    rw [hc, chs_nil, List.append_nil] at hch
    refine fin1F rfl (fun d' hld hk => ?_)
    exact ⟨rfl, by rw [← hch]; exact hrow.rsl (R := RStr) mono_str (by omega) hld (hk _ (by simp))⟩
  · have hpos : 1 ≤ l'.length := List.length_pos_iff.2 hc
    have hfw := first_w hc hu'
    have hw := Lib.decodeL_width l'
    have hwl := Lib.decodeL_le l' hc
    have hst := chs_step hc
    (apply w_sq; apply w_sq; apply w_reg; apply w_mvt; rfl; apply w_lens; rfl; apply w_gtr; rfl; rfl; apply w_done0; refine w_ifdT rfl (by omega) ?_; apply w_skip; apply w_block; apply w_sq; apply w_reg; apply w_mvt; rfl)
    refine w_pure rfl (h1 hc (by omega)) ?_
    (apply w_mvu; rfl; apply w_ext; rfl; rfl; apply w_ext; rfl; rfl; apply w_mvi; rfl; apply w_mvi; rfl; apply w_done0; apply w_sq; apply w_reg; apply w_mvs; rfl; apply w_mvt; rfl; apply w_mvi; rfl)
    refine w_slsTo (n := (Lib.decodeL l').2) rfl rfl (by omega) (by omega) ?_
    refine w_bs1 (v0 := strV (l'.take (Lib.decodeL l').2)) rfl rfl (fun b18 T18 => ?_)
    have o18 : GRow 1 RStr d' (.slice (some ⟨b18, 0, none⟩) 1 1) [l'.take (Lib.decodeL l').2] (bx b18 T18 [strV (l'.take (Lib.decodeL l').2)]) := GRow.lit1 rfl ⟨rfl, by simp; omega⟩
    refine w_appL (R := RStr) 0 rfl rfl hrow rfl o18 cell1_str (by omega) (by simp; omega) (by simp; omega) (fun v5 h5 o5 => ?_)
    obtain ⟨a5, c5, rfl⟩ := o5.val
    (apply w_mvs; rfl; apply w_done0; apply w_reg; apply w_mvt; rfl; apply w_mvi; rfl)
    refine w_slsFrom (n := (Lib.decodeL l').2) rfl rfl (by omega) (by omega) ?_
    (apply w_mvt; rfl; apply w_done0)
    exact ⟨l'.drop (Lib.decodeL l').2, _, h5, by simp; omega, ⟨rfl, rfl, trivial⟩, rfl, dn ++ [l'.take (Lib.decodeL l').2], by simp; omega, valid_rest hc hu', by rw [List.append_assoc, ← hch, hst]; rfl, o5, rfl⟩

def g_thimbleref08_One (f_thimbleref08_key f_thimbleref08_ends f_thimbleref08_chars : Nat) : GFun :=
 ⟨124, [(.cell 4 (some 6)), (.tmp 5)],
 (.seq
 (.reg false (.op false ⟨(some 2), none, (.box (.tmp 0))⟩
  (.op false ⟨(some 3), none, (.box (.tmp 1))⟩
  (.op false ⟨(some 4), none, (.alo (.agg #[(.int .i64 0), (.int .i64 0), (.int .i64 0), (strV []), (.slice none 0 0), (.slice none 0 0)]))⟩
  (.op false ⟨(some 5), none, (.mv (.const (.int .i64 0)))⟩ .done)))))
 (.seq
 (.reg false (.op false ⟨(some 6), none, (.alo (.agg #[(.int .i64 0), (.int .i64 0), (.int .i64 0), (strV []), (.slice none 0 0), (.slice none 0 0)]))⟩ .done))
 (.seq (.seq
 (.reg false (.op false ⟨(some 14), none, (.fld 0 (.tmp 2))⟩
  (.op false ⟨(some 15), none, (.ld none (.tmp 14))⟩
  (.op false ⟨(some 16), none, (.bin .eql (.tmp 15) (.const (.int .i64 0)))⟩ .done)))) (.cond (.tmp 16)
 (.seq
 (.reg false (.op false ⟨(some 17), none, (.ld (some 6) (.tmp 6))⟩
  (.op false ⟨none, none, (.st 6 (.tmp 4) (.tmp 17))⟩
  (.op false ⟨(some 5), none, (.mv (.const (.int .i64 0)))⟩ .done)))) .ret) .skip))
 (.seq (.seq
 (.reg false (.op false ⟨(some 18), none, (.fld 0 (.tmp 3))⟩
  (.op false ⟨(some 19), none, (.ld none (.tmp 18))⟩
  (.op false ⟨(some 20), none, (.bin .eql (.tmp 19) (.const (.int .i64 0)))⟩
  (.op false ⟨(some 21), none, (.mv (.tmp 20))⟩
  (.op false ⟨(some 22), (some (21, true)), (.fld 0 (.tmp 2))⟩
  (.op false ⟨(some 23), (some (21, true)), (.ld none (.tmp 22))⟩
  (.op false ⟨(some 24), (some (21, true)), (.bin .eql (.tmp 23) (.const (.int .i64 6)))⟩
  (.op false ⟨(some 25), none, (.pick (.tmp 21) (.tmp 24) (.const (.bool false)))⟩
  (.op false ⟨(some 26), none, (.mv (.tmp 25))⟩
  (.op false ⟨(some 27), (some (26, false)), (.fld 0 (.tmp 3))⟩
  (.op false ⟨(some 28), (some (26, false)), (.ld none (.tmp 27))⟩
  (.op false ⟨(some 29), (some (26, false)), (.bin .eql (.tmp 28) (.const (.int .i64 1)))⟩
  (.op false ⟨(some 30), (some (26, false)), (.mv (.tmp 29))⟩
  (.op false ⟨(some 31), (some (30, true)), (.fld 0 (.tmp 2))⟩
  (.op false ⟨(some 32), (some (30, true)), (.ld none (.tmp 31))⟩
  (.op false ⟨(some 33), (some (30, true)), (.bin .eql (.tmp 32) (.const (.int .i64 5)))⟩
  (.op false ⟨(some 34), (some (26, false)), (.pick (.tmp 30) (.tmp 33) (.const (.bool false)))⟩
  (.op false ⟨(some 35), none, (.pick (.tmp 26) (.const (.bool true)) (.tmp 34))⟩ .done))))))))))))))))))) (.cond (.tmp 35)
 (.seq
 (.reg false (.op false ⟨(some 36), none, (.fld 2 (.tmp 3))⟩
  (.op false ⟨(some 37), none, (.ld none (.tmp 36))⟩
  (.op false ⟨(some 7), none, (.mv (.tmp 37))⟩ .done))))
 (.seq (.seq
 (.reg false (.op false ⟨(some 38), none, (.fld 0 (.tmp 3))⟩
  (.op false ⟨(some 39), none, (.ld none (.tmp 38))⟩
  (.op false ⟨(some 40), none, (.bin .eql (.tmp 39) (.const (.int .i64 0)))⟩ .done)))) (.cond (.tmp 40)
 (.reg false (.op false ⟨(some 41), none, (.ld (some 6) (.tmp 2))⟩
  (.op false ⟨(some 42), none, (.fld 1 (.tmp 3))⟩
  (.op false ⟨(some 43), none, (.ld none (.tmp 42))⟩
  (.op false ⟨(some 44), none, (.call f_thimbleref08_key [(.tmp 41), (.tmp 43)])⟩
  (.op false ⟨(some 7), none, (.mv (.tmp 44))⟩ .done))))))
 (.seq
 (.reg false (.op false ⟨(some 45), none, (.mv (.tmp 7))⟩
  (.op false ⟨(some 46), none, (.bin .lss (.tmp 45) (.const (.int .i64 0)))⟩ .done))) (.cond (.tmp 46)
 (.reg false (.op false ⟨(some 47), none, (.mv (.tmp 7))⟩
  (.op false ⟨(some 48), none, (.fld 4 (.tmp 2))⟩
  (.op false ⟨(some 49), none, (.ld none (.tmp 48))⟩
  (.op false ⟨(some 50), none, (.len (.tmp 49))⟩
  (.op false ⟨(some 51), none, (.bin .add (.tmp 47) (.tmp 50))⟩
  (.op false ⟨(some 7), none, (.mv (.tmp 51))⟩ .done))))))) .skip))))
 (.seq (.seq
 (.reg false (.op false ⟨(some 52), none, (.mv (.tmp 7))⟩
  (.op false ⟨(some 53), none, (.bin .geq (.tmp 52) (.const (.int .i64 0)))⟩
  (.op false ⟨(some 54), none, (.mv (.tmp 53))⟩
  (.op false ⟨(some 55), (some (54, true)), (.mv (.tmp 7))⟩
  (.op false ⟨(some 56), (some (54, true)), (.fld 4 (.tmp 2))⟩
  (.op false ⟨(some 57), (some (54, true)), (.ld none (.tmp 56))⟩
  (.op false ⟨(some 58), (some (54, true)), (.len (.tmp 57))⟩
  (.op false ⟨(some 59), (some (54, true)), (.bin .lss (.tmp 55) (.tmp 58))⟩
  (.op false ⟨(some 60), none, (.pick (.tmp 54) (.tmp 59) (.const (.bool false)))⟩ .done)))))))))) (.cond (.tmp 60)
 (.reg false (.op false ⟨(some 61), none, (.fld 4 (.tmp 2))⟩
  (.op false ⟨(some 62), none, (.ld none (.tmp 61))⟩
  (.op false ⟨(some 63), none, (.mv (.tmp 7))⟩
  (.op false ⟨(some 64), none, (.idx 6 (.tmp 62) (.tmp 63))⟩
  (.op false ⟨(some 65), none, (.ld (some 6) (.tmp 64))⟩
  (.op false ⟨none, none, (.st 6 (.tmp 6) (.tmp 65))⟩ .done))))))) .skip))
 (.seq
 (.reg false (.op false ⟨(some 66), none, (.ld (some 6) (.tmp 6))⟩
  (.op false ⟨none, none, (.st 6 (.tmp 4) (.tmp 66))⟩
  (.op false ⟨(some 5), none, (.mv (.const (.int .i64 0)))⟩ .done)))) .ret)))) .skip))
 (.seq (.seq
 (.reg false (.op false ⟨(some 67), none, (.fld 0 (.tmp 3))⟩
  (.op false ⟨(some 68), none, (.ld none (.tmp 67))⟩
  (.op false ⟨(some 69), none, (.bin .eql (.tmp 68) (.const (.int .i64 2)))⟩
  (.op false ⟨(some 70), none, (.mv (.tmp 69))⟩
  (.op false ⟨(some 71), (some (70, true)), (.fld 0 (.tmp 2))⟩
  (.op false ⟨(some 72), (some (70, true)), (.ld none (.tmp 71))⟩
  (.op false ⟨(some 73), (some (70, true)), (.bin .eql (.tmp 72) (.const (.int .i64 5)))⟩
  (.op false ⟨(some 74), none, (.pick (.tmp 70) (.tmp 73) (.const (.bool false)))⟩ .done))))))))) (.cond (.tmp 74)
 (.seq
 (.reg false (.op false ⟨(some 76), none, (.ld (some 6) (.tmp 3))⟩
  (.op false ⟨(some 77), none, (.fld 4 (.tmp 2))⟩
  (.op false ⟨(some 78), none, (.ld none (.tmp 77))⟩
  (.op false ⟨(some 79), none, (.len (.tmp 78))⟩
  (.op false ⟨(some 80), none, (.call f_thimbleref08_ends [(.tmp 76), (.tmp 79)])⟩
  (.op false ⟨(some 75), none, (.mv (.tmp 80))⟩
  (.op false ⟨(some 81), none, (.ext (.tmp 75) 0)⟩
  (.op false ⟨(some 82), none, (.ext (.tmp 75) 1)⟩
  (.op false ⟨(some 8), none, (.mv (.tmp 81))⟩
  (.op false ⟨(some 9), none, (.mv (.tmp 82))⟩ .done)))))))))))
 (.seq
 (.reg false (.op false ⟨(some 83), none, (.fld 4 (.tmp 2))⟩
  (.op false ⟨(some 84), none, (.ld none (.tmp 83))⟩
  (.op false ⟨(some 85), none, (.mv (.tmp 8))⟩
  (.op false ⟨(some 86), none, (.mv (.tmp 9))⟩
  (.op false ⟨(some 87), none, (.sl 6 (.tmp 84) (some (.tmp 85)) (some (.tmp 86)) none)⟩
  (.op false ⟨(some 88), none, (.bld [(0, 1), (1, 2), (3, 1), (4, 1), (5, 1)] [(.int .i64 0), (.int .i64 0), (.int .i64 0), (strV []), (.slice none 0 0), (.slice none 0 0)] [(0, (.const (.int .i64 5))), (3, (.tmp 87))])⟩
  (.op false ⟨none, none, (.st 6 (.tmp 4) (.tmp 88))⟩
  (.op false ⟨(some 5), none, (.mv (.const (.int .i64 0)))⟩ .done))))))))) .ret)) .skip))
 (.seq (.seq
 (.reg false (.op false ⟨(some 89), none, (.fld 0 (.tmp 3))⟩
  (.op false ⟨(some 90), none, (.ld none (.tmp 89))⟩
  (.op false ⟨(some 91), none, (.bin .eql (.tmp 90) (.const (.int .i64 2)))⟩
  (.op false ⟨(some 92), none, (.mv (.tmp 91))⟩
  (.op false ⟨(some 93), (some (92, true)), (.fld 0 (.tmp 2))⟩
  (.op false ⟨(some 94), (some (92, true)), (.ld none (.tmp 93))⟩
  (.op false ⟨(some 95), (some (92, true)), (.bin .eql (.tmp 94) (.const (.int .i64 4)))⟩
  (.op false ⟨(some 96), none, (.pick (.tmp 92) (.tmp 95) (.const (.bool false)))⟩ .done))))))))) (.cond (.tmp 96)
 (.seq
 (.reg false (.op false ⟨(some 97), none, (.fld 3 (.tmp 2))⟩
  (.op false ⟨(some 98), none, (.ld none (.tmp 97))⟩
  (.op false ⟨(some 99), none, (.call f_thimbleref08_chars [(.tmp 98)])⟩
  (.op false ⟨(some 10), none, (.mv (.tmp 99))⟩ .done)))))
 (.seq
 (.reg false (.op false ⟨(some 101), none, (.ld (some 6) (.tmp 3))⟩
  (.op false ⟨(some 102), none, (.mv (.tmp 10))⟩
  (.op false ⟨(some 103), none, (.len (.tmp 102))⟩
  (.op false ⟨(some 104), none, (.call f_thimbleref08_ends [(.tmp 101), (.tmp 103)])⟩
  (.op false ⟨(some 100), none, (.mv (.tmp 104))⟩
  (.op false ⟨(some 105), none, (.ext (.tmp 100) 0)⟩
  (.op false ⟨(some 106), none, (.ext (.tmp 100) 1)⟩
  (.op false ⟨(some 11), none, (.mv (.tmp 105))⟩
  (.op false ⟨(some 12), none, (.mv (.tmp 106))⟩ .done))))))))))
 (.seq
 (.reg false (.op false ⟨(some 107), none, (.fld 0 (.tmp 6))⟩
  (.op false ⟨none, none, (.st 1 (.tmp 107) (.const (.int .i64 4)))⟩ .done)))
 (.seq (.seq
 (.reg false (.op false ⟨(some 108), none, (.mv (.tmp 11))⟩
  (.op false ⟨(some 13), none, (.mv (.tmp 108))⟩ .done))) (.block 0 (.loop
 (.seq (.seq
 (.reg false (.op false ⟨(some 109), none, (.mv (.tmp 13))⟩
  (.op false ⟨(some 110), none, (.mv (.tmp 12))⟩
  (.op false ⟨(some 111), none, (.bin .lss (.tmp 109) (.tmp 110))⟩ .done)))) (.cond (.tmp 111) .skip (.exit 0)))
 (.seq (.block 1
 (.reg true (.op true ⟨(some 114), none, (.fld 3 (.tmp 6))⟩
  (.op true ⟨(some 115), none, (.ld none (.tmp 114))⟩
  (.op true ⟨(some 116), none, (.mv (.tmp 10))⟩
  (.op true ⟨(some 117), none, (.mv (.tmp 13))⟩
  (.op true ⟨(some 118), none, (.idx 1 (.tmp 116) (.tmp 117))⟩
  (.op true ⟨(some 119), none, (.ld none (.tmp 118))⟩
  (.op true ⟨(some 120), none, (.bin .add (.tmp 115) (.tmp 119))⟩
  (.op true ⟨(some 121), none, (.fld 3 (.tmp 6))⟩
  (.bar (.op false ⟨none, none, (.st 1 (.tmp 121) (.tmp 120))⟩ .done))))))))))))
 (.reg false (.op false ⟨(some 112), none, (.mv (.tmp 13))⟩
  (.op false ⟨(some 113), none, (.bin .add (.tmp 112) (.const (.int .i64 1)))⟩
  (.op false ⟨(some 13), none, (.mv (.tmp 113))⟩ .done)))))))))
 (.seq
 (.reg false (.op false ⟨(some 122), none, (.ld (some 6) (.tmp 6))⟩
  (.op false ⟨none, none, (.st 6 (.tmp 4) (.tmp 122))⟩
  (.op false ⟨(some 5), none, (.mv (.const (.int .i64 0)))⟩ .done)))) .ret))))) .skip))
 (.seq
 (.reg false (.op false ⟨(some 123), none, (.ld (some 6) (.tmp 6))⟩
  (.op false ⟨none, none, (.st 6 (.tmp 4) (.tmp 123))⟩
  (.op false ⟨(some 5), none, (.mv (.const (.int .i64 80)))⟩ .done)))) .ret)))))))⟩

set_option maxHeartbeats 1000000 in
theorem rone_into {P : Program} {f f1 f2 f3 : FuncId} (hd : dec P f = some (g_thimbleref08_One f1 f2 f3)) (h1 : KeyOk P f1) (h2 : EndsOk P f2) (h3 : CharsOk P f3) : IntoOk P f := by
  intro d cs ds v s hv hone hvt hs
  have hr := one_rising hone
  have hu := one_u8 hone
  have hkl := one_keys hone
  refine GCall.forget (Q := fun r L' => L' = [] ∧ ∃ cs', r = .tuple #[.agg cs'.toArray, .int .i64 (intoF v s).2] ∧ RVal d cs' (intoF v s).1) ?_
  refine GCall_of hd (Nat.le_of_ble_eq_true rfl) ?_
  obtain ⟨w, e, hF⟩ : ∃ w e, intoF v s = (w, e) := ⟨_, _, rfl⟩
  rw [hF]
  have hs' := hs
  obtain ⟨hds, ik', it', is, id⟩ := hs'
  subst hds
  obtain ⟨is1, is2⟩ := is
  have hv0 := hv
  obtain ⟨lv, kv, rfl, ik, im, ie, it, hl, hks⟩ := hv.open
  obtain ⟨la, lc, rfl⟩ := RSl.val hl
  obtain ⟨ka, kc, rfl⟩ := RSl.val hks
  have hl' : RSl 6 RVal d (.slice la v.list.length lc) v.list := hl
  have n1 := RSl.len_le hl
  have n2 := RSl.len_le hks
  show gwp P _ _ _ _ _
  apply w_sq; apply w_reg
  refine w_boxa (l := [.int .i64 v.kind, .int .i64 v.m, .int .i64 v.e, strV v.text, .slice la v.list.length lc, .slice ka v.keys.length kc]) rfl (fun b2 T2 => ?_)
  refine w_boxa (l := [.int .i64 s.kind, strV s.text, .int .i64 s.src, .int .i64 s.dst, .bool s.hf, .bool s.ht]) rfl (fun b3 T3 => ?_)
  (apply w_alo; intro _ _; apply w_mvi; rfl; apply w_done0)
  rename_i b4 T4
  apply w_sq; apply w_reg
  (apply w_alo; intro _ _; apply w_done0)
  rename_i b6 T6
  by_cases k0 : v.kind = 0
  · rw [intoF, if_pos k0] at hF; cases hF
    (apply w_sq; apply w_sq; apply w_reg; apply w_fld; rfl; apply w_ld; rfl; exact hc_i 3 rfl rfl; apply w_eql; rfl; rfl; apply w_done0; refine w_ifdT rfl (by omega) ?_; apply w_sq; apply w_reg; apply w_ldb 0; rfl; rfl; rfl)
    refine w_stE 1 [.int .i64 0, .int .i64 0, .int .i64 0, strV [], .slice none 0 0, .slice none 0 0] rfl rfl rfl rfl (Nat.le_of_ble_eq_true rfl) rfl rfl ?_
    (apply w_mvi; rfl; apply w_done0; apply w_ret)
    exact finVE 1 rfl rfl rfl RVal.zero
  by_cases s0 : s.kind = 0
  · by_cases v6 : v.kind = 6
    · rw [intoF, if_neg k0, if_pos ⟨s0, v6⟩] at hF
      (apply w_sq; apply w_sq; apply w_reg; apply w_fld; rfl; apply w_ld; rfl; exact hc_i 3 rfl rfl; apply w_eql; rfl; rfl; apply w_done0; refine w_ifdF rfl (by omega) ?_; apply w_skip; apply w_sq; apply w_sq; apply w_reg; apply w_fld; rfl; apply w_ld; rfl; exact hc_i 2 rfl rfl; apply w_eql; rfl; rfl; apply w_mvb; rfl; refine w_gdT rfl (by omega) ?_; apply w_gT; rfl; apply w_fld; rfl; apply w_gT; rfl; apply w_ld; rfl; exact hc_i 3 rfl rfl; apply w_gT; rfl; apply w_eql; rfl; rfl; apply w_pickTb; rfl; rfl; apply w_mvb; rfl; refine w_gdT rfl (by omega) ?_; apply w_gF; rfl; apply w_gF; rfl; apply w_gF; rfl; apply w_gF; rfl; apply w_gU; rfl; apply w_gU; rfl; apply w_gU; rfl; apply w_gF; rfl; apply w_pickTb; rfl; rfl; apply w_done0; apply w_ifT; rfl; apply w_sq; apply w_reg; apply w_fld; rfl; apply w_ld; rfl; exact hc_i 2 rfl rfl; apply w_mvi; rfl; apply w_done0; apply w_sq; apply w_sq; apply w_reg; apply w_fld; rfl; apply w_ld; rfl; exact hc_i 2 rfl rfl; apply w_eql; rfl; rfl; apply w_done0; refine w_ifdT rfl (by omega) ?_; apply w_reg; apply w_ldb 3; rfl; rfl; rfl; apply w_fld; rfl; apply w_ld; rfl; exact hc_i 2 rfl rfl)
      refine w_pure rfl (h1 hv0 hr) ?_
      by_cases hm : s.text ∈ v.keys
      · rw [if_pos hm] at hF ⊢; cases hF
        obtain ⟨hlo, _⟩ := (mem_iff hr).1 hm
        have hlo2 : lowK v.keys s.text < v.list.length := by have := hkl v6; omega
        (apply w_mvi; rfl; apply w_done0; apply w_sq; apply w_sq; apply w_reg; apply w_mvi; rfl; apply w_geq; rfl; rfl; apply w_mvb; rfl; refine w_gdT rfl (by omega) ?_; apply w_gT; rfl; apply w_mvi; rfl; apply w_gT; rfl; apply w_fld; rfl; apply w_gT; rfl; apply w_ld; rfl; exact hc_i 3 rfl rfl; apply w_gT; rfl; apply w_len; rfl; apply w_gT; rfl; apply w_lss; rfl; rfl; apply w_pickTb; rfl; rfl; apply w_done0; refine w_ifdT rfl (by omega) ?_; apply w_reg; apply w_fld; rfl; apply w_ld; rfl; exact hc_i 3 rfl rfl; apply w_mvi; rfl; refine w_idxR (sz := 6) (R := RVal) (by rfl) (by assumption) (by rfl) rfl (by omega) ?_; rintro _ _ _ _ _ _; apply w_ldd; rfl; assumption; assumption)
        rename_i cs hcs hD hR
        obtain ⟨c0, c1, c2, c3, c4, c5, rfl⟩ := six hcs
        refine w_stE 0 [c0, c1, c2, c3, c4, c5] rfl rfl rfl rfl (Nat.le_of_ble_eq_true rfl) (cell1_val _ _ _ hR) rfl ?_
        (apply w_done0; apply w_sq; apply w_reg; apply w_ldb 0; rfl; rfl; rfl)
        refine w_stE 1 [c0, c1, c2, c3, c4, c5] rfl rfl rfl rfl (Nat.le_of_ble_eq_true rfl) (cell1_val _ _ _ hR) rfl ?_
        (apply w_mvi; rfl; apply w_done0; apply w_ret)
        exact finVE 1 rfl rfl rfl (by rw [show v.list.getD (lowK v.keys s.text) V.zero = v.list[lowK v.keys s.text] by simp [hlo2]]; exact hR)
      · rw [if_neg hm] at hF ⊢; cases hF
        (apply w_mvi; rfl; apply w_done0; apply w_sq; apply w_sq; apply w_reg; apply w_mvi; rfl; apply w_geq; rfl; rfl; apply w_mvb; rfl; refine w_gdF rfl (by omega) ?_; apply w_gF; rfl; apply w_gF; rfl; apply w_gF; rfl; apply w_gF; rfl; apply w_gF; rfl; apply w_pickFb; rfl; rfl; apply w_done0; apply w_ifF; rfl; apply w_skip; apply w_sq; apply w_reg; apply w_ldb 0; rfl; rfl; rfl)
        refine w_stE 1 [.int .i64 0, .int .i64 0, .int .i64 0, strV [], .slice none 0 0, .slice none 0 0] rfl rfl rfl rfl (Nat.le_of_ble_eq_true rfl) rfl rfl ?_
        (apply w_mvi; rfl; apply w_done0; apply w_ret)
        exact finVE 1 rfl rfl rfl RVal.zero
    · rw [intoF, if_neg k0, if_neg (fun h => v6 h.2), if_neg (fun h => by omega), if_neg (fun h => by omega), if_neg (fun h => by omega)] at hF; cases hF
      (apply w_sq; apply w_sq; apply w_reg; apply w_fld; rfl; apply w_ld; rfl; exact hc_i 3 rfl rfl; apply w_eql; rfl; rfl; apply w_done0; refine w_ifdF rfl (by omega) ?_; apply w_skip; apply w_sq; apply w_sq; apply w_reg; apply w_fld; rfl; apply w_ld; rfl; exact hc_i 2 rfl rfl; apply w_eql; rfl; rfl; apply w_mvb; rfl; refine w_gdT rfl (by omega) ?_; apply w_gT; rfl; apply w_fld; rfl; apply w_gT; rfl; apply w_ld; rfl; exact hc_i 3 rfl rfl; apply w_gT; rfl; apply w_eql; rfl; rfl; apply w_pickTb; rfl; rfl; apply w_mvb; rfl; refine w_gdF rfl (by omega) ?_; apply w_gT; rfl; apply w_fld; rfl; apply w_gT; rfl; apply w_ld; rfl; exact hc_i 2 rfl rfl; apply w_gT; rfl; apply w_eql; rfl; rfl; apply w_gT; rfl; apply w_mvb; rfl; refine w_gdF rfl (by omega) ?_; apply w_gF; rfl; apply w_gF; rfl; apply w_gF; rfl; apply w_gT; rfl; apply w_pickFb; rfl; rfl; apply w_pickFb; rfl; rfl; apply w_done0; apply w_ifF; rfl; apply w_skip; apply w_sq; apply w_sq; apply w_reg; apply w_fld; rfl; apply w_ld; rfl; exact hc_i 2 rfl rfl; apply w_eql; rfl; rfl; apply w_mvb; rfl; refine w_gdF rfl (by omega) ?_; apply w_gF; rfl; apply w_gF; rfl; apply w_gF; rfl; apply w_pickFb; rfl; rfl; apply w_done0; apply w_ifF; rfl; apply w_skip; apply w_sq; apply w_sq; apply w_reg; apply w_fld; rfl; apply w_ld; rfl; exact hc_i 2 rfl rfl; apply w_eql; rfl; rfl; apply w_mvb; rfl; refine w_gdF rfl (by omega) ?_; apply w_gF; rfl; apply w_gF; rfl; apply w_gF; rfl; apply w_pickFb; rfl; rfl; apply w_done0; apply w_ifF; rfl; apply w_skip; apply w_sq; apply w_reg; apply w_ldb 0; rfl; rfl; rfl)
      refine w_stE 1 [.int .i64 0, .int .i64 0, .int .i64 0, strV [], .slice none 0 0, .slice none 0 0] rfl rfl rfl rfl (Nat.le_of_ble_eq_true rfl) rfl rfl ?_
      (apply w_mvi; rfl; apply w_done0; apply w_ret)
      exact finVE 1 rfl rfl rfl RVal.zero
  by_cases s1 : s.kind = 1
  · by_cases v5 : v.kind = 5
    · rw [intoF, if_neg k0, if_neg (fun h => s0 h.1), if_pos ⟨s1, v5⟩, nthV] at hF
      by_cases hneg : s.src < 0
      · have hpl : placeF s.src v.list.length = s.src + v.list.length := by rw [placeF, if_pos hneg]
        rw [hpl] at hF
        by_cases p0 : 0 ≤ s.src + (v.list.length : Int)
        · by_cases p1 : s.src + (v.list.length : Int) < v.list.length
          · rw [if_pos ⟨p0, p1⟩] at hF; cases hF
            have hlo2 : (s.src + (v.list.length : Int)).toNat < v.list.length := by omega
            (apply w_sq; apply w_sq; apply w_reg; apply w_fld; rfl; apply w_ld; rfl; exact hc_i 3 rfl rfl; apply w_eql; rfl; rfl; apply w_done0; refine w_ifdF rfl (by omega) ?_; apply w_skip; apply w_sq; apply w_sq; apply w_reg; apply w_fld; rfl; apply w_ld; rfl; exact hc_i 2 rfl rfl; apply w_eql; rfl; rfl; apply w_mvb; rfl; refine w_gdF rfl (by omega) ?_; apply w_gF; rfl; apply w_gF; rfl; apply w_gF; rfl; apply w_pickFb; rfl; rfl; apply w_mvb; rfl; apply w_gT; rfl; apply w_fld; rfl; apply w_gT; rfl; apply w_ld; rfl; exact hc_i 2 rfl rfl; apply w_gT; rfl; apply w_eql; rfl; rfl; apply w_gT; rfl; apply w_mvb; rfl; refine w_gdT rfl (by omega) ?_; apply w_gT; rfl; apply w_fld; rfl; apply w_gT; rfl; apply w_ld; rfl; exact hc_i 3 rfl rfl; apply w_gT; rfl; apply w_eql; rfl; rfl; apply w_gT; rfl; apply w_pickTb; rfl; rfl; apply w_pickFb; rfl; rfl; apply w_done0; refine w_ifdT rfl (by omega) ?_; apply w_sq; apply w_reg; apply w_fld; rfl; apply w_ld; rfl; exact hc_i 2 rfl rfl; apply w_mvi; rfl; apply w_done0; apply w_sq; apply w_sq; apply w_reg; apply w_fld; rfl; apply w_ld; rfl; exact hc_i 2 rfl rfl; apply w_eql; rfl; rfl; apply w_done0; refine w_ifdF rfl (by omega) ?_; apply w_sq; apply w_reg; apply w_mvi; rfl; apply w_lss; rfl; rfl; apply w_done0; refine w_ifdT rfl (by omega) ?_; apply w_reg; apply w_mvi; rfl; apply w_fld; rfl; apply w_ld; rfl; exact hc_i 3 rfl rfl; apply w_len; rfl; apply w_add; rfl; rfl; omega; omega; apply w_mvi; rfl; apply w_done0; apply w_sq; apply w_sq; apply w_reg; apply w_mvi; rfl; apply w_geq; rfl; rfl; apply w_mvb; rfl; refine w_gdT rfl (by omega) ?_; apply w_gT; rfl; apply w_mvi; rfl; apply w_gT; rfl; apply w_fld; rfl; apply w_gT; rfl; apply w_ld; rfl; exact hc_i 3 rfl rfl; apply w_gT; rfl; apply w_len; rfl; apply w_gT; rfl; apply w_lss; rfl; rfl; apply w_pickTb; rfl; rfl; apply w_done0; refine w_ifdT rfl (by omega) ?_; apply w_reg; apply w_fld; rfl; apply w_ld; rfl; exact hc_i 3 rfl rfl; apply w_mvi; rfl)
            refine w_idxR (sz := 6) (R := RVal) (m := (s.src + (v.list.length : Int)).toNat) (by rfl) hl' (by rfl) (by omega) hlo2 ?_; rintro _ _ cs hcs hD hR
            (apply w_ldd; rfl; assumption; assumption)
            obtain ⟨c0, c1, c2, c3, c4, c5, rfl⟩ := six hcs
            refine w_stE 0 [c0, c1, c2, c3, c4, c5] rfl rfl rfl rfl (Nat.le_of_ble_eq_true rfl) (cell1_val _ _ _ hR) rfl ?_
            (apply w_done0; apply w_sq; apply w_reg; apply w_ldb 0; rfl; rfl; rfl)
            refine w_stE 1 [c0, c1, c2, c3, c4, c5] rfl rfl rfl rfl (Nat.le_of_ble_eq_true rfl) (cell1_val _ _ _ hR) rfl ?_
            (apply w_mvi; rfl; apply w_done0; apply w_ret)
            exact finVE 1 rfl rfl rfl (by rw [show v.list.getD (s.src + (v.list.length : Int)).toNat V.zero = v.list[(s.src + (v.list.length : Int)).toNat] by simp [hlo2]]; exact hR)
          · omega
        · rw [if_neg (fun h => p0 h.1)] at hF; cases hF
          (apply w_sq; apply w_sq; apply w_reg; apply w_fld; rfl; apply w_ld; rfl; exact hc_i 3 rfl rfl; apply w_eql; rfl; rfl; apply w_done0; refine w_ifdF rfl (by omega) ?_; apply w_skip; apply w_sq; apply w_sq; apply w_reg; apply w_fld; rfl; apply w_ld; rfl; exact hc_i 2 rfl rfl; apply w_eql; rfl; rfl; apply w_mvb; rfl; refine w_gdF rfl (by omega) ?_; apply w_gF; rfl; apply w_gF; rfl; apply w_gF; rfl; apply w_pickFb; rfl; rfl; apply w_mvb; rfl; apply w_gT; rfl; apply w_fld; rfl; apply w_gT; rfl; apply w_ld; rfl; exact hc_i 2 rfl rfl; apply w_gT; rfl; apply w_eql; rfl; rfl; apply w_gT; rfl; apply w_mvb; rfl; refine w_gdT rfl (by omega) ?_; apply w_gT; rfl; apply w_fld; rfl; apply w_gT; rfl; apply w_ld; rfl; exact hc_i 3 rfl rfl; apply w_gT; rfl; apply w_eql; rfl; rfl; apply w_gT; rfl; apply w_pickTb; rfl; rfl; apply w_pickFb; rfl; rfl; apply w_done0; refine w_ifdT rfl (by omega) ?_; apply w_sq; apply w_reg; apply w_fld; rfl; apply w_ld; rfl; exact hc_i 2 rfl rfl; apply w_mvi; rfl; apply w_done0; apply w_sq; apply w_sq; apply w_reg; apply w_fld; rfl; apply w_ld; rfl; exact hc_i 2 rfl rfl; apply w_eql; rfl; rfl; apply w_done0; refine w_ifdF rfl (by omega) ?_; apply w_sq; apply w_reg; apply w_mvi; rfl; apply w_lss; rfl; rfl; apply w_done0; refine w_ifdT rfl (by omega) ?_; apply w_reg; apply w_mvi; rfl; apply w_fld; rfl; apply w_ld; rfl; exact hc_i 3 rfl rfl; apply w_len; rfl; apply w_add; rfl; rfl; omega; omega; apply w_mvi; rfl; apply w_done0; apply w_sq; apply w_sq; apply w_reg; apply w_mvi; rfl; apply w_geq; rfl; rfl; apply w_mvb; rfl; refine w_gdF rfl (by omega) ?_; apply w_gF; rfl; apply w_gF; rfl; apply w_gF; rfl; apply w_gF; rfl; apply w_gF; rfl; apply w_pickFb; rfl; rfl; apply w_done0; apply w_ifF; rfl; apply w_skip; apply w_sq; apply w_reg; apply w_ldb 0; rfl; rfl; rfl)
          refine w_stE 1 [.int .i64 0, .int .i64 0, .int .i64 0, strV [], .slice none 0 0, .slice none 0 0] rfl rfl rfl rfl (Nat.le_of_ble_eq_true rfl) rfl rfl ?_
          (apply w_mvi; rfl; apply w_done0; apply w_ret)
          exact finVE 1 rfl rfl rfl RVal.zero
      · have hpl : placeF s.src v.list.length = s.src := by rw [placeF, if_neg hneg]
        rw [hpl] at hF
        by_cases p1 : s.src < v.list.length
        · rw [if_pos ⟨by omega, p1⟩] at hF; cases hF
          have hlo2 : s.src.toNat < v.list.length := by omega
          (apply w_sq; apply w_sq; apply w_reg; apply w_fld; rfl; apply w_ld; rfl; exact hc_i 3 rfl rfl; apply w_eql; rfl; rfl; apply w_done0; refine w_ifdF rfl (by omega) ?_; apply w_skip; apply w_sq; apply w_sq; apply w_reg; apply w_fld; rfl; apply w_ld; rfl; exact hc_i 2 rfl rfl; apply w_eql; rfl; rfl; apply w_mvb; rfl; refine w_gdF rfl (by omega) ?_; apply w_gF; rfl; apply w_gF; rfl; apply w_gF; rfl; apply w_pickFb; rfl; rfl; apply w_mvb; rfl; apply w_gT; rfl; apply w_fld; rfl; apply w_gT; rfl; apply w_ld; rfl; exact hc_i 2 rfl rfl; apply w_gT; rfl; apply w_eql; rfl; rfl; apply w_gT; rfl; apply w_mvb; rfl; refine w_gdT rfl (by omega) ?_; apply w_gT; rfl; apply w_fld; rfl; apply w_gT; rfl; apply w_ld; rfl; exact hc_i 3 rfl rfl; apply w_gT; rfl; apply w_eql; rfl; rfl; apply w_gT; rfl; apply w_pickTb; rfl; rfl; apply w_pickFb; rfl; rfl; apply w_done0; refine w_ifdT rfl (by omega) ?_; apply w_sq; apply w_reg; apply w_fld; rfl; apply w_ld; rfl; exact hc_i 2 rfl rfl; apply w_mvi; rfl; apply w_done0; apply w_sq; apply w_sq; apply w_reg; apply w_fld; rfl; apply w_ld; rfl; exact hc_i 2 rfl rfl; apply w_eql; rfl; rfl; apply w_done0; refine w_ifdF rfl (by omega) ?_; apply w_sq; apply w_reg; apply w_mvi; rfl; apply w_lss; rfl; rfl; apply w_done0; refine w_ifdF rfl (by omega) ?_; apply w_skip; apply w_sq; apply w_sq; apply w_reg; apply w_mvi; rfl; apply w_geq; rfl; rfl; apply w_mvb; rfl; refine w_gdT rfl (by omega) ?_; apply w_gT; rfl; apply w_mvi; rfl; apply w_gT; rfl; apply w_fld; rfl; apply w_gT; rfl; apply w_ld; rfl; exact hc_i 3 rfl rfl; apply w_gT; rfl; apply w_len; rfl; apply w_gT; rfl; apply w_lss; rfl; rfl; apply w_pickTb; rfl; rfl; apply w_done0; refine w_ifdT rfl (by omega) ?_; apply w_reg; apply w_fld; rfl; apply w_ld; rfl; exact hc_i 3 rfl rfl; apply w_mvi; rfl)
          refine w_idxR (sz := 6) (R := RVal) (m := s.src.toNat) (by rfl) hl' (by rfl) (by omega) hlo2 ?_; rintro _ _ cs hcs hD hR
          (apply w_ldd; rfl; assumption; assumption)
          obtain ⟨c0, c1, c2, c3, c4, c5, rfl⟩ := six hcs
          refine w_stE 0 [c0, c1, c2, c3, c4, c5] rfl rfl rfl rfl (Nat.le_of_ble_eq_true rfl) (cell1_val _ _ _ hR) rfl ?_
          (apply w_done0; apply w_sq; apply w_reg; apply w_ldb 0; rfl; rfl; rfl)
          refine w_stE 1 [c0, c1, c2, c3, c4, c5] rfl rfl rfl rfl (Nat.le_of_ble_eq_true rfl) (cell1_val _ _ _ hR) rfl ?_
          (apply w_mvi; rfl; apply w_done0; apply w_ret)
          exact finVE 1 rfl rfl rfl (by rw [show v.list.getD s.src.toNat V.zero = v.list[s.src.toNat] by simp [hlo2]]; exact hR)
        · rw [if_neg (fun h => p1 h.2)] at hF; cases hF
          (apply w_sq; apply w_sq; apply w_reg; apply w_fld; rfl; apply w_ld; rfl; exact hc_i 3 rfl rfl; apply w_eql; rfl; rfl; apply w_done0; refine w_ifdF rfl (by omega) ?_; apply w_skip; apply w_sq; apply w_sq; apply w_reg; apply w_fld; rfl; apply w_ld; rfl; exact hc_i 2 rfl rfl; apply w_eql; rfl; rfl; apply w_mvb; rfl; refine w_gdF rfl (by omega) ?_; apply w_gF; rfl; apply w_gF; rfl; apply w_gF; rfl; apply w_pickFb; rfl; rfl; apply w_mvb; rfl; apply w_gT; rfl; apply w_fld; rfl; apply w_gT; rfl; apply w_ld; rfl; exact hc_i 2 rfl rfl; apply w_gT; rfl; apply w_eql; rfl; rfl; apply w_gT; rfl; apply w_mvb; rfl; refine w_gdT rfl (by omega) ?_; apply w_gT; rfl; apply w_fld; rfl; apply w_gT; rfl; apply w_ld; rfl; exact hc_i 3 rfl rfl; apply w_gT; rfl; apply w_eql; rfl; rfl; apply w_gT; rfl; apply w_pickTb; rfl; rfl; apply w_pickFb; rfl; rfl; apply w_done0; refine w_ifdT rfl (by omega) ?_; apply w_sq; apply w_reg; apply w_fld; rfl; apply w_ld; rfl; exact hc_i 2 rfl rfl; apply w_mvi; rfl; apply w_done0; apply w_sq; apply w_sq; apply w_reg; apply w_fld; rfl; apply w_ld; rfl; exact hc_i 2 rfl rfl; apply w_eql; rfl; rfl; apply w_done0; refine w_ifdF rfl (by omega) ?_; apply w_sq; apply w_reg; apply w_mvi; rfl; apply w_lss; rfl; rfl; apply w_done0; refine w_ifdF rfl (by omega) ?_; apply w_skip; apply w_sq; apply w_sq; apply w_reg; apply w_mvi; rfl; apply w_geq; rfl; rfl; apply w_mvb; rfl; refine w_gdT rfl (by omega) ?_; apply w_gT; rfl; apply w_mvi; rfl; apply w_gT; rfl; apply w_fld; rfl; apply w_gT; rfl; apply w_ld; rfl; exact hc_i 3 rfl rfl; apply w_gT; rfl; apply w_len; rfl; apply w_gT; rfl; apply w_lss; rfl; rfl; apply w_pickTb; rfl; rfl; apply w_done0; refine w_ifdF rfl (by omega) ?_; apply w_skip; apply w_sq; apply w_reg; apply w_ldb 0; rfl; rfl; rfl)
          refine w_stE 1 [.int .i64 0, .int .i64 0, .int .i64 0, strV [], .slice none 0 0, .slice none 0 0] rfl rfl rfl rfl (Nat.le_of_ble_eq_true rfl) rfl rfl ?_
          (apply w_mvi; rfl; apply w_done0; apply w_ret)
          exact finVE 1 rfl rfl rfl RVal.zero
    · rw [intoF, if_neg k0, if_neg (fun h => s0 h.1), if_neg (fun h => v5 h.2), if_neg (fun h => by omega), if_neg (fun h => by omega)] at hF; cases hF
      (apply w_sq; apply w_sq; apply w_reg; apply w_fld; rfl; apply w_ld; rfl; exact hc_i 3 rfl rfl; apply w_eql; rfl; rfl; apply w_done0; refine w_ifdF rfl (by omega) ?_; apply w_skip; apply w_sq; apply w_sq; apply w_reg; apply w_fld; rfl; apply w_ld; rfl; exact hc_i 2 rfl rfl; apply w_eql; rfl; rfl; apply w_mvb; rfl; refine w_gdF rfl (by omega) ?_; apply w_gF; rfl; apply w_gF; rfl; apply w_gF; rfl; apply w_pickFb; rfl; rfl; apply w_mvb; rfl; apply w_gT; rfl; apply w_fld; rfl; apply w_gT; rfl; apply w_ld; rfl; exact hc_i 2 rfl rfl; apply w_gT; rfl; apply w_eql; rfl; rfl; apply w_gT; rfl; apply w_mvb; rfl; refine w_gdT rfl (by omega) ?_; apply w_gT; rfl; apply w_fld; rfl; apply w_gT; rfl; apply w_ld; rfl; exact hc_i 3 rfl rfl; apply w_gT; rfl; apply w_eql; rfl; rfl; apply w_gT; rfl; apply w_pickTb; rfl; rfl; apply w_pickFb; rfl; rfl; apply w_done0; refine w_ifdF rfl (by omega) ?_; apply w_skip; apply w_sq; apply w_sq; apply w_reg; apply w_fld; rfl; apply w_ld; rfl; exact hc_i 2 rfl rfl; apply w_eql; rfl; rfl; apply w_mvb; rfl; refine w_gdF rfl (by omega) ?_; apply w_gF; rfl; apply w_gF; rfl; apply w_gF; rfl; apply w_pickFb; rfl; rfl; apply w_done0; apply w_ifF; rfl; apply w_skip; apply w_sq; apply w_sq; apply w_reg; apply w_fld; rfl; apply w_ld; rfl; exact hc_i 2 rfl rfl; apply w_eql; rfl; rfl; apply w_mvb; rfl; refine w_gdF rfl (by omega) ?_; apply w_gF; rfl; apply w_gF; rfl; apply w_gF; rfl; apply w_pickFb; rfl; rfl; apply w_done0; apply w_ifF; rfl; apply w_skip; apply w_sq; apply w_reg; apply w_ldb 0; rfl; rfl; rfl)
      refine w_stE 1 [.int .i64 0, .int .i64 0, .int .i64 0, strV [], .slice none 0 0, .slice none 0 0] rfl rfl rfl rfl (Nat.le_of_ble_eq_true rfl) rfl rfl ?_
      (apply w_mvi; rfl; apply w_done0; apply w_ret)
      exact finVE 1 rfl rfl rfl RVal.zero
  by_cases s2 : s.kind = 2
  · by_cases v5 : v.kind = 5
    · rw [intoF, if_neg k0, if_neg (fun h => s0 h.1), if_neg (fun h => s1 h.1), if_pos ⟨s2, v5⟩] at hF; cases hF
      have hends := ends_le s (k := v.list.length) (by omega)
      (apply w_sq; apply w_sq; apply w_reg; apply w_fld; rfl; apply w_ld; rfl; exact hc_i 3 rfl rfl; apply w_eql; rfl; rfl; apply w_done0; refine w_ifdF rfl (by omega) ?_; apply w_skip; apply w_sq; apply w_sq; apply w_reg; apply w_fld; rfl; apply w_ld; rfl; exact hc_i 2 rfl rfl; apply w_eql; rfl; rfl; apply w_mvb; rfl; refine w_gdF rfl (by omega) ?_; apply w_gF; rfl; apply w_gF; rfl; apply w_gF; rfl; apply w_pickFb; rfl; rfl; apply w_mvb; rfl; apply w_gT; rfl; apply w_fld; rfl; apply w_gT; rfl; apply w_ld; rfl; exact hc_i 2 rfl rfl; apply w_gT; rfl; apply w_eql; rfl; rfl; apply w_gT; rfl; apply w_mvb; rfl; refine w_gdF rfl (by omega) ?_; apply w_gF; rfl; apply w_gF; rfl; apply w_gF; rfl; apply w_gT; rfl; apply w_pickFb; rfl; rfl; apply w_pickFb; rfl; rfl; apply w_done0; apply w_ifF; rfl; apply w_skip; apply w_sq; apply w_sq; apply w_reg; apply w_fld; rfl; apply w_ld; rfl; exact hc_i 2 rfl rfl; apply w_eql; rfl; rfl; apply w_mvb; rfl; refine w_gdT rfl (by omega) ?_; apply w_gT; rfl; apply w_fld; rfl; apply w_gT; rfl; apply w_ld; rfl; exact hc_i 3 rfl rfl; apply w_gT; rfl; apply w_eql; rfl; rfl; apply w_pickTb; rfl; rfl; apply w_done0; refine w_ifdT rfl (by omega) ?_; apply w_sq; apply w_reg; apply w_ldb 2; rfl; rfl; rfl; apply w_fld; rfl; apply w_ld; rfl; exact hc_i 3 rfl rfl; apply w_len; rfl)
      refine w_pure rfl (h2 hs (by omega) (by omega)) ?_
      (apply w_mvu; rfl; apply w_ext; rfl; rfl; apply w_ext; rfl; rfl; apply w_mvi; rfl; apply w_mvi; rfl; apply w_done0; apply w_sq; apply w_reg; apply w_fld; rfl; apply w_ld; rfl; exact hc_i 3 rfl rfl; apply w_mvi; rfl; apply w_mvi; rfl)
      refine w_slMid (n := (endsF s v.list.length).1.toNat) (m := (endsF s v.list.length).2.toNat) rfl hl' rfl rfl (by omega) (by omega) (by omega) (by omega) (fun v' hv' => ?_)
      obtain ⟨sa, sc, rfl⟩ := RSl.val hv'
      (apply w_bvKL; rfl; rfl)
      refine w_stE 1 [.int .i64 5, .int .i64 0, .int .i64 0, strV [], .slice sa _ sc, .slice none 0 0] rfl rfl rfl rfl (Nat.le_of_ble_eq_true rfl) rfl rfl ?_
      (apply w_mvi; rfl; apply w_done0; apply w_ret)
      exact finVE 1 rfl rfl rfl (RVal.close (v := .mk 5 0 0 [] (midL v.list (endsF s v.list.length)) []) i64_5 i64_0 i64_0 (by simp) hv' RSl.nil)
    by_cases v4 : v.kind = 4
    · rw [intoF, if_neg k0, if_neg (fun h => s0 h.1), if_neg (fun h => s1 h.1), if_neg (fun h => v5 h.2), if_pos ⟨s2, v4⟩] at hF; cases hF
      have hcl := chs_len v.text
      have hends := ends_le s (k := (chs v.text).length) (by omega)
      (apply w_sq; apply w_sq; apply w_reg; apply w_fld; rfl; apply w_ld; rfl; exact hc_i 3 rfl rfl; apply w_eql; rfl; rfl; apply w_done0; refine w_ifdF rfl (by omega) ?_; apply w_skip; apply w_sq; apply w_sq; apply w_reg; apply w_fld; rfl; apply w_ld; rfl; exact hc_i 2 rfl rfl; apply w_eql; rfl; rfl; apply w_mvb; rfl; refine w_gdF rfl (by omega) ?_; apply w_gF; rfl; apply w_gF; rfl; apply w_gF; rfl; apply w_pickFb; rfl; rfl; apply w_mvb; rfl; apply w_gT; rfl; apply w_fld; rfl; apply w_gT; rfl; apply w_ld; rfl; exact hc_i 2 rfl rfl; apply w_gT; rfl; apply w_eql; rfl; rfl; apply w_gT; rfl; apply w_mvb; rfl; refine w_gdF rfl (by omega) ?_; apply w_gF; rfl; apply w_gF; rfl; apply w_gF; rfl; apply w_gT; rfl; apply w_pickFb; rfl; rfl; apply w_pickFb; rfl; rfl; apply w_done0; apply w_ifF; rfl; apply w_skip; apply w_sq; apply w_sq; apply w_reg; apply w_fld; rfl; apply w_ld; rfl; exact hc_i 2 rfl rfl; apply w_eql; rfl; rfl; apply w_mvb; rfl; refine w_gdT rfl (by omega) ?_; apply w_gT; rfl; apply w_fld; rfl; apply w_gT; rfl; apply w_ld; rfl; exact hc_i 3 rfl rfl; apply w_gT; rfl; apply w_eql; rfl; rfl; apply w_pickTb; rfl; rfl; apply w_done0; refine w_ifdF rfl (by omega) ?_; apply w_skip; apply w_sq; apply w_sq; apply w_reg; apply w_fld; rfl; apply w_ld; rfl; exact hc_i 2 rfl rfl; apply w_eql; rfl; rfl; apply w_mvb; rfl; refine w_gdT rfl (by omega) ?_; apply w_gT; rfl; apply w_fld; rfl; apply w_gT; rfl; apply w_ld; rfl; exact hc_i 3 rfl rfl; apply w_gT; rfl; apply w_eql; rfl; rfl; apply w_pickTb; rfl; rfl; apply w_done0; refine w_ifdT rfl (by omega) ?_; apply w_sq; apply w_reg; apply w_fld; rfl; apply w_ld; rfl; exact hc_i 3 rfl rfl)
      refine w_call0 rfl (h3 hu hvt) (fun r d5 L5 hl5 ⟨hL, hrr⟩ => ?_)
      subst hL
      obtain ⟨ra, rc, rfl⟩ := RSl.val hrr
      have hrr' : RSl 1 RStr d5 (.slice ra (chs v.text).length rc) (chs v.text) := hrr
      (apply w_mvs; rfl; apply w_done0; apply w_sq; apply w_reg; apply w_ldb 2; rfl; rfl; rfl; apply w_mvs; rfl; apply w_len; rfl)
      refine w_pure rfl (h2 (d := d5) hs (by omega) (by omega)) ?_
      obtain ⟨A, B, hab⟩ : ∃ A B : Int, endsF s (chs v.text).length = (A, B) := ⟨_, _, rfl⟩
      rw [hab] at hends ⊢
      simp only at hends ⊢
      obtain ⟨a, rfl⟩ : ∃ a : Nat, A = (a : Int) := ⟨A.toNat, by omega⟩
      obtain ⟨b, rfl⟩ : ∃ b : Nat, B = (b : Int) := ⟨B.toNat, by omega⟩
      have hmid : midL (chs v.text) ((a : Int), (b : Int)) = ((chs v.text).drop a).take (b - a) := by simp [midL]
      rw [hmid]
      (apply w_mvu; rfl; apply w_ext; rfl; rfl; apply w_ext; rfl; rfl; apply w_mvi; rfl; apply w_mvi; rfl; apply w_done0; apply w_sq; apply w_reg; apply w_fld; rfl)
      refine w_stE 0 [.int .i64 4, .int .i64 0, .int .i64 0, strV [], .slice none 0 0, .slice none 0 0] rfl rfl rfl rfl (Nat.le_of_ble_eq_true rfl) rfl rfl ?_
      (apply w_done0; apply w_sq; apply w_sq; apply w_reg; apply w_mvi; rfl; apply w_mvi; rfl; apply w_done0; apply w_block)
      have hzz : ∀ i : Nat, (((chs v.text).drop a).take i).flatten.length ≤ v.text.length := fun i => part_len a i
      refine w_loopN (α := Nat) (fun i => [(4, .pointer (some ⟨b4, 0, none⟩)), (6, .pointer (some ⟨b6, 0, none⟩)), (10, .slice ra (chs v.text).length rc), (12, .int .i64 b), (13, .int .i64 i)])
        (fun i => [bx b6 T6 [.int .i64 4, .int .i64 0, .int .i64 0, strV (((chs v.text).drop a).take (i - a)).flatten, .slice none 0 0, .slice none 0 0], bx b4 T4 [.int .i64 0, .int .i64 0, .int .i64 0, strV [], .slice none 0 0, .slice none 0 0], bx b3 T3 [.int .i64 s.kind, strV s.text, .int .i64 s.src, .int .i64 s.dst, .bool s.hf, .bool s.ht], bx b2 T2 [.int .i64 v.kind, .int .i64 v.m, .int .i64 v.e, strV v.text, .slice la v.list.length lc, .slice ka v.keys.length kc]])
        (fun i => a ≤ i ∧ i ≤ b) (fun i => b - i) a ⟨rfl, rfl, rfl, rfl, rfl, trivial⟩ (by rw [Nat.sub_self]; rfl) ⟨Nat.le_refl _, by omega⟩ ?_
      rintro i ρ ⟨hi1, hi2⟩
      by_cases hc : i < b
      · have hcl2 : (chs v.text)[i].length ≤ 140737488355328 := by
          obtain ⟨_, _, _, _, _, _, _, _, _, _, _, h8⟩ := hrr'
          obtain ⟨cs, _, _, _, h9⟩ := h8 i (by omega)
          exact h9
        have hz2 := hzz (i - a)
        (apply w_sq; apply w_sq; apply w_reg; apply w_mvi; rfl; apply w_mvi; rfl; apply w_lss; rfl; rfl; apply w_done0; refine w_ifdT rfl (by omega) ?_; apply w_skip; apply w_sq; apply w_block; apply w_drawn; apply w_fld; rfl; apply w_ld; rfl; exact hc_i 0 rfl rfl; apply w_mvs; rfl; apply w_mvi; rfl; refine w_idxR (sz := 1) (R := RStr) (by rfl) (by assumption) (by rfl) rfl (by omega) ?_; rintro _ _ _ _ _ ⟨rfl, _⟩; apply w_ld; rfl; exact hc_ds0 (by assumption) rfl)
        refine w_sadd rfl rfl (by omega) ?_
        (apply w_fld; rfl; apply w_bar)
        have hstep : (((chs v.text).drop a).take (i + 1 - a)).flatten = (((chs v.text).drop a).take (i - a)).flatten ++ (chs v.text)[i] := by
          rw [show i + 1 - a = i - a + 1 by omega, List.take_succ_eq_append_getElem (show i - a < ((chs v.text).drop a).length by simp; omega)]
          simp [show a + (i - a) = i by omega]
        refine w_stE 0 [.int .i64 4, .int .i64 0, .int .i64 0, strV ((((chs v.text).drop a).take (i - a)).flatten ++ (chs v.text)[i]), .slice none 0 0, .slice none 0 0] rfl rfl rfl rfl (Nat.le_of_ble_eq_true rfl) rfl rfl ?_
        rw [← hstep]
        (apply w_done0; apply w_reg; apply w_mvi; rfl; apply w_add; rfl; rfl; omega; omega; apply w_mvi; rfl; apply w_done0)
        exact ⟨i + 1, by omega, ⟨rfl, rfl, rfl, rfl, int_eq (by omega), trivial⟩, rfl, rfl, by omega, by omega⟩
      · obtain rfl : i = b := by omega
        (apply w_sq; apply w_sq; apply w_reg; apply w_mvi; rfl; apply w_mvi; rfl; apply w_lss; rfl; rfl; apply w_done0; refine w_ifdF rfl (by omega) ?_; apply w_exit; apply w_sq; apply w_reg; apply w_ldb 0; rfl; rfl; rfl)
        refine w_stE 1 [.int .i64 4, .int .i64 0, .int .i64 0, strV (((chs v.text).drop a).take (i - a)).flatten, .slice none 0 0, .slice none 0 0] rfl rfl rfl rfl (Nat.le_of_ble_eq_true rfl) rfl rfl ?_
        (apply w_mvi; rfl; apply w_done0; apply w_ret)
        exact finVE 1 rfl rfl rfl (RVal.close (v := .mk 4 0 0 (((chs v.text).drop a).take (i - a)).flatten [] []) i64_4 i64_0 i64_0 (Nat.le_trans (hzz _) it) RSl.nil RSl.nil)
    rw [intoF, if_neg k0, if_neg (fun h => s0 h.1), if_neg (fun h => s1 h.1), if_neg (fun h => v5 h.2), if_neg (fun h => v4 h.2)] at hF; cases hF
    (apply w_sq; apply w_sq; apply w_reg; apply w_fld; rfl; apply w_ld; rfl; exact hc_i 3 rfl rfl; apply w_eql; rfl; rfl; apply w_done0; refine w_ifdF rfl (by omega) ?_; apply w_skip; apply w_sq; apply w_sq; apply w_reg; apply w_fld; rfl; apply w_ld; rfl; exact hc_i 2 rfl rfl; apply w_eql; rfl; rfl; apply w_mvb; rfl; refine w_gdF rfl (by omega) ?_; apply w_gF; rfl; apply w_gF; rfl; apply w_gF; rfl; apply w_pickFb; rfl; rfl; apply w_mvb; rfl; apply w_gT; rfl; apply w_fld; rfl; apply w_gT; rfl; apply w_ld; rfl; exact hc_i 2 rfl rfl; apply w_gT; rfl; apply w_eql; rfl; rfl; apply w_gT; rfl; apply w_mvb; rfl; refine w_gdF rfl (by omega) ?_; apply w_gF; rfl; apply w_gF; rfl; apply w_gF; rfl; apply w_gT; rfl; apply w_pickFb; rfl; rfl; apply w_pickFb; rfl; rfl; apply w_done0; apply w_ifF; rfl; apply w_skip; apply w_sq; apply w_sq; apply w_reg; apply w_fld; rfl; apply w_ld; rfl; exact hc_i 2 rfl rfl; apply w_eql; rfl; rfl; apply w_mvb; rfl; refine w_gdT rfl (by omega) ?_; apply w_gT; rfl; apply w_fld; rfl; apply w_gT; rfl; apply w_ld; rfl; exact hc_i 3 rfl rfl; apply w_gT; rfl; apply w_eql; rfl; rfl; apply w_pickTb; rfl; rfl; apply w_done0; refine w_ifdF rfl (by omega) ?_; apply w_skip; apply w_sq; apply w_sq; apply w_reg; apply w_fld; rfl; apply w_ld; rfl; exact hc_i 2 rfl rfl; apply w_eql; rfl; rfl; apply w_mvb; rfl; refine w_gdT rfl (by omega) ?_; apply w_gT; rfl; apply w_fld; rfl; apply w_gT; rfl; apply w_ld; rfl; exact hc_i 3 rfl rfl; apply w_gT; rfl; apply w_eql; rfl; rfl; apply w_pickTb; rfl; rfl; apply w_done0; refine w_ifdF rfl (by omega) ?_; apply w_skip; apply w_sq; apply w_reg; apply w_ldb 0; rfl; rfl; rfl)
    refine w_stE 1 [.int .i64 0, .int .i64 0, .int .i64 0, strV [], .slice none 0 0, .slice none 0 0] rfl rfl rfl rfl (Nat.le_of_ble_eq_true rfl) rfl rfl ?_
    (apply w_mvi; rfl; apply w_done0; apply w_ret)
    exact finVE 1 rfl rfl rfl RVal.zero
  rw [intoF, if_neg k0, if_neg (fun h => s0 h.1), if_neg (fun h => s1 h.1), if_neg (fun h => s2 h.1), if_neg (fun h => s2 h.1)] at hF; cases hF
  (apply w_sq; apply w_sq; apply w_reg; apply w_fld; rfl; apply w_ld; rfl; exact hc_i 3 rfl rfl; apply w_eql; rfl; rfl; apply w_done0; refine w_ifdF rfl (by omega) ?_; apply w_skip; apply w_sq; apply w_sq; apply w_reg; apply w_fld; rfl; apply w_ld; rfl; exact hc_i 2 rfl rfl; apply w_eql; rfl; rfl; apply w_mvb; rfl; refine w_gdF rfl (by omega) ?_; apply w_gF; rfl; apply w_gF; rfl; apply w_gF; rfl; apply w_pickFb; rfl; rfl; apply w_mvb; rfl; apply w_gT; rfl; apply w_fld; rfl; apply w_gT; rfl; apply w_ld; rfl; exact hc_i 2 rfl rfl; apply w_gT; rfl; apply w_eql; rfl; rfl; apply w_gT; rfl; apply w_mvb; rfl; refine w_gdF rfl (by omega) ?_; apply w_gF; rfl; apply w_gF; rfl; apply w_gF; rfl; apply w_gT; rfl; apply w_pickFb; rfl; rfl; apply w_pickFb; rfl; rfl; apply w_done0; apply w_ifF; rfl; apply w_skip; apply w_sq; apply w_sq; apply w_reg; apply w_fld; rfl; apply w_ld; rfl; exact hc_i 2 rfl rfl; apply w_eql; rfl; rfl; apply w_mvb; rfl; refine w_gdF rfl (by omega) ?_; apply w_gF; rfl; apply w_gF; rfl; apply w_gF; rfl; apply w_pickFb; rfl; rfl; apply w_done0; apply w_ifF; rfl; apply w_skip; apply w_sq; apply w_sq; apply w_reg; apply w_fld; rfl; apply w_ld; rfl; exact hc_i 2 rfl rfl; apply w_eql; rfl; rfl; apply w_mvb; rfl; refine w_gdF rfl (by omega) ?_; apply w_gF; rfl; apply w_gF; rfl; apply w_gF; rfl; apply w_pickFb; rfl; rfl; apply w_done0; apply w_ifF; rfl; apply w_skip; apply w_sq; apply w_reg; apply w_ldb 0; rfl; rfl; rfl)
  refine w_stE 1 [.int .i64 0, .int .i64 0, .int .i64 0, strV [], .slice none 0 0, .slice none 0 0] rfl rfl rfl rfl (Nat.le_of_ble_eq_true rfl) rfl rfl ?_
  (apply w_mvi; rfl; apply w_done0; apply w_ret)
  exact finVE 1 rfl rfl rfl RVal.zero
end Go.Gk.Val
end
