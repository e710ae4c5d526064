/-
  Our own texts, one behind the other: GkV9 GkVArg0 GkM2 GkM3 GkU3 GkS1 GkP0 Gk18 Gk24 GkP1 GkP2 Gk25.
-/
import Derived.Lib.RuneCountTail
import Derived.Lib.QuoteLoop
import Derived.Lib.MapLaws
import Derived.Lib.ValidLaws
import Derived.Sort.Walk0
import Derived.Shelf.Sort.Plain
import Derived.Shelf.Slices.In.SortNone
import Derived.Test.YtdhggoahkbnmmaaDoorPkD
section
/-
  Values: copies.
-/
namespace Go.Gk.Val
open Go Go.Gk
attribute [local irreducible] gwp gws

/-! ### how many values and keys -/
mutual
def cntV : V → Nat
  | .mk _ _ _ _ l ks => 1 + ks.length + cnts l
def cnts : List V → Nat
  | [] => 0
  | x :: l => cntV x + cnts l
end
theorem cntV_eq (v : V) : cntV v = 1 + v.keys.length + cnts v.list := by obtain ⟨k, m, e, t, l, ks⟩ := v; rfl
theorem cnts_mem {x : V} : ∀ {l : List V}, x ∈ l → cntV x ≤ cnts l
  | y :: l, h => by
    rcases List.mem_cons.1 h with rfl | h
    · simp only [cnts]; omega
    · have := cnts_mem h; simp only [cnts]; omega
theorem cnts_len : ∀ l : List V, l.length ≤ cnts l
  | [] => Nat.le_refl _
  | x :: l => by
    have h1 := cntV_eq x
    have h2 := cnts_len l
    simp only [cnts, List.length_cons]; omega
theorem klens_len : ∀ l : List (List UInt8), l.length ≤ klens l
  | [] => Nat.le_refl _
  | x :: l => by
    have := klens_len l
    simp only [klens, List.length_cons]; omega
theorem cnts_bulk : ∀ {l : List V}, (∀ x ∈ l, cntV x ≤ bulkV x) → cnts l ≤ bulks l
  | [], _ => Nat.le_refl _
  | x :: l, h => by
    have h1 := h x (List.mem_cons_self ..)
    have h2 := cnts_bulk (l := l) (fun y hy => h y (List.mem_cons_of_mem _ hy))
    simp only [cnts, bulks]; omega
theorem cnt_bulk (v : V) : cntV v ≤ bulkV v := by
  induction v using V.ind with
  | h v ih =>
    have h1 := bulkV_eq v
    have h2 := cntV_eq v
    have h3 := klens_len v.keys
    have h4 := cnts_bulk ih
    omega
theorem cnt_list {v : V} : v.list.length ≤ cntV v := by
  have h1 := cntV_eq v
  have h2 := cnts_len v.list
  omega
theorem cnt_keys {v : V} : v.keys.length ≤ cntV v := by
  have h1 := cntV_eq v
  omega
theorem cnt_mem {v x : V} (h : x ∈ v.list) : cntV x ≤ cntV v := by
  have h1 := cntV_eq v
  have h2 := cnts_mem h
  omega

/-! ### how many values, keys and letters of texts -/
mutual
def txtV : V → Nat
  | .mk _ _ _ t l ks => 1 + t.length + ks.length + txts l
def txts : List V → Nat
  | [] => 0
  | x :: l => txtV x + txts l
end
theorem txtV_eq (v : V) : txtV v = 1 + v.text.length + v.keys.length + txts v.list := by obtain ⟨k, m, e, t, l, ks⟩ := v; rfl
theorem txts_mem {x : V} : ∀ {l : List V}, x ∈ l → txtV x ≤ txts l
  | y :: l, h => by
    rcases List.mem_cons.1 h with rfl | h
    · simp only [txts]; omega
    · have := txts_mem h; simp only [txts]; omega
theorem cnts_txt : ∀ {l : List V}, (∀ x ∈ l, cntV x ≤ txtV x) → cnts l ≤ txts l
  | [], _ => Nat.le_refl _
  | x :: l, h => by
    have h1 := h x (List.mem_cons_self ..)
    have h2 := cnts_txt (l := l) (fun y hy => h y (List.mem_cons_of_mem _ hy))
    simp only [cnts, txts]; omega
theorem cnt_txt (v : V) : cntV v ≤ txtV v := by
  induction v using V.ind with
  | h v ih =>
    have h1 := txtV_eq v
    have h2 := cntV_eq v
    have h4 := cnts_txt ih
    omega
theorem txts_bulk : ∀ {l : List V}, (∀ x ∈ l, txtV x ≤ bulkV x) → txts l ≤ bulks l
  | [], _ => Nat.le_refl _
  | x :: l, h => by
    have h1 := h x (List.mem_cons_self ..)
    have h2 := txts_bulk (l := l) (fun y hy => h y (List.mem_cons_of_mem _ hy))
    simp only [txts, bulks]; omega
theorem txt_bulk (v : V) : txtV v ≤ bulkV v := by
  induction v using V.ind with
  | h v ih =>
    have h1 := txtV_eq v
    have h2 := bulkV_eq v
    have h3 := klens_len v.keys
    have h4 := txts_bulk ih
    omega
theorem depth_txt (v : V) : depthV v ≤ txtV v := by
  induction v using V.ind with
  | h v ih =>
    have h1 := txtV_eq v
    obtain ⟨n, hn⟩ : ∃ n, txtV v = n + 1 := ⟨txtV v - 1, by omega⟩
    rw [hn, depth_le]
    intro x hx
    have := txts_mem hx
    have := ih x hx
    omega

section
variable {P : Program} {pan : List PanicEntry → Post} {Qn : Env → Post} {Ls L : List PHeap} {ρ : Env} {d : PHeap} {s : GS} {t : Nat} {tk : Bool}
def z6 : List Value := [.int .i64 0, .int .i64 0, .int .i64 0, strV [], .slice none 0 0, .slice none 0 0]
theorem six {cs : List Value} (h : cs.length = 6) : ∃ a0 a1 a2 a3 a4 a5, cs = [a0, a1, a2, a3, a4, a5] := by
  match cs, h with
  | [a, b, c, d, e, f], _ => exact ⟨a, b, c, d, e, f, rfl⟩
/-- A literal of one value. -/
theorem w_bsV {x : Operand} {cs : List Value} (ex : ev ρ x = .agg cs.toArray) (hc : cs.length = 6) (h : ∀ b T, gws P pan Qn s Ls (upd ρ t (.slice (some ⟨b, 0, none⟩) 1 1)) d (bx b T cs :: L)) :
    gws P pan Qn (.op false ⟨some t, none, .bsl 1 6 [.int .i64 0, .int .i64 0, .int .i64 0, strV [], .slice none 0 0, .slice none 0 0] [(0, x)]⟩ s) Ls ρ d L := by
  obtain ⟨a0, a1, a2, a3, a4, a5, rfl⟩ := six hc
  refine w_bsl (by omega) ?_ h
  simp [Instr.fill, zrow, List.range, List.range.loop, ex, Value.cells]
end

/-! ### the reference's copy -/
def RCopyOk (P : Program) (f : FuncId) : Prop := ∀ (v : V) {d : PHeap} {cs : List Value}, RVal d cs v → cntV v ≤ 1000000000 → GCall P f [.agg cs.toArray] d [] (Ret fun r d' L' => L' = [] ∧ ∃ cs', r = .agg cs'.toArray ∧ RVal d' cs' v)
def g_thimbleref03_Copy (f_thimbleref03_Copy : Nat) : GFun :=
 ⟨35, [(.cell 2 (some 6))],
 (.seq
 (.reg false (.op false ⟨(some 1), none, (.box (.tmp 0))⟩
  (.op false ⟨(some 2), none, (.alo (.agg #[(.int .i64 0), (.int .i64 0), (.int .i64 0), (strV []), (.slice none 0 0), (.slice none 0 0)]))⟩ .done)))
 (.seq
 (.reg true (.op true ⟨(some 5), none, (.fld 0 (.tmp 1))⟩
  (.op true ⟨(some 6), none, (.ld none (.tmp 5))⟩
  (.op true ⟨(some 7), none, (.fld 1 (.tmp 1))⟩
  (.op true ⟨(some 8), none, (.ld (some 2) (.tmp 7))⟩
  (.op true ⟨(some 9), none, (.fld 3 (.tmp 1))⟩
  (.op true ⟨(some 10), none, (.ld none (.tmp 9))⟩
  (.op true ⟨(some 12), none, (.fld 5 (.tmp 1))⟩
  (.op true ⟨(some 13), none, (.ld none (.tmp 12))⟩
  (.alt ⟨(some 11), none, (.bsl 0 1 [(strV [])] [])⟩
  (.alt ⟨(some 14), none, (.app 1 16 [(strV [])] (.tmp 11) (.tmp 13))⟩
  (.op true ⟨(some 15), none, (.bld [(0, 1), (1, 2), (3, 1), (4, 1), (5, 1)] [(.int .i64 0), (.int .i64 0), (.int .i64 0), (strV []), (.slice none 0 0), (.slice none 0 0)] [(0, (.tmp 6)), (1, (.tmp 8)), (2, (.tmp 10)), (4, (.tmp 14))])⟩
  (.op false ⟨(some 3), none, (.alo (.agg #[(.int .i64 0), (.int .i64 0), (.int .i64 0), (strV []), (.slice none 0 0), (.slice none 0 0)]))⟩
  (.bar (.op false ⟨none, none, (.st 6 (.tmp 3) (.tmp 15))⟩ .done)))) (.op false ⟨(some 3), none, (.alo (.agg #[(.int .i64 0), (.int .i64 0), (.int .i64 0), (strV []), (.slice none 0 0), (.slice none 0 0)]))⟩
  (.op false ⟨(some 14), none, (.app 1 16 [(strV [])] (.tmp 11) (.tmp 13))⟩
  (.op true ⟨(some 15), none, (.bld [(0, 1), (1, 2), (3, 1), (4, 1), (5, 1)] [(.int .i64 0), (.int .i64 0), (.int .i64 0), (strV []), (.slice none 0 0), (.slice none 0 0)] [(0, (.tmp 6)), (1, (.tmp 8)), (2, (.tmp 10)), (4, (.tmp 14))])⟩
  (.bar (.op false ⟨none, none, (.st 6 (.tmp 3) (.tmp 15))⟩ .done)))))) (.op false ⟨(some 3), none, (.alo (.agg #[(.int .i64 0), (.int .i64 0), (.int .i64 0), (strV []), (.slice none 0 0), (.slice none 0 0)]))⟩
  (.op false ⟨(some 11), none, (.bsl 0 1 [(strV [])] [])⟩
  (.op false ⟨(some 14), none, (.app 1 16 [(strV [])] (.tmp 11) (.tmp 13))⟩
  (.op true ⟨(some 15), none, (.bld [(0, 1), (1, 2), (3, 1), (4, 1), (5, 1)] [(.int .i64 0), (.int .i64 0), (.int .i64 0), (strV []), (.slice none 0 0), (.slice none 0 0)] [(0, (.tmp 6)), (1, (.tmp 8)), (2, (.tmp 10)), (4, (.tmp 14))])⟩
  (.bar (.op false ⟨none, none, (.st 6 (.tmp 3) (.tmp 15))⟩ .done))))))))))))))))
 (.seq (.seq
 (.reg false (.op false ⟨(some 4), none, (.mv (.const (.int .i64 0)))⟩ .done)) (.block 0 (.loop
 (.seq (.seq
 (.reg false (.op false ⟨(some 16), none, (.mv (.tmp 4))⟩
  (.op false ⟨(some 17), none, (.fld 4 (.tmp 1))⟩
  (.op false ⟨(some 18), none, (.ld none (.tmp 17))⟩
  (.op false ⟨(some 19), none, (.len (.tmp 18))⟩
  (.op false ⟨(some 20), none, (.bin .lss (.tmp 16) (.tmp 19))⟩ .done)))))) (.cond (.tmp 20) .skip (.exit 0)))
 (.seq (.block 1
 (.reg true (.op true ⟨(some 23), none, (.fld 4 (.tmp 3))⟩
  (.op true ⟨(some 24), none, (.ld none (.tmp 23))⟩
  (.op true ⟨(some 25), none, (.fld 4 (.tmp 1))⟩
  (.op true ⟨(some 26), none, (.ld none (.tmp 25))⟩
  (.op true ⟨(some 27), none, (.mv (.tmp 4))⟩
  (.op true ⟨(some 28), none, (.idx 6 (.tmp 26) (.tmp 27))⟩
  (.op true ⟨(some 29), none, (.ld (some 6) (.tmp 28))⟩
  (.op false ⟨(some 30), none, (.call f_thimbleref03_Copy [(.tmp 29)])⟩
  (.op false ⟨(some 31), none, (.bsl 1 6 [(.int .i64 0), (.int .i64 0), (.int .i64 0), (strV []), (.slice none 0 0), (.slice none 0 0)] [(0, (.tmp 30))])⟩
  (.op false ⟨(some 32), none, (.app 6 88 [(.int .i64 0), (.int .i64 0), (.int .i64 0), (strV []), (.slice none 0 0), (.slice none 0 0)] (.tmp 24) (.tmp 31))⟩
  (.op true ⟨(some 33), none, (.fld 4 (.tmp 3))⟩
  (.bar (.op false ⟨none, none, (.st 1 (.tmp 33) (.tmp 32))⟩ .done)))))))))))))))
 (.reg false (.op false ⟨(some 21), none, (.mv (.tmp 4))⟩
  (.op false ⟨(some 22), none, (.bin .add (.tmp 21) (.const (.int .i64 1)))⟩
  (.op false ⟨(some 4), none, (.mv (.tmp 22))⟩ .done)))))))))
 (.seq
 (.reg false (.op false ⟨(some 34), none, (.ld (some 6) (.tmp 3))⟩
  (.op false ⟨none, none, (.st 6 (.tmp 2) (.tmp 34))⟩ .done))) .ret))))⟩

set_option maxHeartbeats 1000000 in
theorem rcopy_ok {P : Program} {f : FuncId} (hd : dec P f = some (g_thimbleref03_Copy f)) : RCopyOk P f := by
  intro v
  induction v using V.ind with
  | h v ih =>
  intro d cs hv hb
  refine GCall_of hd (Nat.le_of_ble_eq_true rfl) ?_
  have hb1 := cnt_list (v := v)
  have hb2 := cnt_keys (v := v)
  obtain ⟨lv, kv, rfl, ik, im, ie, it, hl, hks⟩ := hv.open
  obtain ⟨la, lc, rfl⟩ := RSl.val hl
  obtain ⟨ka, kc, rfl⟩ := RSl.val hks
  show gwp P _ _ _ _ _
  apply w_sq; apply w_reg
  refine w_boxa (l := [.int .i64 v.kind, .int .i64 v.m, .int .i64 v.e, strV v.text, .slice la v.list.length lc, .slice ka v.keys.length kc]) rfl (fun b1 T1 => ?_)
  refine w_frz (fun d1 hl1 hg1 => ?_)
  have hc1 : DCs d1 b1 0 [.int .i64 v.kind, .int .i64 v.m, .int .i64 v.e, strV v.text, .slice la v.list.length lc, .slice ka v.keys.length kc] := dcs_bx hg1
  have hl' : RSl 6 RVal d1 (.slice la v.list.length lc) v.list := RVals.mono hl hl1
  have hks' : RSl 1 RStr d1 (.slice ka v.keys.length kc) v.keys := RStrs.mono hks hl1
  (apply w_alo; intro _ _; apply w_done0)
  rename_i b2 T2
  refine w_mid (fun ρ d' L' => Le d1 d' ∧ ∃ b3 T3 kv, SlotsAre ρ [(1, .pointer (some ⟨b1, 0, none⟩)), (2, .pointer (some ⟨b2, 0, none⟩)), (3, .pointer (some ⟨b3, 0, none⟩))] ∧ RStrs d' kv v.keys ∧
    L' = [bx b2 T2 [.int .i64 0, .int .i64 0, .int .i64 0, strV [], .slice none 0 0, .slice none 0 0], bx b3 T3 [.int .i64 v.kind, .int .i64 v.m, .int .i64 v.e, strV v.text, .slice none 0 0, kv]]) ?_ ?_
  · refine w_drawn ?_
    (apply w_fld; rfl; apply w_ld; rfl; exact hc_ds (by assumption) rfl; apply w_fld; rfl; apply w_lddp; rfl; assumption; rfl; apply w_fld; rfl; apply w_ld; rfl; exact hc_ds (by assumption) rfl; apply w_fld; rfl; apply w_ld; rfl; exact hc_ds (by assumption) rfl)
    refine w_alt ?_ ?_
    · refine w_bsl (cs := []) (by omega) rfl (fun b11 T11 => ?_)
      refine w_alt ?_ ?_
      · refine w_appG (R := RStr) 0 rfl rfl (GRow.lit0 (R := RStr) (sz := 1)) rfl (RSl.src (R := RStr) (xs := v.keys) hks' cell1_str (by omega) _) (by omega) (by simp; omega) (by simp; omega) (fun v14 h14 o14 => ?_)
        have o14 : GRow 1 RStr d1 v14 v.keys h14 := o14
        obtain ⟨ka', kc', rfl⟩ := o14.val
        (apply w_bvC; rfl; rfl; rfl; rfl; apply w_alo; intro _ _; apply w_bar)
        rename_i b3 T3
        refine w_stE 1 [.int .i64 v.kind, .int .i64 v.m, .int .i64 v.e, strV v.text, .slice none 0 0, .slice ka' v.keys.length kc'] rfl rfl rfl rfl (Nat.le_of_ble_eq_true rfl) rfl rfl ?_
        exact w_doneE ⟨_, _, (Vs.pick [2, 0, 1] rfl).trans Vs.freeze, Le.join_left _ _, b3, T3, _, ⟨rfl, rfl, rfl, trivial⟩, o14.rsl mono_str (by omega) (Le.join_left _ _) (Le.join_right _ _), rfl⟩
      · (apply w_alo; intro _ _)
        rename_i b3 T3
        refine w_appG (R := RStr) 1 rfl rfl (GRow.lit0 (R := RStr) (sz := 1)) rfl (RSl.src (R := RStr) (xs := v.keys) hks' cell1_str (by omega) _) (by omega) (by simp; omega) (by simp; omega) (fun v14 h14 o14 => ?_)
        have o14 : GRow 1 RStr d1 v14 v.keys h14 := o14
        obtain ⟨ka', kc', rfl⟩ := o14.val
        (apply w_bvC; rfl; rfl; rfl; rfl; apply w_bar)
        refine w_stE 1 [.int .i64 v.kind, .int .i64 v.m, .int .i64 v.e, strV v.text, .slice none 0 0, .slice ka' v.keys.length kc'] rfl rfl rfl rfl (Nat.le_of_ble_eq_true rfl) rfl rfl ?_
        exact w_doneE ⟨_, _, (Vs.pick [2, 0, 1] rfl).trans Vs.freeze, Le.join_left _ _, b3, T3, _, ⟨rfl, rfl, rfl, trivial⟩, o14.rsl mono_str (by omega) (Le.join_left _ _) (Le.join_right _ _), rfl⟩
    · (apply w_alo; intro _ _)
      rename_i b3 T3
      refine w_bsl (cs := []) (by omega) rfl (fun b11 T11 => ?_)
      refine w_appG (R := RStr) 0 rfl rfl (GRow.lit0 (R := RStr) (sz := 1)) rfl (RSl.src (R := RStr) (xs := v.keys) hks' cell1_str (by omega) _) (by omega) (by simp; omega) (by simp; omega) (fun v14 h14 o14 => ?_)
      have o14 : GRow 1 RStr d1 v14 v.keys h14 := o14
      obtain ⟨ka', kc', rfl⟩ := o14.val
      (apply w_bvC; rfl; rfl; rfl; rfl; apply w_bar)
      refine w_stE 2 [.int .i64 v.kind, .int .i64 v.m, .int .i64 v.e, strV v.text, .slice none 0 0, .slice ka' v.keys.length kc'] rfl rfl rfl rfl (Nat.le_of_ble_eq_true rfl) rfl rfl ?_
      exact w_doneE ⟨_, _, (Vs.pick [1, 0, 2] rfl).trans Vs.freeze, Le.join_left _ _, b3, T3, _, ⟨rfl, rfl, rfl, trivial⟩, o14.rsl mono_str (by omega) (Le.join_left _ _) (Le.join_right _ _), rfl⟩
  rintro ρ d2 L' ⟨hl2, b3, T3, kv, hsl, hkv, hL⟩
  subst hL
  obtain ⟨ka', kc', rfl⟩ := RSl.val hkv
  refine gwp_slots _ hsl ?_
  clear hsl
  apply w_sq; apply w_sq; apply w_reg
  refine w_vs d2 [bx b2 T2 [.int .i64 0, .int .i64 0, .int .i64 0, strV [], .slice none 0 0, .slice none 0 0], bx b3 T3 [.int .i64 v.kind, .int .i64 v.m, .int .i64 v.e, strV v.text, .slice none 0 0, .slice ka' v.keys.length kc'], emp] (Vs.emp.trans (Vs.pick [1, 2, 0] rfl)) ?_
  (apply w_mvi; rfl; apply w_done0; apply w_block)
  refine w_loopS (α := Nat) (fun i => [(1, .pointer (some ⟨b1, 0, none⟩)), (2, .pointer (some ⟨b2, 0, none⟩)), (3, .pointer (some ⟨b3, 0, none⟩)), (4, .int .i64 i)])
    (fun i d' L' => Le d2 d' ∧ i ≤ v.list.length ∧ ∃ ra rc h, GRow 6 RVal d' (.slice ra i rc) (v.list.take i) h ∧ L' = [bx b2 T2 [.int .i64 0, .int .i64 0, .int .i64 0, strV [], .slice none 0 0, .slice none 0 0], bx b3 T3 [.int .i64 v.kind, .int .i64 v.m, .int .i64 v.e, strV v.text, .slice ra i rc, .slice ka' v.keys.length kc'], h])
    (fun i => v.list.length - i) 0 ⟨rfl, rfl, rfl, rfl, trivial⟩ ⟨Le.refl _, Nat.zero_le _, none, 0, emp, GRow.nil, rfl⟩ ?_
  rintro i ρ d3 L' ⟨hl3, hi, ra, rc, h, hrow, hL⟩
  subst hL
  have hc3 := hc1.mono (hl2.trans hl3)
  have hl3' : RSl 6 RVal d3 (.slice la v.list.length lc) v.list := RVals.mono hl' (hl2.trans hl3)
  by_cases hc : i < v.list.length
  · (apply w_sq; apply w_sq; apply w_reg; apply w_mvi; rfl; apply w_fld; rfl; apply w_ld; rfl; exact hc_ds (by assumption) rfl; apply w_len; rfl; apply w_lss; rfl; rfl; apply w_done0; refine w_ifdT rfl (by omega) ?_; apply w_skip; apply w_sq; apply w_block)
    refine w_drawnA [bx b2 T2 [.int .i64 0, .int .i64 0, .int .i64 0, strV [], .slice none 0 0, .slice none 0 0], bx b3 T3 [.int .i64 v.kind, .int .i64 v.m, .int .i64 v.e, strV v.text, .slice ra i rc, .slice ka' v.keys.length kc']] [h] rfl ?_
    (apply w_fld; rfl; apply w_ld; rfl; exact hc_i 1 rfl rfl; apply w_fld; rfl; apply w_ld; rfl; exact hc_ds (by assumption) rfl; apply w_mvi; rfl; refine w_idxR (sz := 6) (R := RVal) (by rfl) (by assumption) (by rfl) rfl (by omega) ?_; rintro _ _ _ _ _ _; apply w_ldd; rfl; assumption; assumption)
    rename_i cs hcs hD hR
    refine w_call0 rfl (ih _ (List.getElem_mem hc) hR (by have := cnt_mem (List.getElem_mem hc); omega)) (fun r d4 L4 hl4 ⟨hL, cs', hr, hR'⟩ => ?_)
    subst hL; subst hr
    refine w_bsV rfl hR'.len (fun b31 T31 => ?_)
    have hrow4 : GRow 6 RVal d4 (.slice ra i rc) (v.list.take i) h := GRow.mono (R := RVal) mono_val hrow hl4
    have htl : (v.list.take i).length = i := by simp; omega
    refine w_appL (R := RVal) 0 rfl rfl hrow4 rfl (GRow.lit1 hR'.len hR') cell1_val (by omega) (by simp; omega) (by simp; omega) (fun v5 h5 o5 => ?_)
    rw [← List.take_succ_eq_append_getElem hc] at o5
    obtain ⟨a5, c5, rfl⟩ := o5.val
    have hlt : (v.list.take (i + 1)).length = i + 1 := by simp; omega
    rw [hlt] at o5 ⊢
    (apply w_fld; rfl; apply w_bar)
    refine w_stE 1 [.int .i64 v.kind, .int .i64 v.m, .int .i64 v.e, strV v.text, .slice a5 (i + 1) c5, .slice ka' v.keys.length kc'] rfl rfl rfl rfl (Nat.le_of_ble_eq_true rfl) rfl rfl ?_
    (apply w_done0; apply w_reg; apply w_mvi; rfl; apply w_add; rfl; rfl; omega; omega; apply w_mvi; rfl; apply w_done0)
    exact ⟨i + 1, by omega, ⟨rfl, rfl, rfl, rfl, trivial⟩, hl3.trans hl4, hc, a5, c5, h5, o5, rfl⟩
  · obtain rfl : i = v.list.length := by omega
    (apply w_sq; apply w_sq; apply w_reg; apply w_mvi; rfl; apply w_fld; rfl; apply w_ld; rfl; exact hc_ds (by assumption) rfl; apply w_len; rfl; apply w_lss; rfl; rfl; apply w_done0; refine w_ifdF rfl (by omega) ?_; apply w_exit; apply w_sq; apply w_reg; apply w_ldb 1; rfl; rfl; rfl)
    refine w_stE 0 [.int .i64 v.kind, .int .i64 v.m, .int .i64 v.e, strV v.text, .slice ra v.list.length rc, .slice ka' v.keys.length kc'] rfl rfl rfl rfl (Nat.le_of_ble_eq_true rfl) rfl rfl ?_
    (apply w_done0; apply w_ret)
    refine finF [.agg [.int .i64 v.kind, .int .i64 v.m, .int .i64 v.e, strV v.text, .slice ra v.list.length rc, .slice ka' v.keys.length kc'].toArray] ⟨res_cell 0 rfl rfl rfl, trivial⟩ (fun d' hld hk => ?_)
    refine ⟨rfl, _, rfl, RVal.close ik im ie it ?_ (RStrs.mono hkv (hl3.trans hld))⟩
    have := hrow.rsl (R := RVal) mono_val (by omega) hld (hk h (by simp))
    rwa [List.take_length] at this

/-! ### clones, and the copy -/
def CloneOk {α : Type} (R : PHeap → List Value → α → Prop) (by_ : Nat) (P : Program) (f : FuncId) : Prop := ∀ {d : PHeap} {v : Value} {xs : List α}, RSl 1 R d v xs → xs.length * by_ ≤ 140737488355328 →
  GCall P f [v] d [] (Ret fun r d' L' => d' = d ∧ ∃ h, L' = [h] ∧ GRow 1 R d r xs h)
def g_slices_Clone_string_string : GFun :=
 ⟨8, [(.tmp 2)],
 (.seq
 (.reg false (.op false ⟨(some 2), none, (.mv (.const (.slice none 0 0)))⟩ .done))
 (.seq (.seq
 (.reg false (.op false ⟨(some 3), none, (.mv (.tmp 0))⟩
  (.op false ⟨(some 4), none, (.eqs false (.tmp 3) (.const (.slice none 0 0)))⟩ .done))) (.cond (.tmp 4)
 (.seq
 (.reg false (.op false ⟨(some 2), none, (.mv (.const (.slice none 0 0)))⟩ .done)) .ret) .skip))
 (.seq
 (.reg false (.op false ⟨(some 5), none, (.bsl 0 1 [(strV [])] [])⟩
  (.op false ⟨(some 6), none, (.mv (.tmp 0))⟩
  (.op false ⟨(some 7), none, (.app 1 16 [(strV [])] (.tmp 5) (.tmp 6))⟩
  (.op false ⟨(some 2), none, (.mv (.tmp 7))⟩ .done))))) .ret)))⟩

theorem clone_str {P : Program} {f : FuncId} (hd : dec P f = some g_slices_Clone_string_string) : CloneOk RStr 16 P f := by
  intro d v xs hv hb
  have hv' := hv
  have hxl := RSl.len_le hv
  obtain ⟨a, c, b, o, rfl, h2, h3, h4, h5, _⟩ := hv
  refine GCall_of hd (Nat.le_of_ble_eq_true rfl) ?_
  show gwp P _ _ _ _ _
  cases a with
  | none =>
    have : xs = [] := List.eq_nil_of_length_eq_zero (by have := h4 rfl; omega)
    subst this
    apply w_sq; apply w_reg
    refine w_vs d [emp] Vs.emp ?_
    (apply w_mvs; rfl; apply w_done0; apply w_sq; apply w_sq; apply w_reg; apply w_mvs; rfl; apply w_eqsN; rfl; rfl; apply w_done0; apply w_ifT; rfl; apply w_sq; apply w_reg; apply w_mvs; rfl; apply w_done0; apply w_ret)
    exact fin1 (L' := [emp]) rfl (List.Sublist.refl _) ⟨rfl, emp, rfl, GRow.nil⟩
  | some a =>
    (apply w_sq; apply w_reg; apply w_mvs; rfl; apply w_done0; apply w_sq; apply w_sq; apply w_reg; apply w_mvs; rfl; apply w_eqsS; rfl; rfl; apply w_done0; apply w_ifF; rfl; apply w_skip; apply w_sq; apply w_reg)
    refine w_bsl (cs := []) (by omega) rfl (fun b8 T8 => ?_)
    (apply w_mvs; rfl)
    refine w_appG 0 rfl rfl (GRow.lit0 (R := RStr) (sz := 1)) rfl (RSl.src (R := RStr) (xs := xs) hv' cell1_str (by omega) _) (by omega) (by simp; omega) (by simp; omega) (fun v5 h5 hrow5 => ?_)
    (apply w_mv; apply w_done0; apply w_ret)
    exact fin1 (L' := [h5]) rfl (List.Sublist.refl _) ⟨rfl, h5, rfl, hrow5⟩
theorem OVal.cells {cs : List Value} {v : V} {h : PHeap} (o : OVal cs v h) : cs.length = 6 ∧ (cs.all (·.oneCell')) = true :=
  ⟨(o.rval (Le.refl h)).len, cell1_val _ _ _ (o.rval (Le.refl h))⟩
/-- A value's own memory, in parts. -/
def OParts (v : V) (cs : List Value) (L : List PHeap) : Prop := ∃ lv kv hk hl ccs hs, cs = [.int .i64 v.kind, .int .i64 v.m, .int .i64 v.e, strV v.text, lv, kv] ∧ GRow 1 RStr emp kv v.keys hk ∧ ORow 6 lv v.list.length ccs hl ∧ hs.length = v.list.length ∧
  (∀ i (h : i < v.list.length), OVal (chunk ccs i 6) v.list[i] (hs.getD i emp)) ∧ L = hk :: hl :: hs
def VCopyOk (P : Program) (f : FuncId) : Prop := ∀ (v : V) {d : PHeap} {cs : List Value}, RVal d cs v → cntV v ≤ 1000000000 → GCall P f [.agg cs.toArray] d [] (Ret fun r d' L' => d' = d ∧ ∃ cs' h, r = .agg cs'.toArray ∧ L' = [h] ∧ OVal cs' v h)
theorem vcopy_pack {P : Program} {f : FuncId} {v : V} {d : PHeap} {cs : List Value} (hv : RVal d cs v) (h : GCall P f [.agg cs.toArray] d [] (Ret fun r d' L' => d' = d ∧ ∃ cs', r = .agg cs'.toArray ∧ OParts v cs' L')) :
    GCall P f [.agg cs.toArray] d [] (Ret fun r d' L' => d' = d ∧ ∃ cs' h, r = .agg cs'.toArray ∧ L' = [h] ∧ OVal cs' v h) := by
  refine (Ok.disj h).monoV (fun e d' L' _ r => ?_)
  cases e with
  | panicked c => exact r.elim
  | outgrown => exact r.elim
  | returned u =>
    obtain ⟨⟨hdd, cs', hr, lv, kv, hk, hl, ccs, hs, hcs, gk, gl, hsl, el, hL⟩, hp⟩ := r
    subst hL
    obtain ⟨k, m, e, t, l, ks⟩ := v
    obtain ⟨_, _, _, ik, im, ie, it, _, _⟩ := hv.open
    exact ⟨d', _, Vs.pack _, hdd, cs', _, hr, rfl, by rw [hcs]; exact OVal.mk ik im ie it gk gl hsl el (List.pairwise_cons.1 hp).2⟩
def g_value_Copy (f_slices_Clone_string_string f_value_Copy : Nat) : GFun :=
 ⟨32, [(.cell 2 (some 6))],
 (.seq
 (.reg false (.op false ⟨(some 1), none, (.box (.tmp 0))⟩
  (.op false ⟨(some 2), none, (.alo (.agg #[(.int .i64 0), (.int .i64 0), (.int .i64 0), (strV []), (.slice none 0 0), (.slice none 0 0)]))⟩ .done)))
 (.seq
 (.reg true (.op true ⟨(some 6), none, (.fld 0 (.tmp 1))⟩
  (.op true ⟨(some 7), none, (.ld none (.tmp 6))⟩
  (.op true ⟨(some 8), none, (.fld 1 (.tmp 1))⟩
  (.op true ⟨(some 9), none, (.ld (some 2) (.tmp 8))⟩
  (.op true ⟨(some 10), none, (.fld 3 (.tmp 1))⟩
  (.op true ⟨(some 11), none, (.ld none (.tmp 10))⟩
  (.op true ⟨(some 12), none, (.fld 5 (.tmp 1))⟩
  (.op true ⟨(some 13), none, (.ld none (.tmp 12))⟩
  (.alt ⟨(some 14), none, (.call f_slices_Clone_string_string [(.tmp 13)])⟩
  (.op true ⟨(some 15), none, (.bld [(0, 1), (1, 2), (3, 1), (4, 1), (5, 1)] [(.int .i64 0), (.int .i64 0), (.int .i64 0), (strV []), (.slice none 0 0), (.slice none 0 0)] [(0, (.tmp 7)), (1, (.tmp 9)), (2, (.tmp 11)), (4, (.tmp 14))])⟩
  (.op false ⟨(some 3), none, (.alo (.agg #[(.int .i64 0), (.int .i64 0), (.int .i64 0), (strV []), (.slice none 0 0), (.slice none 0 0)]))⟩
  (.bar (.op false ⟨none, none, (.st 6 (.tmp 3) (.tmp 15))⟩ .done)))) (.op false ⟨(some 3), none, (.alo (.agg #[(.int .i64 0), (.int .i64 0), (.int .i64 0), (strV []), (.slice none 0 0), (.slice none 0 0)]))⟩
  (.op false ⟨(some 14), none, (.call f_slices_Clone_string_string [(.tmp 13)])⟩
  (.op true ⟨(some 15), none, (.bld [(0, 1), (1, 2), (3, 1), (4, 1), (5, 1)] [(.int .i64 0), (.int .i64 0), (.int .i64 0), (strV []), (.slice none 0 0), (.slice none 0 0)] [(0, (.tmp 7)), (1, (.tmp 9)), (2, (.tmp 11)), (4, (.tmp 14))])⟩
  (.bar (.op false ⟨none, none, (.st 6 (.tmp 3) (.tmp 15))⟩ .done)))))))))))))))
 (.seq (.seq
 (.reg false (.op false ⟨(some 16), none, (.fld 4 (.tmp 1))⟩
  (.op false ⟨(some 17), none, (.ld none (.tmp 16))⟩
  (.op false ⟨(some 18), none, (.len (.tmp 17))⟩
  (.op false ⟨(some 19), none, (.mv (.const (.int .i64 0)))⟩ .done))))) (.block 0 (.loop
 (.seq
 (.reg false (.op false ⟨(some 20), none, (.bin .lss (.tmp 19) (.tmp 18))⟩ .done))
 (.seq (.cond (.tmp 20) .skip (.exit 0))
 (.seq (.block 1
 (.seq
 (.reg false (.op false ⟨(some 21), none, (.idx 6 (.tmp 17) (.tmp 19))⟩
  (.op false ⟨(some 22), none, (.ld (some 6) (.tmp 21))⟩
  (.op false ⟨(some 5), none, (.alo (.agg #[(.int .i64 0), (.int .i64 0), (.int .i64 0), (strV []), (.slice none 0 0), (.slice none 0 0)]))⟩
  (.op false ⟨none, none, (.st 6 (.tmp 5) (.tmp 22))⟩ .done)))))
 (.reg true (.op true ⟨(some 23), none, (.fld 4 (.tmp 3))⟩
  (.op true ⟨(some 24), none, (.ld none (.tmp 23))⟩
  (.op true ⟨(some 25), none, (.ld (some 6) (.tmp 5))⟩
  (.op false ⟨(some 26), none, (.call f_value_Copy [(.tmp 25)])⟩
  (.op false ⟨(some 27), none, (.bsl 1 6 [(.int .i64 0), (.int .i64 0), (.int .i64 0), (strV []), (.slice none 0 0), (.slice none 0 0)] [(0, (.tmp 26))])⟩
  (.op false ⟨(some 28), none, (.app 6 88 [(.int .i64 0), (.int .i64 0), (.int .i64 0), (strV []), (.slice none 0 0), (.slice none 0 0)] (.tmp 24) (.tmp 27))⟩
  (.op true ⟨(some 29), none, (.fld 4 (.tmp 3))⟩
  (.bar (.op false ⟨none, none, (.st 1 (.tmp 29) (.tmp 28))⟩ .done))))))))))))
 (.reg false (.op false ⟨(some 30), none, (.bin .add (.tmp 19) (.const (.int .i64 1)))⟩
  (.op false ⟨(some 19), none, (.mv (.tmp 30))⟩ .done)))))))))
 (.seq
 (.reg false (.op false ⟨(some 31), none, (.ld (some 6) (.tmp 3))⟩
  (.op false ⟨none, none, (.st 6 (.tmp 2) (.tmp 31))⟩ .done))) .ret))))⟩

set_option maxHeartbeats 1000000 in
theorem vcopy_ok {P : Program} {f f1 : FuncId} (hd : dec P f = some (g_value_Copy f1 f)) (h1 : CloneOk RStr 16 P f1) : VCopyOk P f := by
  intro v
  induction v using V.ind with
  | h v ih =>
  intro d cs hv hb
  refine vcopy_pack hv (GCall.forget (Q := fun r L' => ∃ cs', r = .agg cs'.toArray ∧ OParts v cs' L') (GCall_of hd (Nat.le_of_ble_eq_true rfl) ?_))
  have hb1 := cnt_list (v := v)
  have hb2 := cnt_keys (v := v)
  obtain ⟨lv, kv, rfl, ik, im, ie, it, hl, hks⟩ := hv.open
  obtain ⟨la, lc, rfl⟩ := RSl.val hl
  obtain ⟨ka, kc, rfl⟩ := RSl.val hks
  show gwp P _ _ _ _ _
  apply w_sq; apply w_reg
  refine w_boxa (l := [.int .i64 v.kind, .int .i64 v.m, .int .i64 v.e, strV v.text, .slice la v.list.length lc, .slice ka v.keys.length kc]) rfl (fun b1 T1 => ?_)
  refine w_frz (fun d1 hl1 hg1 => ?_)
  have hc1 : DCs d1 b1 0 [.int .i64 v.kind, .int .i64 v.m, .int .i64 v.e, strV v.text, .slice la v.list.length lc, .slice ka v.keys.length kc] := dcs_bx hg1
  have hl' : RSl 6 RVal d1 (.slice la v.list.length lc) v.list := RVals.mono hl hl1
  have hks' : RSl 1 RStr d1 (.slice ka v.keys.length kc) v.keys := RStrs.mono hks hl1
  have n1 := RSl.len_le hl'
  (apply w_alo; intro _ _; apply w_done0)
  rename_i b2 T2
  refine w_mid (fun ρ d' L' => Le d1 d' ∧ ∃ b3 T3 ka' kc' hk, SlotsAre ρ [(1, .pointer (some ⟨b1, 0, none⟩)), (2, .pointer (some ⟨b2, 0, none⟩)), (3, .pointer (some ⟨b3, 0, none⟩))] ∧ GRow 1 RStr emp (.slice ka' v.keys.length kc') v.keys hk ∧
    L' = [bx b2 T2 [.int .i64 0, .int .i64 0, .int .i64 0, strV [], .slice none 0 0, .slice none 0 0], bx b3 T3 [.int .i64 v.kind, .int .i64 v.m, .int .i64 v.e, strV v.text, .slice none 0 0, .slice ka' v.keys.length kc'], hk, emp]) ?_ ?_
  · refine w_drawn ?_
    (apply w_fld; rfl; apply w_ld; rfl; exact hc_ds (by assumption) rfl; apply w_fld; rfl; apply w_lddp; rfl; assumption; rfl; apply w_fld; rfl; apply w_ld; rfl; exact hc_ds (by assumption) rfl; apply w_fld; rfl; apply w_ld; rfl; exact hc_ds (by assumption) rfl)
    refine w_alt ?_ ?_
    · refine w_call0 rfl (h1 hks' (by omega)) (fun r d4 L4 hl4 ⟨hdd, hk, hL, ⟨ccs, g1, g2⟩⟩ => ?_)
      subst hdd; subst hL
      have g : GRow 1 RStr emp r v.keys hk := ⟨ccs, g1, g2⟩
      obtain ⟨ka', kc', rfl⟩ := g.val
      (apply w_bvC; rfl; rfl; rfl; rfl; apply w_alo; intro _ _; apply w_bar)
      rename_i b3 T3
      refine w_stE 1 [.int .i64 v.kind, .int .i64 v.m, .int .i64 v.e, strV v.text, .slice none 0 0, .slice ka' v.keys.length kc'] rfl rfl rfl rfl (Nat.le_of_ble_eq_true rfl) rfl rfl ?_
      exact w_doneE ⟨_, _, Vs.emp.trans (Vs.pick [1, 2, 3, 0] rfl), Le.refl _, b3, T3, _, _, hk, ⟨rfl, rfl, rfl, trivial⟩, g, rfl⟩
    · (apply w_alo; intro _ _)
      rename_i b3 T3
      refine w_call0 rfl (h1 hks' (by omega)) (fun r d4 L4 hl4 ⟨hdd, hk, hL, ⟨ccs, g1, g2⟩⟩ => ?_)
      subst hdd; subst hL
      have g : GRow 1 RStr emp r v.keys hk := ⟨ccs, g1, g2⟩
      obtain ⟨ka', kc', rfl⟩ := g.val
      (apply w_bvC; rfl; rfl; rfl; rfl; apply w_bar)
      refine w_stE 2 [.int .i64 v.kind, .int .i64 v.m, .int .i64 v.e, strV v.text, .slice none 0 0, .slice ka' v.keys.length kc'] rfl rfl rfl rfl (Nat.le_of_ble_eq_true rfl) rfl rfl ?_
      exact w_doneE ⟨_, _, Vs.emp.trans (Vs.pick [1, 3, 2, 0] rfl), Le.refl _, b3, T3, _, _, hk, ⟨rfl, rfl, rfl, trivial⟩, g, rfl⟩
  rintro ρ d2 L' ⟨hl2, b3, T3, ka', kc', hk, hsl, hg, hL⟩
  subst hL
  refine gwp_slots _ hsl ?_
  clear hsl
  have hc2 := hc1.mono hl2
  have hl2' : RSl 6 RVal d2 (.slice la v.list.length lc) v.list := RVals.mono hl' hl2
  (apply w_sq; apply w_sq; apply w_reg; apply w_fld; rfl; apply w_ld; rfl; exact hc_ds (by assumption) rfl; apply w_len; rfl; apply w_mvi; rfl; apply w_done0; apply w_block)
  refine w_loopS (α := Nat) (fun i => [(2, .pointer (some ⟨b2, 0, none⟩)), (3, .pointer (some ⟨b3, 0, none⟩)), (17, .slice la v.list.length lc), (18, .int .i64 v.list.length), (19, .int .i64 i)])
    (fun i d' L' => d' = d2 ∧ i ≤ v.list.length ∧ ∃ ra rc hl ccs hs, ORow 6 (.slice ra i rc) i ccs hl ∧ hs.length = i ∧ (∀ j (hj : j < v.list.length), j < i → OVal (chunk ccs j 6) v.list[j] (hs.getD j emp)) ∧
      L' = bx b2 T2 [.int .i64 0, .int .i64 0, .int .i64 0, strV [], .slice none 0 0, .slice none 0 0] :: bx b3 T3 [.int .i64 v.kind, .int .i64 v.m, .int .i64 v.e, strV v.text, .slice ra i rc, .slice ka' v.keys.length kc'] :: hk :: hl :: hs)
    (fun i => v.list.length - i) 0 ⟨rfl, rfl, rfl, rfl, rfl, trivial⟩ ⟨rfl, Nat.zero_le _, none, 0, emp, [], [], ORow.nil 6, rfl, fun j _ h => absurd h (Nat.not_lt_zero j), rfl⟩ ?_
  rintro i ρ d3 L' ⟨hdd, hi, ra, rc, hl0, ccs, hs, hrow, hhs, hel, hL⟩
  subst hdd; subst hL
  have hl3' : RSl 6 RVal d3 (.slice la v.list.length lc) v.list := hl2'
  by_cases hc : i < v.list.length
  · (apply w_sq; apply w_reg; apply w_lss; rfl; rfl; apply w_done0; apply w_sq; refine w_ifdT rfl (by omega) ?_; apply w_skip; apply w_sq; apply w_block; apply w_sq; apply w_reg; refine w_idxR (sz := 6) (R := RVal) (by rfl) (by assumption) (by rfl) rfl (by omega) ?_; rintro _ _ _ _ _ _; apply w_ldd; rfl; assumption; assumption; apply w_alo; intro _ _)
    rename_i cs hcs hD hR b5 T5
    obtain ⟨c0, c1, c2, c3, c4, c5, rfl⟩ := six hcs
    refine w_stE 0 [c0, c1, c2, c3, c4, c5] rfl rfl rfl rfl (Nat.le_of_ble_eq_true rfl) (cell1_val _ _ _ hR) rfl ?_
    (apply w_done0)
    refine w_drawnA [bx b5 T5 [c0, c1, c2, c3, c4, c5], bx b2 T2 [.int .i64 0, .int .i64 0, .int .i64 0, strV [], .slice none 0 0, .slice none 0 0], bx b3 T3 [.int .i64 v.kind, .int .i64 v.m, .int .i64 v.e, strV v.text, .slice ra i rc, .slice ka' v.keys.length kc'], hk] (hl0 :: hs) rfl ?_
    (apply w_fld; rfl; apply w_ld; rfl; exact hc_i 2 rfl rfl; apply w_ldb 0; rfl; rfl; rfl)
    refine w_call0 rfl (ih _ (List.getElem_mem hc) hR (by have := cnt_mem (List.getElem_mem hc); omega)) (fun r d4 L4 _ ⟨hdd, cs', g, hr, hL, ho⟩ => ?_)
    subst hdd; subst hr; subst hL
    obtain ⟨hc6, hc1'⟩ := ho.cells
    refine w_bsV rfl hc6 (fun b27 T27 => ?_)
    refine w_appLO 1 rfl rfl hrow rfl (by rw [hc6]) hc1' (by omega) (by omega) (by omega) (fun v5 h5 o5 => ?_)
    obtain ⟨a5, _, c5', rfl, _⟩ := o5.slice
    (apply w_fld; rfl; apply w_bar)
    refine w_vs _ (bx b2 T2 [.int .i64 0, .int .i64 0, .int .i64 0, strV [], .slice none 0 0, .slice none 0 0] :: bx b3 T3 [.int .i64 v.kind, .int .i64 v.m, .int .i64 v.e, strV v.text, .slice ra i rc, .slice ka' v.keys.length kc'] :: hk :: h5 :: (hs ++ [g]))
      ((Vs.perm (List.Perm.append_left [bx b5 T5 [c0, c1, c2, c3, c4, c5], bx b2 T2 [.int .i64 0, .int .i64 0, .int .i64 0, strV [], .slice none 0 0, .slice none 0 0], bx b3 T3 [.int .i64 v.kind, .int .i64 v.m, .int .i64 v.e, strV v.text, .slice ra i rc, .slice ka' v.keys.length kc'], hk] ((List.Perm.swap _ _ _).trans ((List.perm_append_singleton g hs).symm.cons _)))).trans (Vs.drop (List.sublist_cons_self _ _))) ?_
    refine w_stE 1 [.int .i64 v.kind, .int .i64 v.m, .int .i64 v.e, strV v.text, .slice a5 (i + 1) c5', .slice ka' v.keys.length kc'] rfl rfl rfl rfl (Nat.le_of_ble_eq_true rfl) rfl rfl ?_
    (apply w_done0; apply w_reg; apply w_add; rfl; rfl; omega; omega; apply w_mvi; rfl; apply w_done0)
    refine ⟨i + 1, by omega, ⟨rfl, rfl, rfl, rfl, int_eq (by omega), trivial⟩, rfl, hc, a5, c5', h5, _, hs ++ [g], o5, by simp [hhs], fun j hj hji => ?_, rfl⟩
    have h6 : ccs.length = i * 6 := hrow.1
    by_cases e : j < i
    · rw [chunk_app_left h6 e, show (hs ++ [g]).getD j emp = hs.getD j emp by simp [List.getD, List.getElem?_append_left (show j < hs.length by omega)]]
      exact hel j hj e
    · obtain rfl : j = i := by omega
      rw [chunk_app_right h6 (Nat.le_refl _), Nat.sub_self, show chunk cs' 0 6 = cs' by simp only [chunk, Nat.zero_mul, List.drop_zero]; exact List.take_of_length_le (by omega), show (hs ++ [g]).getD j emp = g by simp [List.getD, hhs]]
      exact ho
  · obtain rfl : i = v.list.length := by omega
    (apply w_sq; apply w_reg; apply w_lss; rfl; rfl; apply w_done0; apply w_sq; refine w_ifdF rfl (by omega) ?_; apply w_exit; apply w_sq; apply w_reg; apply w_ldb 1; rfl; rfl; rfl)
    refine w_stE 0 [.int .i64 v.kind, .int .i64 v.m, .int .i64 v.e, strV v.text, .slice ra v.list.length rc, .slice ka' v.keys.length kc'] rfl rfl rfl rfl (Nat.le_of_ble_eq_true rfl) rfl rfl ?_
    (apply w_done0; apply w_ret)
    exact finV [.agg [.int .i64 v.kind, .int .i64 v.m, .int .i64 v.e, strV v.text, .slice ra v.list.length rc, .slice ka' v.keys.length kc'].toArray] ⟨res_cell 0 rfl rfl rfl, trivial⟩ (Vs.drop (((List.Sublist.refl _).cons _).cons _)) ⟨_, rfl, _, _, hk, hl0, ccs, hs, rfl, hg, hrow, hhs, fun j hj => hel j hj hj, rfl⟩
end Go.Gk.Val
end

section
/-
  Values and lists of them as arguments.
-/
namespace Go.Gk.Val
open Go Go.Gk
section
variable {H : Type} {enc : TypeId × Value → H} {P : Program} {W : World}
/-- The types' numbers: of value, number, int64, int, string, []value, []string. -/
structure VTy (P : Program) (t tn t6 ti ts tl tk : TypeId) : Prop where
  fs : ∃ fs : Array Field, P.underlying t = some (.struct fs) ∧ (fs[0]?).map (fun f => (f.offset, f.type)) = some (0, ti) ∧ (fs[1]?).map (fun f => (f.offset, f.type)) = some (1, tn) ∧ (fs[2]?).map (fun f => (f.offset, f.type)) = some (3, ts) ∧
    (fs[3]?).map (fun f => (f.offset, f.type)) = some (4, tl) ∧ (fs[4]?).map (fun f => (f.offset, f.type)) = some (5, tk)
  ns : ∃ fs : Array Field, P.underlying tn = some (.struct fs) ∧ (fs[0]?).map (fun f => (f.offset, f.type)) = some (0, t6) ∧ (fs[1]?).map (fun f => (f.offset, f.type)) = some (1, ti)
  c : P.cellsOf t = 6
  cn : P.cellsOf tn = 2
  c6 : P.cellsOf t6 = 1
  ci : P.cellsOf ti = 1
  cs : P.cellsOf ts = 1
  cl : P.cellsOf tl = 1
  ck : P.cellsOf tk = 1
  u6 : P.underlying t6 = some (.int .i64)
  ui : P.underlying ti = some (.int .i64)
  us : P.underlying ts = some .string
  ul : P.underlying tl = some (.slice t)
  uk : P.underlying tk = some (.slice ts)
  b : 1 ≤ P.bytesOf t
  bs : 1 ≤ P.bytesOf ts
theorem rd_num {t t6 ti : TypeId} (hf : ∃ fs : Array Field, P.underlying t = some (.struct fs) ∧ (fs[0]?).map (fun f => (f.offset, f.type)) = some (0, t6) ∧ (fs[1]?).map (fun f => (f.offset, f.type)) = some (1, ti))
    (c : P.cellsOf t = 2) (c6 : P.cellsOf t6 = 1) (ci : P.cellsOf ti = 1) (u6 : P.underlying t6 = some (.int .i64)) (ui : P.underlying ti = some (.int .i64)) :
    Rd enc P W t (fun _ cs (x : Int × Int) => cs = [.int .i64 x.1, .int .i64 x.2] ∧ I64 x.1 ∧ I64 x.2) := by
  intro held fuel cs x h hw
  obtain ⟨fs, hu, f0, f1⟩ := hf
  obtain ⟨hl, hfs⟩ := rd_fields hu h hw
  obtain ⟨m, e0, hm⟩ := hfs 0 0 t6 1 f0 c6 (rd_int u6)
  obtain ⟨e, e1, he⟩ := hfs 1 1 ti 1 f1 ci (rd_int ui)
  obtain ⟨a0, a1, rfl⟩ := list2 (hl.trans c)
  simp only [List.drop, List.take, List.cons.injEq, and_true] at e0 e1
  subst e0; subst e1
  exact ⟨(m, e), rfl, hm, he⟩
theorem rd_val {t tn t6 ti ts tl tk : TypeId} (T : VTy P t tn t6 ti ts tl tk) : Rd enc P W t RVal := by
  intro held fuel
  show RdAt enc P W held fuel t RVal
  induction fuel using Nat.strongRecOn with
  | ind fuel ih =>
  intro cs x h hw
  obtain ⟨fs, hu, f0, f1, f2, f3, f4⟩ := T.fs
  obtain ⟨hl, hfs⟩ := rdAt_fields hu h hw
  obtain ⟨k, e0, hk⟩ := hfs 0 0 ti 1 f0 T.ci (fun n _ => (rd_int T.ui).at)
  obtain ⟨⟨m, e⟩, e1, hm, he⟩ := hfs 1 1 tn 2 f1 T.cn (fun n _ => (rd_num T.ns T.cn T.c6 T.ci T.u6 T.ui).at)
  obtain ⟨s, e2, hs⟩ := hfs 2 3 ts 1 f2 T.cs (fun n _ => (rd_str T.us).at)
  obtain ⟨l, lv, e3, hll⟩ := hfs 3 4 tl 1 f3 T.cl (fun n hn => rdAt_slice T.ul T.c (by omega) T.b (fun k hk => ih k (by omega)))
  obtain ⟨ks, kv, e4, hks⟩ := hfs 4 5 tk 1 f4 T.ck (fun n hn => rdAt_slice T.uk T.cs (by omega) T.bs (fun k hk => (rd_str T.us).at))
  obtain ⟨a0, a1, a2, a3, a4, a5, rfl⟩ := six (hl.trans T.c)
  simp only [List.drop, List.take, List.cons.injEq, and_true] at e0 e1 e2 e3 e4
  obtain ⟨e1, e1'⟩ := e1
  subst e0; subst e1; subst e1'; subst e2; subst e3; subst e4
  exact ⟨.mk k m e s l ks, RVal.close (v := .mk k m e s l ks) hk hm he hs hll hks⟩
end
end Go.Gk.Val
end

section
/-
  Depth, size, sameness of values, as the program tells them.
-/
namespace Go.Gk.Val
open Go Go.Gk Go.Gk.Utf
attribute [local irreducible] gwp gws

mutual
def sizeV : V → Nat
  | .mk _ _ _ _ l _ => sizes l + 1
def sizes : List V → Nat
  | [] => 0
  | x :: l => sizeV x + sizes l
end
theorem sizeV_eq (v : V) : sizeV v = sizes v.list + 1 := by obtain ⟨k, m, e, t, l, ks⟩ := v; rfl
theorem sizes_snoc (l : List V) (x : V) : sizes (l ++ [x]) = sizes l + sizeV x := by
  induction l with
  | nil => simp [sizes]
  | cons a l ih => simp only [List.cons_append, sizes, ih]; omega
theorem sizes_take : ∀ (l : List V) (i : Nat), sizes (l.take i) ≤ sizes l
  | [], i => by simp
  | x :: l, 0 => by simp [sizes]
  | x :: l, i + 1 => by have := sizes_take l i; simp only [List.take_succ_cons, sizes]; omega
theorem size_mem {x : V} {l : List V} (h : x ∈ l) : sizeV x ≤ sizes l := by
  induction l with
  | nil => cases h
  | cons a l ih =>
    simp only [sizes]
    rcases List.mem_cons.1 h with rfl | h
    · omega
    · have := ih h; omega
mutual
theorem size_bulk : ∀ v : V, sizeV v ≤ bulkV v
  | .mk k m e t l ks => by
    have h1 := sizes_bulk l
    have h2 := bulkV_eq (.mk k m e t l ks)
    simp only [sizeV]
    simp only [V.list] at h2
    omega
theorem sizes_bulk : ∀ l : List V, sizes l ≤ bulks l
  | [] => by simp [sizes, bulks]
  | x :: l => by
    have h1 := size_bulk x
    have h2 := sizes_bulk l
    simp only [sizes, bulks]; omega
end
def VDepthOk (P : Program) (f : FuncId) : Prop := ∀ (v : V) {d : PHeap} {cs : List Value}, RVal d cs v → depthV v ≤ 1000000000 → GPure P f [.agg cs.toArray] d (.int .i64 (depthV v))
def g_value_Depth (f_value_Depth : Nat) : GFun :=
 ⟨20, [(.tmp 2)],
 (.seq
 (.reg false (.op false ⟨(some 1), none, (.box (.tmp 0))⟩
  (.op false ⟨(some 2), none, (.mv (.const (.int .i64 0)))⟩ .done)))
 (.seq
 (.reg false (.op false ⟨(some 3), none, (.mv (.const (.int .i64 0)))⟩ .done))
 (.seq (.seq
 (.reg false (.op false ⟨(some 6), none, (.fld 4 (.tmp 1))⟩
  (.op false ⟨(some 7), none, (.ld none (.tmp 6))⟩
  (.op false ⟨(some 8), none, (.len (.tmp 7))⟩
  (.op false ⟨(some 9), none, (.mv (.const (.int .i64 0)))⟩ .done))))) (.block 0 (.loop
 (.seq
 (.reg false (.op false ⟨(some 10), none, (.bin .lss (.tmp 9) (.tmp 8))⟩ .done))
 (.seq (.cond (.tmp 10) .skip (.exit 0))
 (.seq (.block 1
 (.seq
 (.reg false (.op false ⟨(some 11), none, (.idx 6 (.tmp 7) (.tmp 9))⟩
  (.op false ⟨(some 12), none, (.ld (some 6) (.tmp 11))⟩
  (.op false ⟨(some 5), none, (.alo (.agg #[(.int .i64 0), (.int .i64 0), (.int .i64 0), (strV []), (.slice none 0 0), (.slice none 0 0)]))⟩
  (.op false ⟨none, none, (.st 6 (.tmp 5) (.tmp 12))⟩ .done)))))
 (.reg false (.op false ⟨(some 13), none, (.mv (.tmp 3))⟩
  (.op false ⟨(some 14), none, (.ld (some 6) (.tmp 5))⟩
  (.op false ⟨(some 15), none, (.call f_value_Depth [(.tmp 14)])⟩
  (.op false ⟨(some 16), none, (.mx2 (.tmp 13) (.tmp 15))⟩
  (.op false ⟨(some 3), none, (.mv (.tmp 16))⟩ .done))))))))
 (.reg false (.op false ⟨(some 17), none, (.bin .add (.tmp 9) (.const (.int .i64 1)))⟩
  (.op false ⟨(some 9), none, (.mv (.tmp 17))⟩ .done)))))))))
 (.seq
 (.reg false (.op false ⟨(some 18), none, (.mv (.tmp 3))⟩
  (.op false ⟨(some 19), none, (.bin .add (.tmp 18) (.const (.int .i64 1)))⟩
  (.op false ⟨(some 2), none, (.mv (.tmp 19))⟩ .done)))) .ret))))⟩

set_option maxHeartbeats 1000000 in
theorem vdepth_ok {P : Program} {f : FuncId} (hd : dec P f = some (g_value_Depth f)) : VDepthOk P f := by
  intro v
  induction v using V.ind with
  | h v ih =>
  intro d cs hv hb
  refine GPure.of' hd (Nat.le_of_ble_eq_true rfl) ?_
  have he := depthV_eq v
  obtain ⟨lv, kv, rfl, ik, im, ie, it, hl, hks⟩ := hv.open
  obtain ⟨la, lc, rfl⟩ := RSl.val hl
  have hll := RSl.len_le hl
  have hl' : RSl 6 RVal d (.slice la v.list.length lc) v.list := hl
  show gwp P _ _ _ _ _
  apply w_sq; apply w_reg
  refine w_boxa (l := [.int .i64 v.kind, .int .i64 v.m, .int .i64 v.e, strV v.text, .slice la v.list.length lc, kv]) rfl (fun b1 T1 => ?_)
  (apply w_mvi; rfl; apply w_done0; apply w_sq; apply w_reg; apply w_mvi; rfl; apply w_done0; apply w_sq; apply w_sq; apply w_reg; apply w_fld; rfl; apply w_ld; rfl; exact hc_i 0 rfl rfl; apply w_len; rfl; apply w_mvi; rfl; apply w_done0; apply w_block)
  refine w_loopS (α := Nat) (fun i => [(3, .int .i64 (depths (v.list.take i))), (7, .slice la v.list.length lc), (8, .int .i64 v.list.length), (9, .int .i64 i)])
    (fun i d' L' => d' = d ∧ i ≤ v.list.length) (fun i => v.list.length - i) 0 ⟨int_eq (by simp [depths]), rfl, rfl, rfl, trivial⟩ ⟨rfl, Nat.zero_le _⟩ ?_
  rintro i ρ d' L' ⟨hdd, hi⟩
  subst hdd
  have hti := depths_take v.list i
  have hlx : RSl 6 RVal d' (.slice la v.list.length lc) v.list := hl'
  by_cases hc : i < v.list.length
  · have hm := depth_mem (List.getElem_mem hc)
    (apply w_sq; apply w_reg; apply w_lss; rfl; rfl; apply w_done0; apply w_sq; refine w_ifdT rfl (by omega) ?_; apply w_skip; apply w_sq; apply w_block; apply w_sq; apply w_reg; refine w_idxR (sz := 6) (R := RVal) (by rfl) (by assumption) (by rfl) rfl (by omega) ?_; rintro _ _ _ _ _ _; apply w_ldd; rfl; assumption; assumption; apply w_alo; intro _ _)
    rename_i cs hcs hD hR b6 T6
    obtain ⟨c0, c1, c2, c3, c4, c5, rfl⟩ := six hcs
    refine w_stE 0 [c0, c1, c2, c3, c4, c5] rfl rfl rfl rfl (Nat.le_of_ble_eq_true rfl) (cell1_val _ _ _ hR) rfl ?_
    (apply w_done0; apply w_reg; apply w_mvi; rfl; apply w_ldb 0; rfl; rfl; rfl)
    refine w_pure rfl (ih _ (List.getElem_mem hc) hR (by omega)) ?_
    have hsn : depths (v.list.take (i + 1)) = max (depths (v.list.take i)) (depthV v.list[i]) := by rw [List.take_succ_eq_append_getElem hc, depths_snoc]
    (apply w_mx2; rfl; rfl; apply w_mvi; rfl; apply w_done0; apply w_reg; apply w_add; rfl; rfl; omega; omega; apply w_mvi; rfl; apply w_done0)
    refine ⟨i + 1, by omega, ⟨int_eq ?_, rfl, rfl, int_eq (by omega), trivial⟩, rfl, hc⟩
    rw [hsn]; omega
  · obtain rfl : i = v.list.length := by omega
    rw [List.take_length] at hti ⊢
    (apply w_sq; apply w_reg; apply w_lss; rfl; rfl; apply w_done0; apply w_sq; refine w_ifdF rfl (by omega) ?_; apply w_exit; apply w_sq; apply w_reg; apply w_mvi; rfl; apply w_add; rfl; rfl; omega; omega; apply w_mvi; rfl; apply w_done0; apply w_ret)
    apply finQi; rfl
    omega
def VSizeOk (P : Program) (f : FuncId) : Prop := ∀ (v : V) {d : PHeap} {cs : List Value}, RVal d cs v → sizeV v ≤ 1000000000 → GPure P f [.agg cs.toArray] d (.int .i64 (sizeV v))
def g_value_Size (f_value_Size : Nat) : GFun :=
 ⟨19, [(.tmp 2)],
 (.seq
 (.reg false (.op false ⟨(some 1), none, (.box (.tmp 0))⟩
  (.op false ⟨(some 2), none, (.mv (.const (.int .i64 0)))⟩ .done)))
 (.seq
 (.reg false (.op false ⟨(some 3), none, (.mv (.const (.int .i64 1)))⟩ .done))
 (.seq (.seq
 (.reg false (.op false ⟨(some 6), none, (.fld 4 (.tmp 1))⟩
  (.op false ⟨(some 7), none, (.ld none (.tmp 6))⟩
  (.op false ⟨(some 8), none, (.len (.tmp 7))⟩
  (.op false ⟨(some 9), none, (.mv (.const (.int .i64 0)))⟩ .done))))) (.block 0 (.loop
 (.seq
 (.reg false (.op false ⟨(some 10), none, (.bin .lss (.tmp 9) (.tmp 8))⟩ .done))
 (.seq (.cond (.tmp 10) .skip (.exit 0))
 (.seq (.block 1
 (.seq
 (.reg false (.op false ⟨(some 11), none, (.idx 6 (.tmp 7) (.tmp 9))⟩
  (.op false ⟨(some 12), none, (.ld (some 6) (.tmp 11))⟩
  (.op false ⟨(some 5), none, (.alo (.agg #[(.int .i64 0), (.int .i64 0), (.int .i64 0), (strV []), (.slice none 0 0), (.slice none 0 0)]))⟩
  (.op false ⟨none, none, (.st 6 (.tmp 5) (.tmp 12))⟩ .done)))))
 (.reg false (.op false ⟨(some 13), none, (.mv (.tmp 3))⟩
  (.op false ⟨(some 14), none, (.ld (some 6) (.tmp 5))⟩
  (.op false ⟨(some 15), none, (.call f_value_Size [(.tmp 14)])⟩
  (.op false ⟨(some 16), none, (.bin .add (.tmp 13) (.tmp 15))⟩
  (.op false ⟨(some 3), none, (.mv (.tmp 16))⟩ .done))))))))
 (.reg false (.op false ⟨(some 17), none, (.bin .add (.tmp 9) (.const (.int .i64 1)))⟩
  (.op false ⟨(some 9), none, (.mv (.tmp 17))⟩ .done)))))))))
 (.seq
 (.reg false (.op false ⟨(some 18), none, (.mv (.tmp 3))⟩
  (.op false ⟨(some 2), none, (.mv (.tmp 18))⟩ .done))) .ret))))⟩

set_option maxHeartbeats 1000000 in
theorem vsize_ok {P : Program} {f : FuncId} (hd : dec P f = some (g_value_Size f)) : VSizeOk P f := by
  intro v
  induction v using V.ind with
  | h v ih =>
  intro d cs hv hb
  refine GPure.of' hd (Nat.le_of_ble_eq_true rfl) ?_
  have he := sizeV_eq v
  obtain ⟨lv, kv, rfl, ik, im, ie, it, hl, hks⟩ := hv.open
  obtain ⟨la, lc, rfl⟩ := RSl.val hl
  have hll := RSl.len_le hl
  have hl' : RSl 6 RVal d (.slice la v.list.length lc) v.list := hl
  show gwp P _ _ _ _ _
  apply w_sq; apply w_reg
  refine w_boxa (l := [.int .i64 v.kind, .int .i64 v.m, .int .i64 v.e, strV v.text, .slice la v.list.length lc, kv]) rfl (fun b1 T1 => ?_)
  (apply w_mvi; rfl; apply w_done0; apply w_sq; apply w_reg; apply w_mvi; rfl; apply w_done0; apply w_sq; apply w_sq; apply w_reg; apply w_fld; rfl; apply w_ld; rfl; exact hc_i 0 rfl rfl; apply w_len; rfl; apply w_mvi; rfl; apply w_done0; apply w_block)
  refine w_loopS (α := Nat) (fun i => [(3, .int .i64 (1 + sizes (v.list.take i))), (7, .slice la v.list.length lc), (8, .int .i64 v.list.length), (9, .int .i64 i)])
    (fun i d' L' => d' = d ∧ i ≤ v.list.length) (fun i => v.list.length - i) 0 ⟨int_eq (by simp [sizes]), rfl, rfl, rfl, trivial⟩ ⟨rfl, Nat.zero_le _⟩ ?_
  rintro i ρ d' L' ⟨hdd, hi⟩
  subst hdd
  have hti := sizes_take v.list i
  have hlx : RSl 6 RVal d' (.slice la v.list.length lc) v.list := hl'
  by_cases hc : i < v.list.length
  · have hm := size_mem (List.getElem_mem hc)
    have hti2 := sizes_take v.list (i + 1)
    have hsn : sizes (v.list.take (i + 1)) = sizes (v.list.take i) + sizeV v.list[i] := by rw [List.take_succ_eq_append_getElem hc, sizes_snoc]
    (apply w_sq; apply w_reg; apply w_lss; rfl; rfl; apply w_done0; apply w_sq; refine w_ifdT rfl (by omega) ?_; apply w_skip; apply w_sq; apply w_block; apply w_sq; apply w_reg; refine w_idxR (sz := 6) (R := RVal) (by rfl) (by assumption) (by rfl) rfl (by omega) ?_; rintro _ _ _ _ _ _; apply w_ldd; rfl; assumption; assumption; apply w_alo; intro _ _)
    rename_i cs hcs hD hR b6 T6
    obtain ⟨c0, c1, c2, c3, c4, c5, rfl⟩ := six hcs
    refine w_stE 0 [c0, c1, c2, c3, c4, c5] rfl rfl rfl rfl (Nat.le_of_ble_eq_true rfl) (cell1_val _ _ _ hR) rfl ?_
    (apply w_done0; apply w_reg; apply w_mvi; rfl; apply w_ldb 0; rfl; rfl; rfl)
    refine w_pure rfl (ih _ (List.getElem_mem hc) hR (by omega)) ?_
    (apply w_add; rfl; rfl; omega; omega; apply w_mvi; rfl; apply w_done0; apply w_reg; apply w_add; rfl; rfl; omega; omega; apply w_mvi; rfl; apply w_done0)
    exact ⟨i + 1, by omega, ⟨int_eq (by omega), rfl, rfl, int_eq (by omega), trivial⟩, rfl, hc⟩
  · obtain rfl : i = v.list.length := by omega
    rw [List.take_length] at hti ⊢
    (apply w_sq; apply w_reg; apply w_lss; rfl; rfl; apply w_done0; apply w_sq; refine w_ifdF rfl (by omega) ?_; apply w_exit; apply w_sq; apply w_reg; apply w_mvi; rfl; apply w_mvi; rfl; apply w_done0; apply w_ret)
    apply finQi; rfl
    omega
def g_thimbleref03_Size (f_thimbleref03_Size : Nat) : GFun :=
 ⟨21, [(.tmp 2)],
 (.seq
 (.reg false (.op false ⟨(some 1), none, (.box (.tmp 0))⟩
  (.op false ⟨(some 2), none, (.mv (.const (.int .i64 0)))⟩ .done)))
 (.seq
 (.reg false (.op false ⟨(some 3), none, (.mv (.const (.int .i64 1)))⟩ .done))
 (.seq (.seq
 (.reg false (.op false ⟨(some 4), none, (.mv (.const (.int .i64 0)))⟩ .done)) (.block 0 (.loop
 (.seq (.seq
 (.reg false (.op false ⟨(some 5), none, (.mv (.tmp 4))⟩
  (.op false ⟨(some 6), none, (.fld 4 (.tmp 1))⟩
  (.op false ⟨(some 7), none, (.ld none (.tmp 6))⟩
  (.op false ⟨(some 8), none, (.len (.tmp 7))⟩
  (.op false ⟨(some 9), none, (.bin .lss (.tmp 5) (.tmp 8))⟩ .done)))))) (.cond (.tmp 9) .skip (.exit 0)))
 (.seq (.block 1
 (.reg false (.op false ⟨(some 12), none, (.mv (.tmp 3))⟩
  (.op false ⟨(some 13), none, (.fld 4 (.tmp 1))⟩
  (.op false ⟨(some 14), none, (.ld none (.tmp 13))⟩
  (.op false ⟨(some 15), none, (.mv (.tmp 4))⟩
  (.op false ⟨(some 16), none, (.idx 6 (.tmp 14) (.tmp 15))⟩
  (.op false ⟨(some 17), none, (.ld (some 6) (.tmp 16))⟩
  (.op false ⟨(some 18), none, (.call f_thimbleref03_Size [(.tmp 17)])⟩
  (.op false ⟨(some 19), none, (.bin .add (.tmp 12) (.tmp 18))⟩
  (.op false ⟨(some 3), none, (.mv (.tmp 19))⟩ .done)))))))))))
 (.reg false (.op false ⟨(some 10), none, (.mv (.tmp 4))⟩
  (.op false ⟨(some 11), none, (.bin .add (.tmp 10) (.const (.int .i64 1)))⟩
  (.op false ⟨(some 4), none, (.mv (.tmp 11))⟩ .done)))))))))
 (.seq
 (.reg false (.op false ⟨(some 20), none, (.mv (.tmp 3))⟩
  (.op false ⟨(some 2), none, (.mv (.tmp 20))⟩ .done))) .ret))))⟩

set_option maxHeartbeats 1000000 in
theorem rsize_ok {P : Program} {f : FuncId} (hd : dec P f = some (g_thimbleref03_Size f)) : VSizeOk P f := by
  intro v
  induction v using V.ind with
  | h v ih =>
  intro d cs hv hb
  refine GPure.of' hd (Nat.le_of_ble_eq_true rfl) ?_
  have he := sizeV_eq v
  obtain ⟨lv, kv, rfl, ik, im, ie, it, hl, hks⟩ := hv.open
  obtain ⟨la, lc, rfl⟩ := RSl.val hl
  have hll := RSl.len_le hl
  have hl' : RSl 6 RVal d (.slice la v.list.length lc) v.list := hl
  show gwp P _ _ _ _ _
  apply w_sq; apply w_reg
  refine w_boxa (l := [.int .i64 v.kind, .int .i64 v.m, .int .i64 v.e, strV v.text, .slice la v.list.length lc, kv]) rfl (fun b1 T1 => ?_)
  (apply w_mvi; rfl; apply w_done0; apply w_sq; apply w_reg; apply w_mvi; rfl; apply w_done0; apply w_sq; apply w_sq; apply w_reg; apply w_mvi; rfl; apply w_done0; apply w_block)
  refine w_loopN (α := Nat) (fun i => [(1, .pointer (some ⟨b1, 0, none⟩)), (3, .int .i64 (1 + sizes (v.list.take i))), (4, .int .i64 i)]) (fun _ => [bx b1 T1 [.int .i64 v.kind, .int .i64 v.m, .int .i64 v.e, strV v.text, .slice la v.list.length lc, kv]])
    (fun i => i ≤ v.list.length) (fun i => v.list.length - i) 0 ⟨rfl, int_eq (by simp [sizes]), rfl, trivial⟩ rfl (Nat.zero_le _) ?_
  intro i ρ hi
  have hti := sizes_take v.list i
  by_cases hc : i < v.list.length
  · have hm := size_mem (List.getElem_mem hc)
    have hti2 := sizes_take v.list (i + 1)
    have hsn : sizes (v.list.take (i + 1)) = sizes (v.list.take i) + sizeV v.list[i] := by rw [List.take_succ_eq_append_getElem hc, sizes_snoc]
    (apply w_sq; apply w_sq; apply w_reg; apply w_mvi; rfl; apply w_fld; rfl; apply w_ld; rfl; exact hc_i 0 rfl rfl; apply w_len; rfl; apply w_lss; rfl; rfl; apply w_done0; refine w_ifdT rfl (by omega) ?_; apply w_skip; apply w_sq; apply w_block; apply w_reg; apply w_mvi; rfl; apply w_fld; rfl; apply w_ld; rfl; exact hc_i 0 rfl rfl; apply w_mvi; rfl; refine w_idxR (sz := 6) (R := RVal) (by rfl) (by assumption) (by rfl) rfl (by omega) ?_; rintro _ _ _ _ _ _; apply w_ldd; rfl; assumption; assumption)
    rename_i cs hcs hD hR
    refine w_pure rfl (ih _ (List.getElem_mem hc) hR (by omega)) ?_
    (apply w_add; rfl; rfl; omega; omega; apply w_mvi; rfl; apply w_done0; apply w_reg; apply w_mvi; rfl; apply w_add; rfl; rfl; omega; omega; apply w_mvi; rfl; apply w_done0)
    exact ⟨i + 1, by omega, ⟨rfl, int_eq (by omega), int_eq (by omega), trivial⟩, rfl, rfl, hc⟩
  · obtain rfl : i = v.list.length := by omega
    rw [List.take_length] at hti ⊢
    (apply w_sq; apply w_sq; apply w_reg; apply w_mvi; rfl; apply w_fld; rfl; apply w_ld; rfl; exact hc_i 0 rfl rfl; apply w_len; rfl; apply w_lss; rfl; rfl; apply w_done0; refine w_ifdF rfl (by omega) ?_; apply w_exit; apply w_sq; apply w_reg; apply w_mvi; rfl; apply w_mvi; rfl; apply w_done0; apply w_ret)
    apply finQi; rfl
    omega
def EqStrsOk (P : Program) (f : FuncId) : Prop := ∀ {d : PHeap} {v w : Value} {a b : List (List UInt8)}, RStrs d v a → RStrs d w b → GPure P f [v, w] d (.bool (decide (a = b)))
def g_slices_Equal_string_string : GFun :=
 ⟨26, [(.tmp 4)],
 (.seq
 (.reg false (.op false ⟨(some 4), none, (.mv (.const (.bool false)))⟩ .done))
 (.seq (.seq
 (.reg false (.op false ⟨(some 6), none, (.mv (.tmp 0))⟩
  (.op false ⟨(some 7), none, (.len (.tmp 6))⟩
  (.op false ⟨(some 8), none, (.mv (.tmp 1))⟩
  (.op false ⟨(some 9), none, (.len (.tmp 8))⟩
  (.op false ⟨(some 10), none, (.bin .neq (.tmp 7) (.tmp 9))⟩ .done)))))) (.cond (.tmp 10)
 (.seq
 (.reg false (.op false ⟨(some 4), none, (.mv (.const (.bool false)))⟩ .done)) .ret) .skip))
 (.seq (.seq
 (.reg false (.op false ⟨(some 11), none, (.mv (.tmp 0))⟩
  (.op false ⟨(some 12), none, (.len (.tmp 11))⟩
  (.op false ⟨(some 13), none, (.mv (.const (.int .i64 0)))⟩ .done)))) (.block 0 (.loop
 (.seq
 (.reg false (.op false ⟨(some 14), none, (.bin .lss (.tmp 13) (.tmp 12))⟩ .done))
 (.seq (.cond (.tmp 14) .skip (.exit 0))
 (.seq (.block 1
 (.seq
 (.reg false (.op false ⟨(some 15), none, (.mv (.tmp 13))⟩
  (.op false ⟨(some 5), none, (.mv (.tmp 15))⟩ .done)))
 (.seq
 (.reg true (.op true ⟨(some 16), none, (.mv (.tmp 0))⟩
  (.op true ⟨(some 17), none, (.mv (.tmp 5))⟩
  (.op true ⟨(some 18), none, (.idx 1 (.tmp 16) (.tmp 17))⟩
  (.op true ⟨(some 19), none, (.ld none (.tmp 18))⟩
  (.op true ⟨(some 20), none, (.mv (.tmp 1))⟩
  (.op true ⟨(some 21), none, (.mv (.tmp 5))⟩
  (.op true ⟨(some 22), none, (.idx 1 (.tmp 20) (.tmp 21))⟩
  (.op true ⟨(some 23), none, (.ld none (.tmp 22))⟩
  (.op true ⟨(some 24), none, (.bin .neq (.tmp 19) (.tmp 23))⟩ .done)))))))))) (.cond (.tmp 24)
 (.seq
 (.reg false (.op false ⟨(some 4), none, (.mv (.const (.bool false)))⟩ .done)) .ret) .skip))))
 (.reg false (.op false ⟨(some 25), none, (.bin .add (.tmp 13) (.const (.int .i64 1)))⟩
  (.op false ⟨(some 13), none, (.mv (.tmp 25))⟩ .done)))))))))
 (.seq
 (.reg false (.op false ⟨(some 4), none, (.mv (.const (.bool true)))⟩ .done)) .ret))))⟩

theorem eqstrs_ok {P : Program} {f : FuncId} (hd : decp P f = some g_slices_Equal_string_string) : EqStrsOk P f := by
  intro d v w a b hv hw
  have n1 := RSl.len_le hv
  have n2 := RSl.len_le hw
  obtain ⟨pa, ca, rfl⟩ := RSl.val hv
  obtain ⟨pb, cb, rfl⟩ := RSl.val hw
  have hv' : RSl 1 RStr d (.slice pa a.length ca) a := hv
  have hw' : RSl 1 RStr d (.slice pb b.length cb) b := hw
  refine GPure.of' hd (Nat.le_of_ble_eq_true rfl) ?_
  show gwp P _ _ _ _ _
  by_cases hlen : (a.length : Int) ≠ b.length
  · (apply w_sq; apply w_reg; apply w_mvb; rfl; apply w_done0; apply w_sq; apply w_sq; apply w_reg; apply w_mvs; rfl; apply w_len; rfl; apply w_mvs; rfl; apply w_len; rfl; apply w_neq; rfl; rfl; apply w_done0; refine w_ifdT rfl (by omega) ?_; apply w_sq; apply w_reg; apply w_mvb; rfl; apply w_done0; apply w_ret)
    apply finQb; rfl
    rw [eq_comm, decide_eq_false_iff_not]; intro e; subst e; exact hlen rfl
  have hlen' : a.length = b.length := by omega
  have hlz : (a.length : Int) = b.length := by omega
  (apply w_sq; apply w_reg; apply w_mvb; rfl; apply w_done0; apply w_sq; apply w_sq; apply w_reg; apply w_mvs; rfl; apply w_len; rfl; apply w_mvs; rfl; apply w_len; rfl; apply w_neq; rfl; rfl; apply w_done0; refine w_ifdF rfl (by omega) ?_; apply w_skip; apply w_sq; apply w_sq; apply w_reg; apply w_mvs; rfl; apply w_len; rfl; apply w_mvi; rfl; apply w_done0; apply w_block)
  refine w_loopN (α := Nat) (fun i => [(0, .slice pa a.length ca), (1, .slice pb b.length cb), (12, .int .i64 a.length), (13, .int .i64 i)]) (fun _ => []) (fun i => i ≤ a.length ∧ a.take i = b.take i) (fun i => a.length - i) 0 ⟨rfl, rfl, rfl, rfl, trivial⟩ rfl ⟨Nat.zero_le _, rfl⟩ ?_
  rintro i ρ ⟨hi, heq⟩
  by_cases hc : i < a.length
  · have hcb : i < b.length := by omega
    by_cases he : a[i] ≠ b[i]
    · (apply w_sq; apply w_reg; apply w_lss; rfl; rfl; apply w_done0; apply w_sq; refine w_ifdT rfl (by omega) ?_; apply w_skip; apply w_sq; apply w_block; apply w_sq; apply w_reg; apply w_mvi; rfl; apply w_mvi; rfl; apply w_done0; apply w_sq; apply w_drawn; apply w_mvs; rfl; apply w_mvi; rfl; refine w_idxR (sz := 1) (R := RStr) (by rfl) (by assumption) (by rfl) rfl (by omega) ?_; rintro _ _ _ _ _ ⟨rfl, _⟩; apply w_ld; rfl; exact hc_ds0 (by assumption) rfl; apply w_mvs; rfl; apply w_mvi; rfl; refine w_idxR (sz := 1) (R := RStr) (by rfl) (by assumption) (by rfl) rfl (by omega) ?_; rintro _ _ _ _ _ ⟨rfl, _⟩; apply w_ld; rfl; exact hc_ds0 (by assumption) rfl; apply w_sne; rfl; rfl; apply w_done0; refine w_ifdT rfl (by omega) ?_; apply w_sq; apply w_reg; apply w_mvb; rfl; apply w_done0; apply w_ret)
      apply finQb; rfl
      rw [eq_comm, decide_eq_false_iff_not]; intro e; subst e; exact he rfl
    · (apply w_sq; apply w_reg; apply w_lss; rfl; rfl; apply w_done0; apply w_sq; refine w_ifdT rfl (by omega) ?_; apply w_skip; apply w_sq; apply w_block; apply w_sq; apply w_reg; apply w_mvi; rfl; apply w_mvi; rfl; apply w_done0; apply w_sq; apply w_drawn; apply w_mvs; rfl; apply w_mvi; rfl; refine w_idxR (sz := 1) (R := RStr) (by rfl) (by assumption) (by rfl) rfl (by omega) ?_; rintro _ _ _ _ _ ⟨rfl, _⟩; apply w_ld; rfl; exact hc_ds0 (by assumption) rfl; apply w_mvs; rfl; apply w_mvi; rfl; refine w_idxR (sz := 1) (R := RStr) (by rfl) (by assumption) (by rfl) rfl (by omega) ?_; rintro _ _ _ _ _ ⟨rfl, _⟩; apply w_ld; rfl; exact hc_ds0 (by assumption) rfl; apply w_sne; rfl; rfl; apply w_done0; refine w_ifdF rfl (by omega) ?_; apply w_skip; apply w_reg; apply w_add; rfl; rfl; omega; omega; apply w_mvi; rfl; apply w_done0)
      have he' : a[i] = b[i] := by simpa using he
      exact ⟨i + 1, by omega, ⟨rfl, rfl, rfl, int_eq (by omega), trivial⟩, rfl, rfl, hc, by rw [List.take_succ_eq_append_getElem hc, List.take_succ_eq_append_getElem hcb, heq, he']⟩
  · obtain rfl : i = a.length := by omega
    rw [List.take_length, hlen', List.take_length] at heq
    (apply w_sq; apply w_reg; apply w_lss; rfl; rfl; apply w_done0; apply w_sq; refine w_ifdF rfl (by omega) ?_; apply w_exit; apply w_sq; apply w_reg; apply w_mvb; rfl; apply w_done0; apply w_ret)
    apply finQb; rfl
    rw [eq_comm, decide_eq_true_eq]; exact heq
theorem sames_eq {l m : List V} : sames l m = true ↔ l = m := sames_iff fun x _ y => sameV_iff x y
def EqFuncOk (P : Program) (f : FuncId) : Prop := ∀ {d : PHeap} {v w : Value} {l m : List V} {g : FuncId}, RVals d v l → RVals d w m → (∀ x ∈ l, ∀ y cs ds, RVal d cs x → RVal d ds y → GPure P g [.agg cs.toArray, .agg ds.toArray] d (.bool (sameV x y))) →
  GPure P f [v, w, .func (.func g) #[] #[]] d (.bool (sames l m))
def g_slices_EqualFunc_api_Value_api_Value_api_Value_api_Value : GFun :=
 ⟨32, [(.tmp 6)],
 (.seq
 (.reg false (.op false ⟨(some 6), none, (.mv (.const (.bool false)))⟩ .done))
 (.seq (.seq
 (.reg false (.op false ⟨(some 10), none, (.mv (.tmp 0))⟩
  (.op false ⟨(some 11), none, (.len (.tmp 10))⟩
  (.op false ⟨(some 12), none, (.mv (.tmp 1))⟩
  (.op false ⟨(some 13), none, (.len (.tmp 12))⟩
  (.op false ⟨(some 14), none, (.bin .neq (.tmp 11) (.tmp 13))⟩ .done)))))) (.cond (.tmp 14)
 (.seq
 (.reg false (.op false ⟨(some 6), none, (.mv (.const (.bool false)))⟩ .done)) .ret) .skip))
 (.seq (.seq
 (.reg false (.op false ⟨(some 15), none, (.mv (.tmp 0))⟩
  (.op false ⟨(some 16), none, (.len (.tmp 15))⟩
  (.op false ⟨(some 17), none, (.mv (.const (.int .i64 0)))⟩ .done)))) (.block 0 (.loop
 (.seq
 (.reg false (.op false ⟨(some 18), none, (.bin .lss (.tmp 17) (.tmp 16))⟩ .done))
 (.seq (.cond (.tmp 18) .skip (.exit 0))
 (.seq (.block 1
 (.seq
 (.reg false (.op false ⟨(some 19), none, (.mv (.tmp 17))⟩
  (.op false ⟨(some 20), none, (.idx 6 (.tmp 15) (.tmp 17))⟩
  (.op false ⟨(some 21), none, (.ld (some 6) (.tmp 20))⟩
  (.op false ⟨(some 8), none, (.alo (.agg #[(.int .i64 0), (.int .i64 0), (.int .i64 0), (strV []), (.slice none 0 0), (.slice none 0 0)]))⟩
  (.op false ⟨(some 7), none, (.mv (.tmp 19))⟩
  (.op false ⟨none, none, (.st 6 (.tmp 8) (.tmp 21))⟩ .done)))))))
 (.seq
 (.reg false (.op false ⟨(some 22), none, (.mv (.tmp 1))⟩
  (.op false ⟨(some 23), none, (.mv (.tmp 7))⟩
  (.op false ⟨(some 24), none, (.idx 6 (.tmp 22) (.tmp 23))⟩
  (.op false ⟨(some 25), none, (.ld (some 6) (.tmp 24))⟩
  (.op false ⟨(some 9), none, (.alo (.agg #[(.int .i64 0), (.int .i64 0), (.int .i64 0), (strV []), (.slice none 0 0), (.slice none 0 0)]))⟩
  (.op false ⟨none, none, (.st 6 (.tmp 9) (.tmp 25))⟩ .done)))))))
 (.seq
 (.reg false (.op false ⟨(some 26), none, (.mv (.tmp 2))⟩
  (.op false ⟨(some 27), none, (.ld (some 6) (.tmp 8))⟩
  (.op false ⟨(some 28), none, (.ld (some 6) (.tmp 9))⟩
  (.op false ⟨(some 29), none, (.callv (.tmp 26) [(.tmp 27), (.tmp 28)])⟩
  (.op false ⟨(some 30), none, (.un .not (.tmp 29))⟩ .done)))))) (.cond (.tmp 30)
 (.seq
 (.reg false (.op false ⟨(some 6), none, (.mv (.const (.bool false)))⟩ .done)) .ret) .skip)))))
 (.reg false (.op false ⟨(some 31), none, (.bin .add (.tmp 17) (.const (.int .i64 1)))⟩
  (.op false ⟨(some 17), none, (.mv (.tmp 31))⟩ .done)))))))))
 (.seq
 (.reg false (.op false ⟨(some 6), none, (.mv (.const (.bool true)))⟩ .done)) .ret))))⟩

set_option maxHeartbeats 1000000 in
theorem eqfunc_ok {P : Program} {f : FuncId} (hd : dec P f = some g_slices_EqualFunc_api_Value_api_Value_api_Value_api_Value) : EqFuncOk P f := by
  intro d v w a b g hv hw hg
  have n1 := RSl.len_le hv
  have n2 := RSl.len_le hw
  obtain ⟨pa, ca, rfl⟩ := RSl.val hv
  obtain ⟨pb, cb, rfl⟩ := RSl.val hw
  have hv' : RSl 6 RVal d (.slice pa a.length ca) a := hv
  have hw' : RSl 6 RVal d (.slice pb b.length cb) b := hw
  have hbad : ∀ {p : Prop}, ¬ p → (a = b → p) → false = sames a b := fun h1 h2 => by rw [eq_comm, ← Bool.not_eq_true, sames_eq]; exact fun e => h1 (h2 e)
  refine GPure.of' hd (Nat.le_of_ble_eq_true rfl) ?_
  show gwp P _ _ _ _ _
  by_cases hlen : (a.length : Int) ≠ b.length
  · (apply w_sq; apply w_reg; apply w_mvb; rfl; apply w_done0; apply w_sq; apply w_sq; apply w_reg; apply w_mvs; rfl; apply w_len; rfl; apply w_mvs; rfl; apply w_len; rfl; apply w_neq; rfl; rfl; apply w_done0; refine w_ifdT rfl (by omega) ?_; apply w_sq; apply w_reg; apply w_mvb; rfl; apply w_done0; apply w_ret)
    apply finQb; rfl
    exact hbad (p := (a.length : Int) = b.length) hlen (fun e => by rw [e])
  have hlen' : a.length = b.length := by omega
  have hlz : (a.length : Int) = b.length := by omega
  (apply w_sq; apply w_reg; apply w_mvb; rfl; apply w_done0; apply w_sq; apply w_sq; apply w_reg; apply w_mvs; rfl; apply w_len; rfl; apply w_mvs; rfl; apply w_len; rfl; apply w_neq; rfl; rfl; apply w_done0; refine w_ifdF rfl (by omega) ?_; apply w_skip; apply w_sq; apply w_sq; apply w_reg; apply w_mvs; rfl; apply w_len; rfl; apply w_mvi; rfl; apply w_done0; apply w_block)
  refine w_loopS (α := Nat) (fun i => [(1, .slice pb b.length cb), (2, .func (.func g) #[] #[]), (15, .slice pa a.length ca), (16, .int .i64 a.length), (17, .int .i64 i)]) (fun i d' L' => d' = d ∧ i ≤ a.length ∧ a.take i = b.take i) (fun i => a.length - i) 0 ⟨rfl, rfl, rfl, rfl, rfl, trivial⟩ ⟨rfl, Nat.zero_le _, rfl⟩ ?_
  rintro i ρ d' L' ⟨hdd, hi, heq⟩
  subst hdd
  have hv2 : RSl 6 RVal d' (.slice pa a.length ca) a := hv'
  have hw2 : RSl 6 RVal d' (.slice pb b.length cb) b := hw'
  by_cases hc : i < a.length
  · have hcb : i < b.length := by omega
    (apply w_sq; apply w_reg; apply w_lss; rfl; rfl; apply w_done0; apply w_sq; refine w_ifdT rfl (by omega) ?_; apply w_skip; apply w_sq; apply w_block; apply w_sq; apply w_reg; apply w_mvi; rfl; refine w_idxR (sz := 6) (R := RVal) (by rfl) (by assumption) (by rfl) rfl (by omega) ?_; rintro _ _ _ _ _ _; apply w_ldd; rfl; assumption; assumption; apply w_alo; intro _ _; apply w_mvi; rfl)
    rename_i cs hcs hD hR b8 T8
    obtain ⟨c0, c1, c2, c3, c4, c5, rfl⟩ := six hcs
    refine w_stE 0 [c0, c1, c2, c3, c4, c5] rfl rfl rfl rfl (Nat.le_of_ble_eq_true rfl) (cell1_val _ _ _ hR) rfl ?_
    (apply w_done0; apply w_sq; apply w_reg; apply w_mvs; rfl; apply w_mvi; rfl; refine w_idxR (sz := 6) (R := RVal) (by rfl) (by assumption) (by rfl) rfl (by omega) ?_; rintro _ _ _ _ _ _; apply w_ldd; rfl; assumption; assumption; apply w_alo; intro _ _)
    rename_i ds hds hD2 hR2 b9 T9
    obtain ⟨e0, e1, e2, e3, e4, e5, rfl⟩ := six hds
    refine w_stE 0 [e0, e1, e2, e3, e4, e5] rfl rfl rfl rfl (Nat.le_of_ble_eq_true rfl) (cell1_val _ _ _ hR2) rfl ?_
    (apply w_done0; apply w_sq; apply w_reg; apply w_mvf; rfl; apply w_ldb 1; rfl; rfl; rfl; apply w_ldb 0; rfl; rfl; rfl)
    refine w_purev (vs := [.agg [c0, c1, c2, c3, c4, c5].toArray, .agg [e0, e1, e2, e3, e4, e5].toArray]) rfl rfl (hg _ (List.getElem_mem hc) _ _ _ hR hR2) ?_
    cases hs : sameV a[i] b[i] with
    | false =>
      (apply w_not; rfl; apply w_done0; apply w_ifT; rfl; apply w_sq; apply w_reg; apply w_mvb; rfl; apply w_done0; apply w_ret)
      apply finQb; rfl
      refine hbad (p := a[i] = b[i]) (fun e => ?_) (fun e => by subst e; rfl)
      rw [(sameV_iff _ _).2 e] at hs; cases hs
    | true =>
      (apply w_not; rfl; apply w_done0; apply w_ifF; rfl; apply w_skip; apply w_reg; apply w_add; rfl; rfl; omega; omega; apply w_mvi; rfl; apply w_done0)
      exact ⟨i + 1, by omega, ⟨rfl, rfl, rfl, rfl, int_eq (by omega), trivial⟩, rfl, hc, by rw [List.take_succ_eq_append_getElem hc, List.take_succ_eq_append_getElem hcb, heq, (sameV_iff _ _).1 hs]⟩
  · obtain rfl : i = a.length := by omega
    rw [List.take_length, hlen', List.take_length] at heq
    (apply w_sq; apply w_reg; apply w_lss; rfl; rfl; apply w_done0; apply w_sq; refine w_ifdF rfl (by omega) ?_; apply w_exit; apply w_sq; apply w_reg; apply w_mvb; rfl; apply w_done0; apply w_ret)
    apply finQb; rfl
    rw [eq_comm, sames_eq]; exact heq
def EveryStrOk (P : Program) (f : FuncId) : Prop := ∀ {d : PHeap} {v : Value} {ks : List (List UInt8)} {g : FuncId} {p : List UInt8 → Bool}, RStrs d v ks → (∀ k ∈ ks, GPure P g [strV k] d (.bool (p k))) → GPure P f [v, .func (.func g) #[] #[]] d (.bool (ks.all p))
def g_value_every_string : GFun :=
 ⟨18, [(.tmp 4)],
 (.seq
 (.reg false (.op false ⟨(some 4), none, (.mv (.const (.bool false)))⟩ .done))
 (.seq (.seq
 (.reg false (.op false ⟨(some 7), none, (.mv (.tmp 0))⟩
  (.op false ⟨(some 8), none, (.len (.tmp 7))⟩
  (.op false ⟨(some 9), none, (.mv (.const (.int .i64 0)))⟩ .done)))) (.block 0 (.loop
 (.seq
 (.reg false (.op false ⟨(some 10), none, (.bin .lss (.tmp 9) (.tmp 8))⟩ .done))
 (.seq (.cond (.tmp 10) .skip (.exit 0))
 (.seq (.block 1
 (.seq
 (.reg false (.op false ⟨(some 11), none, (.idx 1 (.tmp 7) (.tmp 9))⟩
  (.op false ⟨(some 12), none, (.ld none (.tmp 11))⟩
  (.op false ⟨(some 6), none, (.mv (.tmp 12))⟩ .done))))
 (.seq
 (.reg false (.op false ⟨(some 13), none, (.mv (.tmp 1))⟩
  (.op false ⟨(some 14), none, (.mv (.tmp 6))⟩
  (.op false ⟨(some 15), none, (.callv (.tmp 13) [(.tmp 14)])⟩
  (.op false ⟨(some 16), none, (.un .not (.tmp 15))⟩ .done))))) (.cond (.tmp 16)
 (.seq
 (.reg false (.op false ⟨(some 4), none, (.mv (.const (.bool false)))⟩ .done)) .ret) .skip))))
 (.reg false (.op false ⟨(some 17), none, (.bin .add (.tmp 9) (.const (.int .i64 1)))⟩
  (.op false ⟨(some 9), none, (.mv (.tmp 17))⟩ .done)))))))))
 (.seq
 (.reg false (.op false ⟨(some 4), none, (.mv (.const (.bool true)))⟩ .done)) .ret)))⟩

theorem everystr_ok {P : Program} {f : FuncId} (hd : dec P f = some g_value_every_string) : EveryStrOk P f := by
  intro d v ks g p hv hg
  have n1 := RSl.len_le hv
  obtain ⟨pa, ca, rfl⟩ := RSl.val hv
  have hv' : RSl 1 RStr d (.slice pa ks.length ca) ks := hv
  refine GPure.of' hd (Nat.le_of_ble_eq_true rfl) ?_
  show gwp P _ _ _ _ _
  (apply w_sq; apply w_reg; apply w_mvb; rfl; apply w_done0; apply w_sq; apply w_sq; apply w_reg; apply w_mvs; rfl; apply w_len; rfl; apply w_mvi; rfl; apply w_done0; apply w_block)
  refine w_loopN (α := Nat) (fun i => [(1, .func (.func g) #[] #[]), (7, .slice pa ks.length ca), (8, .int .i64 ks.length), (9, .int .i64 i)]) (fun _ => []) (fun i => i ≤ ks.length ∧ (ks.take i).all p = true) (fun i => ks.length - i) 0 ⟨rfl, rfl, rfl, rfl, trivial⟩ rfl ⟨Nat.zero_le _, rfl⟩ ?_
  rintro i ρ ⟨hi, hall⟩
  by_cases hc : i < ks.length
  · (apply w_sq; apply w_reg; apply w_lss; rfl; rfl; apply w_done0; apply w_sq; refine w_ifdT rfl (by omega) ?_; apply w_skip; apply w_sq; apply w_block; apply w_sq; apply w_reg; refine w_idxR (sz := 1) (R := RStr) (by rfl) (by assumption) (by rfl) rfl (by omega) ?_; rintro _ _ _ _ _ ⟨rfl, _⟩; apply w_ld; rfl; exact hc_ds0 (by assumption) rfl; apply w_mvt; rfl; apply w_done0; apply w_sq; apply w_reg; apply w_mvf; rfl; apply w_mvt; rfl)
    refine w_purev (vs := [strV ks[i]]) rfl rfl (hg _ (List.getElem_mem hc)) ?_
    cases hs : p ks[i] with
    | false =>
      (apply w_not; rfl; apply w_done0; apply w_ifT; rfl; apply w_sq; apply w_reg; apply w_mvb; rfl; apply w_done0; apply w_ret)
      apply finQb; rfl
      rw [eq_comm, ← Bool.not_eq_true, List.all_eq_true]
      intro h; rw [h _ (List.getElem_mem hc)] at hs; cases hs
    | true =>
      (apply w_not; rfl; apply w_done0; apply w_ifF; rfl; apply w_skip; apply w_reg; apply w_add; rfl; rfl; omega; omega; apply w_mvi; rfl; apply w_done0)
      exact ⟨i + 1, by omega, ⟨rfl, rfl, rfl, int_eq (by omega), trivial⟩, rfl, rfl, hc, by rw [List.take_succ_eq_append_getElem hc, List.all_append, hall]; simp [hs]⟩
  · obtain rfl : i = ks.length := by omega
    rw [List.take_length] at hall
    (apply w_sq; apply w_reg; apply w_lss; rfl; rfl; apply w_done0; apply w_sq; refine w_ifdF rfl (by omega) ?_; apply w_exit; apply w_sq; apply w_reg; apply w_mvb; rfl; apply w_done0; apply w_ret)
    apply finQb; rfl
    exact hall.symm
end Go.Gk.Val
end

section
/-
  Sameness of values, as the program tells it.
-/
namespace Go.Gk.Val
open Go Go.Gk Go.Gk.Utf
attribute [local irreducible] gwp gws

def g_value_Same (f_slices_Equal_string_string f_slices_EqualFunc_api_Value_api_Value_api_Value_api_Value f_value_Same : Nat) : GFun :=
 ⟨38, [(.tmp 4)],
 (.seq
 (.reg false (.op false ⟨(some 2), none, (.box (.tmp 0))⟩
  (.op false ⟨(some 3), none, (.box (.tmp 1))⟩
  (.op false ⟨(some 4), none, (.mv (.const (.bool false)))⟩ .done))))
 (.seq
 (.reg false (.op false ⟨(some 5), none, (.fld 0 (.tmp 2))⟩
  (.op false ⟨(some 6), none, (.ld none (.tmp 5))⟩
  (.op false ⟨(some 7), none, (.fld 0 (.tmp 3))⟩
  (.op false ⟨(some 8), none, (.ld none (.tmp 7))⟩
  (.op false ⟨(some 9), none, (.bin .eql (.tmp 6) (.tmp 8))⟩
  (.op false ⟨(some 10), none, (.mv (.tmp 9))⟩
  (.op false ⟨(some 11), (some (10, true)), (.fld 1 (.tmp 2))⟩
  (.op false ⟨(some 12), (some (10, true)), (.ld (some 2) (.tmp 11))⟩
  (.op false ⟨(some 13), (some (10, true)), (.fld 1 (.tmp 3))⟩
  (.op false ⟨(some 14), (some (10, true)), (.ld (some 2) (.tmp 13))⟩
  (.op false ⟨(some 15), (some (10, true)), (.eqc false [(0, 0), (0, 1)] (.tmp 12) (.tmp 14))⟩
  (.op false ⟨(some 16), none, (.pick (.tmp 10) (.tmp 15) (.const (.bool false)))⟩
  (.op false ⟨(some 17), none, (.mv (.tmp 16))⟩
  (.op false ⟨(some 18), (some (17, true)), (.fld 3 (.tmp 2))⟩
  (.op false ⟨(some 19), (some (17, true)), (.ld none (.tmp 18))⟩
  (.op false ⟨(some 20), (some (17, true)), (.fld 3 (.tmp 3))⟩
  (.op false ⟨(some 21), (some (17, true)), (.ld none (.tmp 20))⟩
  (.op false ⟨(some 22), (some (17, true)), (.bin .eql (.tmp 19) (.tmp 21))⟩
  (.op false ⟨(some 23), none, (.pick (.tmp 17) (.tmp 22) (.const (.bool false)))⟩
  (.op false ⟨(some 24), none, (.mv (.tmp 23))⟩
  (.op false ⟨(some 25), (some (24, true)), (.fld 5 (.tmp 2))⟩
  (.op false ⟨(some 26), (some (24, true)), (.ld none (.tmp 25))⟩
  (.op false ⟨(some 27), (some (24, true)), (.fld 5 (.tmp 3))⟩
  (.op false ⟨(some 28), (some (24, true)), (.ld none (.tmp 27))⟩
  (.op false ⟨(some 29), (some (24, true)), (.call f_slices_Equal_string_string [(.tmp 26), (.tmp 28)])⟩
  (.op false ⟨(some 30), none, (.pick (.tmp 24) (.tmp 29) (.const (.bool false)))⟩
  (.op false ⟨(some 31), none, (.mv (.tmp 30))⟩
  (.op false ⟨(some 32), (some (31, true)), (.fld 4 (.tmp 2))⟩
  (.op false ⟨(some 33), (some (31, true)), (.ld none (.tmp 32))⟩
  (.op false ⟨(some 34), (some (31, true)), (.fld 4 (.tmp 3))⟩
  (.op false ⟨(some 35), (some (31, true)), (.ld none (.tmp 34))⟩
  (.op false ⟨(some 36), (some (31, true)), (.call f_slices_EqualFunc_api_Value_api_Value_api_Value_api_Value [(.tmp 33), (.tmp 35), (.func f_value_Same)])⟩
  (.op false ⟨(some 37), none, (.pick (.tmp 31) (.tmp 36) (.const (.bool false)))⟩
  (.op false ⟨(some 4), none, (.mv (.tmp 37))⟩ .done))))))))))))))))))))))))))))))))))) .ret))⟩

set_option maxHeartbeats 1000000 in
theorem vsame_ok {P : Program} {f f1 f2 : FuncId} (hd : dec P f = some (g_value_Same f1 f2 f)) (h1 : EqStrsOk P f1) (h2 : EqFuncOk P f2) : SameOk P f := by
  intro a
  induction a using V.ind with
  | h a ih =>
  intro b d cs ds ha hb
  refine GPure.of' hd (Nat.le_of_ble_eq_true rfl) ?_
  have hbad : ∀ {p : Prop}, ¬ p → (a = b → p) → false = sameV a b := fun h1 h2 => same_of ⟨fun h => (by cases h), fun h => absurd (h2 h) h1⟩
  obtain ⟨lv, kv, rfl, ik, im, ie, it, hl, hks⟩ := ha.open
  obtain ⟨lv', kv', rfl, ik', im', ie', it', hl', hks'⟩ := hb.open
  obtain ⟨la, lc, rfl⟩ := RSl.val hl
  obtain ⟨ka, kc, rfl⟩ := RSl.val hks
  obtain ⟨la', lc', rfl⟩ := RSl.val hl'
  obtain ⟨ka', kc', rfl⟩ := RSl.val hks'
  show gwp P _ _ _ _ _
  apply w_sq; apply w_reg
  refine w_boxa (l := [.int .i64 a.kind, .int .i64 a.m, .int .i64 a.e, strV a.text, .slice la a.list.length lc, .slice ka a.keys.length kc]) rfl (fun b2 T2 => ?_)
  refine w_boxa (l := [.int .i64 b.kind, .int .i64 b.m, .int .i64 b.e, strV b.text, .slice la' b.list.length lc', .slice ka' b.keys.length kc']) rfl (fun b3 T3 => ?_)
  by_cases p1 : a.kind ≠ b.kind
  · (apply w_mvb; rfl; apply w_done0; apply w_sq; apply w_reg; apply w_fld; rfl; apply w_ld; rfl; exact hc_i 1 rfl rfl; apply w_fld; rfl; apply w_ld; rfl; exact hc_i 0 rfl rfl; apply w_eql; rfl; rfl; apply w_mvb; rfl; refine w_gdF rfl (by omega) ?_; apply w_gF; rfl; apply w_gF; rfl; apply w_gF; rfl; apply w_gF; rfl; apply w_gF; rfl; apply w_pickFb; rfl; rfl; apply w_mvb; rfl; apply w_gF; rfl; apply w_gF; rfl; apply w_gF; rfl; apply w_gF; rfl; apply w_gF; rfl; apply w_pickFb; rfl; rfl; apply w_mvb; rfl; apply w_gF; rfl; apply w_gF; rfl; apply w_gF; rfl; apply w_gF; rfl; apply w_gF; rfl; apply w_pickFb; rfl; rfl; apply w_mvb; rfl; apply w_gF; rfl; apply w_gF; rfl; apply w_gF; rfl; apply w_gF; rfl; apply w_gF; rfl; apply w_pickFb; rfl; rfl; apply w_mvb; rfl; apply w_done0; apply w_ret)
    apply finQb; rfl
    exact hbad (p := a.kind = b.kind) p1 (fun h => by rw [h])
  by_cases p2 : (false ^^ (decide (a.m = b.m) && decide (a.e = b.e))) = false
  · (apply w_mvb; rfl; apply w_done0; apply w_sq; apply w_reg; apply w_fld; rfl; apply w_ld; rfl; exact hc_i 1 rfl rfl; apply w_fld; rfl; apply w_ld; rfl; exact hc_i 0 rfl rfl; apply w_eql; rfl; rfl; apply w_mvb; rfl; refine w_gdT rfl (by omega) ?_; apply w_gT; rfl; apply w_fld; rfl; apply w_gT; rfl; apply w_ldp 1; rfl; rfl; rfl; apply w_gT; rfl; apply w_fld; rfl; apply w_gT; rfl; apply w_ldp 0; rfl; rfl; rfl; apply w_gT; rfl; apply w_eqc2; rfl; rfl; apply w_pickTb; rfl; rfl; apply w_mvb; rfl; apply w_gbF; rfl; (with_reducible assumption); apply w_gF; rfl; apply w_gF; rfl; apply w_gF; rfl; apply w_gF; rfl; apply w_gF; rfl; apply w_pickFb; rfl; rfl; apply w_mvb; rfl; apply w_gF; rfl; apply w_gF; rfl; apply w_gF; rfl; apply w_gF; rfl; apply w_gF; rfl; apply w_pickFb; rfl; rfl; apply w_mvb; rfl; apply w_gF; rfl; apply w_gF; rfl; apply w_gF; rfl; apply w_gF; rfl; apply w_gF; rfl; apply w_pickFb; rfl; rfl; apply w_mvb; rfl; apply w_done0; apply w_ret)
    apply finQb; rfl
    refine hbad (p := a.m = b.m ∧ a.e = b.e) (fun h => ?_) (fun h => by rw [h]; exact ⟨rfl, rfl⟩)
    rw [h.1, h.2] at p2; simp at p2
  have p2' : (false ^^ (decide (a.m = b.m) && decide (a.e = b.e))) = true := by simpa using p2
  have p2'' : a.m = b.m ∧ a.e = b.e := by simpa using p2'
  by_cases p3 : a.text ≠ b.text
  · (apply w_mvb; rfl; apply w_done0; apply w_sq; apply w_reg; apply w_fld; rfl; apply w_ld; rfl; exact hc_i 1 rfl rfl; apply w_fld; rfl; apply w_ld; rfl; exact hc_i 0 rfl rfl; apply w_eql; rfl; rfl; apply w_mvb; rfl; refine w_gdT rfl (by omega) ?_; apply w_gT; rfl; apply w_fld; rfl; apply w_gT; rfl; apply w_ldp 1; rfl; rfl; rfl; apply w_gT; rfl; apply w_fld; rfl; apply w_gT; rfl; apply w_ldp 0; rfl; rfl; rfl; apply w_gT; rfl; apply w_eqc2; rfl; rfl; apply w_pickTb; rfl; rfl; apply w_mvb; rfl; apply w_gbT; rfl; (with_reducible assumption); apply w_gT; rfl; apply w_fld; rfl; apply w_gT; rfl; apply w_ld; rfl; exact hc_i 1 rfl rfl; apply w_gT; rfl; apply w_fld; rfl; apply w_gT; rfl; apply w_ld; rfl; exact hc_i 0 rfl rfl; apply w_gT; rfl; apply w_seq; rfl; rfl; apply w_pickTb; rfl; rfl; apply w_mvb; rfl; refine w_gdF rfl (by omega) ?_; apply w_gF; rfl; apply w_gF; rfl; apply w_gF; rfl; apply w_gF; rfl; apply w_gF; rfl; apply w_pickFb; rfl; rfl; apply w_mvb; rfl; apply w_gF; rfl; apply w_gF; rfl; apply w_gF; rfl; apply w_gF; rfl; apply w_gF; rfl; apply w_pickFb; rfl; rfl; apply w_mvb; rfl; apply w_done0; apply w_ret)
    apply finQb; rfl
    exact hbad (p := a.text = b.text) p3 (fun h => by rw [h])
  have p3' : a.text = b.text := by simpa using p3
  have p1' : a.kind = b.kind := by simpa using p1
  have fin : a.keys = b.keys → a.list = b.list → true = sameV a b := fun e1 e2 => same_of ⟨fun _ => by
    obtain ⟨k, m, e, t, l, ks⟩ := a
    obtain ⟨k', m', e', t', l', ks'⟩ := b
    simp only [V.kind, V.m, V.e, V.text, V.list, V.keys] at p1' p2'' p3' e1 e2
    rw [p1', p2''.1, p2''.2, p3', e1, e2], fun _ => rfl⟩
  (apply w_mvb; rfl; apply w_done0; apply w_sq; apply w_reg; apply w_fld; rfl; apply w_ld; rfl; exact hc_i 1 rfl rfl; apply w_fld; rfl; apply w_ld; rfl; exact hc_i 0 rfl rfl; apply w_eql; rfl; rfl; apply w_mvb; rfl; refine w_gdT rfl (by omega) ?_; apply w_gT; rfl; apply w_fld; rfl; apply w_gT; rfl; apply w_ldp 1; rfl; rfl; rfl; apply w_gT; rfl; apply w_fld; rfl; apply w_gT; rfl; apply w_ldp 0; rfl; rfl; rfl; apply w_gT; rfl; apply w_eqc2; rfl; rfl; apply w_pickTb; rfl; rfl; apply w_mvb; rfl; apply w_gbT; rfl; (with_reducible assumption); apply w_gT; rfl; apply w_fld; rfl; apply w_gT; rfl; apply w_ld; rfl; exact hc_i 1 rfl rfl; apply w_gT; rfl; apply w_fld; rfl; apply w_gT; rfl; apply w_ld; rfl; exact hc_i 0 rfl rfl; apply w_gT; rfl; apply w_seq; rfl; rfl; apply w_pickTb; rfl; rfl; apply w_mvb; rfl; refine w_gdT rfl (by omega) ?_; apply w_gT; rfl; apply w_fld; rfl; apply w_gT; rfl; apply w_ld; rfl; exact hc_i 1 rfl rfl; apply w_gT; rfl; apply w_fld; rfl; apply w_gT; rfl; apply w_ld; rfl; exact hc_i 0 rfl rfl; apply w_gT; rfl)
  refine w_pure rfl (h1 hks hks') ?_
  by_cases p4 : a.keys = b.keys
  · rw [decide_eq_true p4]
    (apply w_pickTb; rfl; rfl; apply w_mvb; rfl; apply w_gT; rfl; apply w_fld; rfl; apply w_gT; rfl; apply w_ld; rfl; exact hc_i 1 rfl rfl; apply w_gT; rfl; apply w_fld; rfl; apply w_gT; rfl; apply w_ld; rfl; exact hc_i 0 rfl rfl; apply w_gT; rfl)
    refine w_pure rfl (h2 hl hl' (fun x hx y cs ds hcx hcy => ih x hx y hcx hcy)) ?_
    cases p5 : sames a.list b.list with
    | true =>
      (apply w_pickTb; rfl; rfl; apply w_mvb; rfl; apply w_done0; apply w_ret)
      apply finQb; rfl
      exact fin p4 (sames_eq.1 p5)
    | false =>
      (apply w_pickTb; rfl; rfl; apply w_mvb; rfl; apply w_done0; apply w_ret)
      apply finQb; rfl
      refine hbad (p := a.list = b.list) (fun h => ?_) (fun h => by rw [h])
      rw [sames_eq.2 h] at p5; cases p5
  · rw [decide_eq_false p4]
    (apply w_pickTb; rfl; rfl; apply w_mvb; rfl; apply w_gF; rfl; apply w_gF; rfl; apply w_gF; rfl; apply w_gF; rfl; apply w_gF; rfl; apply w_pickFb; rfl; rfl; apply w_mvb; rfl; apply w_done0; apply w_ret)
    apply finQb; rfl
    exact hbad (p := a.keys = b.keys) p4 (fun h => by rw [h])
end Go.Gk.Val
end

section
/-
  Texts as characters: plain.
-/
namespace Go.Gk.Utf
open Go Go.Lib

/-- The characters of a text. -/
def chsG : Nat → List UInt8 → List (List UInt8)
  | 0, _ => []
  | n + 1, l => if l = [] then [] else l.take (decodeL l).2 :: chsG n (l.drop (decodeL l).2)
def chs (l : List UInt8) : List (List UInt8) := chsG l.length l
def rnsG : Nat → List UInt8 → List Int
  | 0, _ => []
  | n + 1, l => if l = [] then [] else ((decodeL l).1 : Int) :: rnsG n (l.drop (decodeL l).2)
def rns (l : List UInt8) : List Int := rnsG l.length l
theorem chsG_fuel : ∀ (n m : Nat) (l : List UInt8), l.length ≤ n → l.length ≤ m → chsG n l = chsG m l
  | 0, 0, _, _, _ => rfl
  | 0, m + 1, l, h, _ => by
    have : l = [] := List.eq_nil_of_length_eq_zero (by omega)
    simp [chsG, this]
  | n + 1, 0, l, _, h => by
    have : l = [] := List.eq_nil_of_length_eq_zero (by omega)
    simp [chsG, this]
  | n + 1, m + 1, l, h1, h2 => by
    by_cases h : l = []
    · simp [chsG, h]
    · have hw := decodeL_width l
      have hl : 0 < l.length := List.length_pos_iff.2 h
      simp only [chsG, if_neg h]
      rw [chsG_fuel n m _ (by rw [List.length_drop]; omega) (by rw [List.length_drop]; omega)]
theorem chs_nil : chs [] = [] := rfl
theorem chs_step {l : List UInt8} (h : l ≠ []) : chs l = l.take (decodeL l).2 :: chs (l.drop (decodeL l).2) := by
  have hw := decodeL_width l
  have hl : 0 < l.length := List.length_pos_iff.2 h
  obtain ⟨n, hn⟩ : ∃ n, l.length = n + 1 := ⟨l.length - 1, by omega⟩
  unfold chs
  rw [hn]
  simp only [chsG, if_neg h]
  rw [chsG_fuel n (l.drop (decodeL l).2).length _ (by rw [List.length_drop]; omega) (Nat.le_refl _)]
theorem chsG_len : ∀ (n : Nat) (l : List UInt8), (chsG n l).length ≤ l.length
  | 0, _ => Nat.zero_le _
  | n + 1, l => by
    by_cases h : l = []
    · simp [chsG, h]
    · have hw := decodeL_width l
      have hl : 0 < l.length := List.length_pos_iff.2 h
      have := chsG_len n (l.drop (decodeL l).2)
      rw [List.length_drop] at this
      simp only [chsG, if_neg h, List.length_cons]; omega
theorem chs_len (l : List UInt8) : (chs l).length ≤ l.length := chsG_len _ _
theorem rnsG_len : ∀ (n : Nat) (l : List UInt8), (rnsG n l).length = (chsG n l).length
  | 0, _ => rfl
  | n + 1, l => by
    by_cases h : l = []
    · simp [chsG, rnsG, h]
    · simp only [chsG, rnsG, if_neg h, List.length_cons, rnsG_len n]
theorem rns_len (l : List UInt8) : (rns l).length = (chs l).length := rnsG_len _ _
theorem decode_drop (l : List UInt8) (i : Nat) : Utf8.decode ⟨l.toArray⟩ i = decodeL (l.drop i) := by
  have h := tail_decode ⟨l.toArray⟩ i 0
  rw [Nat.add_zero] at h
  rw [← h, decodeL]
  congr 1
  simp [ByteArray.extract, ByteArray.copySlice, ByteArray.size]
  exact List.take_of_length_le (by simp)
theorem enc_eq {r : Int} (h0 : 0 ≤ r) (h : r < 55296 ∨ (57343 < r ∧ r ≤ 1114111)) : encL r = encodeRune r := by
  have hv : Utf8.valid r = true := by simp [Utf8.valid]; omega
  simp only [encL, Utf8.encode, hv, if_true, encodeRune]
  by_cases h1 : r ≤ 127
  · rw [if_pos (by omega), encodeRuneZ_one h0 h1]; rfl
  rw [if_neg (by omega)]
  by_cases h2 : r ≤ 2047
  · rw [if_pos (by omega), encodeRuneZ_two (by omega) h2]
    simp only [List.map_cons, List.map_nil]
    rw [show (192 + r / 64).toNat = 0xC0 + r.toNat / 64 by omega, show (128 + r % 64).toNat = 0x80 + r.toNat % 64 by omega]
  rw [if_neg (by omega)]
  by_cases h3 : r ≤ 65535
  · rw [if_pos (by omega), encodeRuneZ_three (by omega)]
    simp only [List.map_cons, List.map_nil]
    rw [show (224 + r / 4096).toNat = 0xE0 + r.toNat / 4096 by omega, show (128 + r / 64 % 64).toNat = 0x80 + r.toNat / 64 % 64 by omega, show (128 + r % 64).toNat = 0x80 + r.toNat % 64 by omega]
  rw [if_neg (by omega), encodeRuneZ_four (by omega) (by omega)]
  simp only [List.map_cons, List.map_nil]
  rw [show (240 + r / 262144).toNat = 0xF0 + r.toNat / 262144 by omega, show (128 + r / 4096 % 64).toNat = 0x80 + r.toNat / 4096 % 64 by omega, show (128 + r / 64 % 64).toNat = 0x80 + r.toNat / 64 % 64 by omega, show (128 + r % 64).toNat = 0x80 + r.toNat % 64 by omega]
theorem enc_rns : ∀ (n : Nat) (l : List UInt8), validD l = true → (rnsG n l).map encL = chsG n l
  | 0, _, _ => rfl
  | n + 1, l, hv => by
    by_cases h : l = []
    · simp [chsG, rnsG, h]
    · rw [validD_step l h] at hv
      by_cases hb : (decodeL l).1 = 65533 ∧ (decodeL l).2 = 1
      · rw [if_pos hb] at hv; cases hv
      · rw [if_neg hb] at hv
        have hd : (decodeL l).1 < 55296 ∨ (57343 < (decodeL l).1 ∧ (decodeL l).1 ≤ 1114111) := by
          rw [decodeL_N]; exact decodeN_valid _ _ _ _ _ (UInt8.toNat_lt _)
        simp only [chsG, rnsG, if_neg h, List.map_cons]
        rw [enc_eq (by omega) (by omega), encode_decode l h hb, enc_rns n _ hv]
theorem rns_part {l : List UInt8} (hv : validD l = true) (a b : Nat) : (((rns l).drop a).take b).flatMap encL = (((chs l).drop a).take b).flatten := by
  rw [List.flatMap_def, List.map_take, List.map_drop, rns, enc_rns _ _ hv]; rfl
theorem runesFrom_eq (l : List UInt8) : ∀ (n i : Nat) (acc : Array Value), l.length ≤ n + i → (Conv.runesFrom ⟨l.toArray⟩ n i acc).toList = acc.toList ++ (rnsG n (l.drop i)).map (Value.int .i32)
  | 0, i, acc, h => by simp [Conv.runesFrom, rnsG]
  | n + 1, i, acc, h => by
    have hs : (⟨l.toArray⟩ : ByteArray).size = l.length := by simp [ByteArray.size]
    simp only [Conv.runesFrom, hs]
    by_cases hi : i < l.length
    · have hne : l.drop i ≠ [] := by simp; omega
      have hw := decodeL_width (l.drop i)
      rw [if_pos hi, decode_drop, runesFrom_eq l n _ _ (by omega)]
      simp only [rnsG, if_neg hne]
      simp [List.drop_drop]
    · have hne : l.drop i = [] := by simp; omega
      rw [if_neg hi, hne]; simp [rnsG]
theorem runesL_eq (l : List UInt8) : Gk.runesL l = (rns l).map (Value.int .i32) := by
  simp only [Gk.runesL]
  rw [runesFrom_eq l _ 0 _ (by omega)]
  simp [rns]
theorem part_len {l : List UInt8} (a b : Nat) : (((chs l).drop a).take b).flatten.length ≤ l.length := by
  have key : ∀ (n : Nat) (l : List UInt8) (a b : Nat), (((chsG n l).drop a).take b).flatten.length ≤ l.length := by
    intro n
    induction n with
    | zero => intro l a b; simp [chsG]
    | succ n ih =>
      intro l a b
      by_cases h : l = []
      · simp [chsG, h]
      · simp only [chsG, if_neg h]
        have hw := decodeL_width l
        have h2 : (l.take (decodeL l).2).length + (l.drop (decodeL l).2).length = l.length := by rw [← List.length_append, List.take_append_drop]
        cases a with
        | zero =>
          cases b with
          | zero => simp
          | succ b =>
            have := ih (l.drop (decodeL l).2) 0 b
            simp only [List.drop_zero, List.take_succ_cons, List.flatten_cons, List.length_append] at this ⊢
            omega
        | succ a =>
          have := ih (l.drop (decodeL l).2) a b
          simp only [List.drop_succ_cons] at this ⊢
          omega
  exact key _ _ _ _
theorem first_w {l : List UInt8} (hl : l ≠ []) (hv : validD l = true) : (firstF l).2 = ((decodeL l).2 : Int) := by
  rw [first_eq hl]
  by_cases h : decodeL l = (65533, 1)
  · rw [validD_step l hl, h] at hv; simp at hv
  · rw [if_neg h]
theorem valid_rest {l : List UInt8} (hl : l ≠ []) (hv : validD l = true) : validD (l.drop (decodeL l).2) = true := by
  rw [validD_step l hl] at hv
  split at hv
  · cases hv
  · exact hv
/-- A first character is the first wherever it stands first. -/
theorem decode_take {l : List UInt8} (hne : l ≠ []) (hv : ¬ ((decodeL l).1 = 65533 ∧ (decodeL l).2 = 1)) (t : List UInt8) : decodeL (l.take (decodeL l).2 ++ t) = decodeL l := by
  have hl : 0 < l.length := List.length_pos_iff.2 hne
  have g : ∀ (w i : Nat), i < w → w ≤ l.length → (l.take w ++ t).getD i 0 = l.getD i 0 := by
    intro w i h1 h2
    simp only [List.getD]
    rw [List.getElem?_append_left (by simp; omega), List.getElem?_take_of_lt h1]
  have gl : ∀ w : Nat, w ≤ l.length → w ≤ (l.take w ++ t).length := by intro w h; simp; omega
  rw [decodeL_N (l.take _ ++ t)]
  rw [decodeL_N l] at hv ⊢
  rcases decodeN_shape l.length (l.getD 0 0).toNat (l.getD 1 0).toNat (l.getD 2 0).toNat (l.getD 3 0).toNat with ⟨c, e⟩ | ⟨c1, c2, c3, cv, e⟩ | ⟨c1, c2, c3, c4, cv, cs, e⟩ | ⟨c1, c2, c3, c4, c5, cv, cw, e⟩ | e
  · rw [e]; dsimp only
    rw [g 1 0 (by omega) (by omega), decodeN, if_pos c]
  · rw [e]; dsimp only
    have := gl 2 (by omega)
    rw [g 2 0 (by omega) (by omega), g 2 1 (by omega) (by omega), decodeN, if_neg (by omega), if_pos (by omega), if_pos (by omega)]
  · rw [e]; dsimp only
    have := gl 3 (by omega)
    rw [g 3 0 (by omega) (by omega), g 3 1 (by omega) (by omega), g 3 2 (by omega) (by omega), decodeN, if_neg (by omega), if_neg (by omega), if_pos (by omega), if_pos (by omega)]
  · rw [e]; dsimp only
    have := gl 4 (by omega)
    rw [g 4 0 (by omega) (by omega), g 4 1 (by omega) (by omega), g 4 2 (by omega) (by omega), g 4 3 (by omega) (by omega), decodeN, if_neg (by omega), if_neg (by omega), if_neg (by omega), if_pos (by omega), if_pos (by omega)]
  · rw [e] at hv; simp at hv
/-- Parts of a text that may be, may be. -/
theorem part_valid {l : List UInt8} (hv : validD l = true) (a b : Nat) : validD (((chs l).drop a).take b).flatten = true := by
  have key : ∀ (n : Nat) (l : List UInt8) (a b : Nat), validD l = true → validD (((chsG n l).drop a).take b).flatten = true := by
    intro n
    induction n with
    | zero => intro l a b _; simp [chsG, validD_nil]
    | succ n ih =>
      intro l a b hv
      by_cases h : l = []
      · simp [chsG, h, validD_nil]
      · have hr := valid_rest h hv
        simp only [chsG, if_neg h]
        have hw := decodeL_width l
        have hwl := decodeL_le l h
        have hl : 0 < l.length := List.length_pos_iff.2 h
        cases a with
        | zero =>
          cases b with
          | zero => simp [validD_nil]
          | succ b =>
            have hb : ¬ ((decodeL l).1 = 65533 ∧ (decodeL l).2 = 1) := fun hb => by rw [validD_step l h, if_pos hb] at hv; cases hv
            have := ih (l.drop (decodeL l).2) 0 b hr
            simp only [List.drop_zero, List.take_succ_cons, List.flatten_cons] at this ⊢
            rw [validD_step _ (by intro e; have := congrArg List.length e; rw [List.length_append, List.length_take] at this; simp only [List.length_nil] at this; omega), decode_take h hb, if_neg hb]
            have hlen : (l.take (decodeL l).2).length = (decodeL l).2 := by simp; omega
            rw [List.drop_append, List.drop_of_length_le (by omega), hlen, Nat.sub_self, List.drop_zero, List.nil_append]
            exact this
        | succ a => exact ih _ a b hr
  exact key _ _ _ _ hv
end Go.Gk.Utf
end

section
/-
  Ways: places, ends, keys.
-/
namespace Go.Gk.Val
open Go Go.Gk
attribute [local irreducible] gwp gws

/-- A step. -/
structure St where
  kind : Int
  text : List UInt8
  src : Int
  dst : Int
  hf : Bool
  ht : Bool
def RSt (_ : PHeap) (cs : List Value) (s : St) : Prop := cs = [.int .i64 s.kind, strV s.text, .int .i64 s.src, .int .i64 s.dst, .bool s.hf, .bool s.ht] ∧ I64 s.kind ∧ s.text.length ≤ 140737488355328 ∧ I64 s.src ∧ I64 s.dst
theorem cell1_st : Cell1 RSt := fun _ _ _ h => by obtain ⟨rfl, _⟩ := h; rfl
theorem mono_st : Mono RSt := fun _ h => h

/-! ### places and ends -/
def placeF (n k : Int) : Int := if n < 0 then n + k else n
def endF (n k : Int) : Int := max 0 (min k (placeF n k))
def endsF (s : St) (k : Int) : Int × Int :=
  let a := if s.hf then endF s.src k else 0
  let b := if s.ht then endF s.dst k else k
  (a, max a b)
theorem ends_le (s : St) {k : Int} (hk : 0 ≤ k) : 0 ≤ (endsF s k).1 ∧ (endsF s k).1 ≤ (endsF s k).2 ∧ (endsF s k).2 ≤ k := by
  simp only [endsF, endF]
  split <;> split <;> omega
def PlaceOk (P : Program) (f : FuncId) : Prop := ∀ {d : PHeap} {n k : Int}, I64 n → 0 ≤ k → k ≤ 140737488355328 → GPure P f [.int .i64 n, .int .i64 k] d (.int .i64 (placeF n k))
def g_steps_place : GFun :=
 ⟨11, [(.tmp 4)],
 (.seq
 (.reg false (.op false ⟨(some 4), none, (.mv (.const (.int .i64 0)))⟩ .done))
 (.seq (.seq
 (.reg false (.op false ⟨(some 5), none, (.mv (.tmp 0))⟩
  (.op false ⟨(some 6), none, (.bin .lss (.tmp 5) (.const (.int .i64 0)))⟩ .done))) (.cond (.tmp 6)
 (.seq
 (.reg false (.op false ⟨(some 7), none, (.mv (.tmp 0))⟩
  (.op false ⟨(some 8), none, (.mv (.tmp 1))⟩
  (.op false ⟨(some 9), none, (.bin .add (.tmp 7) (.tmp 8))⟩
  (.op false ⟨(some 4), none, (.mv (.tmp 9))⟩ .done))))) .ret) .skip))
 (.seq
 (.reg false (.op false ⟨(some 10), none, (.mv (.tmp 0))⟩
  (.op false ⟨(some 4), none, (.mv (.tmp 10))⟩ .done))) .ret)))⟩

theorem place_ok {P : Program} {f : FuncId} (hd : dec P f = some g_steps_place) : PlaceOk P f := by
  intro d n k ⟨hn1, hn2⟩ hk1 hk2
  refine GPure.of' hd (Nat.le_of_ble_eq_true rfl) ?_
  show gwp P _ _ _ _ _
  by_cases h : n < 0
  · (apply w_sq; apply w_reg; apply w_mvi; rfl; apply w_done0; apply w_sq; apply w_sq; apply w_reg; apply w_mvi; rfl; apply w_lss; rfl; rfl; apply w_done0; refine w_ifdT rfl (by omega) ?_; apply w_sq; apply w_reg; apply w_mvi; rfl; apply w_mvi; rfl; apply w_add; rfl; rfl; omega; omega; apply w_mvi; rfl; apply w_done0; apply w_ret)
    apply finQi; rfl
    rw [placeF, if_pos h]
  · (apply w_sq; apply w_reg; apply w_mvi; rfl; apply w_done0; apply w_sq; apply w_sq; apply w_reg; apply w_mvi; rfl; apply w_lss; rfl; rfl; apply w_done0; refine w_ifdF rfl (by omega) ?_; apply w_skip; apply w_sq; apply w_reg; apply w_mvi; rfl; apply w_mvi; rfl; apply w_done0; apply w_ret)
    apply finQi; rfl
    rw [placeF, if_neg h]
def BoundOk (P : Program) (f : FuncId) : Prop := ∀ {d : PHeap} {n k : Int}, I64 n → 0 ≤ k → k ≤ 140737488355328 → GPure P f [.int .i64 n, .int .i64 k] d (.int .i64 (endF n k))
def g_thimbleref08_bound : GFun :=
 ⟨17, [(.tmp 4)],
 (.seq
 (.reg false (.op false ⟨(some 4), none, (.mv (.const (.int .i64 0)))⟩ .done))
 (.seq (.seq
 (.reg false (.op false ⟨(some 5), none, (.mv (.tmp 0))⟩
  (.op false ⟨(some 6), none, (.bin .lss (.tmp 5) (.const (.int .i64 0)))⟩ .done))) (.cond (.tmp 6)
 (.reg false (.op false ⟨(some 7), none, (.mv (.tmp 0))⟩
  (.op false ⟨(some 8), none, (.mv (.tmp 1))⟩
  (.op false ⟨(some 9), none, (.bin .add (.tmp 7) (.tmp 8))⟩
  (.op false ⟨(some 0), none, (.mv (.tmp 9))⟩ .done))))) .skip))
 (.seq (.seq
 (.reg false (.op false ⟨(some 10), none, (.mv (.tmp 0))⟩
  (.op false ⟨(some 11), none, (.bin .lss (.tmp 10) (.const (.int .i64 0)))⟩ .done))) (.cond (.tmp 11)
 (.seq
 (.reg false (.op false ⟨(some 4), none, (.mv (.const (.int .i64 0)))⟩ .done)) .ret) .skip))
 (.seq (.seq
 (.reg false (.op false ⟨(some 12), none, (.mv (.tmp 0))⟩
  (.op false ⟨(some 13), none, (.mv (.tmp 1))⟩
  (.op false ⟨(some 14), none, (.bin .gtr (.tmp 12) (.tmp 13))⟩ .done)))) (.cond (.tmp 14)
 (.seq
 (.reg false (.op false ⟨(some 15), none, (.mv (.tmp 1))⟩
  (.op false ⟨(some 4), none, (.mv (.tmp 15))⟩ .done))) .ret) .skip))
 (.seq
 (.reg false (.op false ⟨(some 16), none, (.mv (.tmp 0))⟩
  (.op false ⟨(some 4), none, (.mv (.tmp 16))⟩ .done))) .ret)))))⟩

theorem bound_ok {P : Program} {f : FuncId} (hd : dec P f = some g_thimbleref08_bound) : BoundOk P f := by
  intro d n k ⟨hn1, hn2⟩ hk1 hk2
  refine GPure.of' hd (Nat.le_of_ble_eq_true rfl) ?_
  show gwp P _ _ _ _ _
  by_cases h : n < 0
  · by_cases h2 : n + k < 0
    · (apply w_sq; apply w_reg; apply w_mvi; rfl; apply w_done0; apply w_sq; apply w_sq; apply w_reg; apply w_mvi; rfl; apply w_lss; rfl; rfl; apply w_done0; refine w_ifdT rfl (by omega) ?_; apply w_reg; apply w_mvi; rfl; apply w_mvi; rfl; apply w_add; rfl; rfl; omega; omega; apply w_mvi; rfl; apply w_done0; apply w_sq; apply w_sq; apply w_reg; apply w_mvi; rfl; apply w_lss; rfl; rfl; apply w_done0; refine w_ifdT rfl (by omega) ?_; apply w_sq; apply w_reg; apply w_mvi; rfl; apply w_done0; apply w_ret)
      apply finQi; rfl
      simp only [endF, placeF]; rw [if_pos h]; omega
    · by_cases h3 : k < n + k
      · omega
      · (apply w_sq; apply w_reg; apply w_mvi; rfl; apply w_done0; apply w_sq; apply w_sq; apply w_reg; apply w_mvi; rfl; apply w_lss; rfl; rfl; apply w_done0; refine w_ifdT rfl (by omega) ?_; apply w_reg; apply w_mvi; rfl; apply w_mvi; rfl; apply w_add; rfl; rfl; omega; omega; apply w_mvi; rfl; apply w_done0; apply w_sq; apply w_sq; apply w_reg; apply w_mvi; rfl; apply w_lss; rfl; rfl; apply w_done0; refine w_ifdF rfl (by omega) ?_; apply w_skip; apply w_sq; apply w_sq; apply w_reg; apply w_mvi; rfl; apply w_mvi; rfl; apply w_gtr; rfl; rfl; apply w_done0; refine w_ifdF rfl (by omega) ?_; apply w_skip; apply w_sq; apply w_reg; apply w_mvi; rfl; apply w_mvi; rfl; apply w_done0; apply w_ret)
        apply finQi; rfl
        simp only [endF, placeF]; rw [if_pos h]; omega
  · by_cases h3 : k < n
    · (apply w_sq; apply w_reg; apply w_mvi; rfl; apply w_done0; apply w_sq; apply w_sq; apply w_reg; apply w_mvi; rfl; apply w_lss; rfl; rfl; apply w_done0; refine w_ifdF rfl (by omega) ?_; apply w_skip; apply w_sq; apply w_sq; apply w_reg; apply w_mvi; rfl; apply w_lss; rfl; rfl; apply w_done0; refine w_ifdF rfl (by omega) ?_; apply w_skip; apply w_sq; apply w_sq; apply w_reg; apply w_mvi; rfl; apply w_mvi; rfl; apply w_gtr; rfl; rfl; apply w_done0; refine w_ifdT rfl (by omega) ?_; apply w_sq; apply w_reg; apply w_mvi; rfl; apply w_mvi; rfl; apply w_done0; apply w_ret)
      apply finQi; rfl
      simp only [endF, placeF]; rw [if_neg h]; omega
    · (apply w_sq; apply w_reg; apply w_mvi; rfl; apply w_done0; apply w_sq; apply w_sq; apply w_reg; apply w_mvi; rfl; apply w_lss; rfl; rfl; apply w_done0; refine w_ifdF rfl (by omega) ?_; apply w_skip; apply w_sq; apply w_sq; apply w_reg; apply w_mvi; rfl; apply w_lss; rfl; rfl; apply w_done0; refine w_ifdF rfl (by omega) ?_; apply w_skip; apply w_sq; apply w_sq; apply w_reg; apply w_mvi; rfl; apply w_mvi; rfl; apply w_gtr; rfl; rfl; apply w_done0; refine w_ifdF rfl (by omega) ?_; apply w_skip; apply w_sq; apply w_reg; apply w_mvi; rfl; apply w_mvi; rfl; apply w_done0; apply w_ret)
      apply finQi; rfl
      simp only [endF, placeF]; rw [if_neg h]; omega
def EndsOk (P : Program) (f : FuncId) : Prop := ∀ {d : PHeap} {cs : List Value} {s : St} {k : Int}, RSt d cs s → 0 ≤ k → k ≤ 140737488355328 → GPure P f [.agg cs.toArray, .int .i64 k] d (.tuple #[.int .i64 (endsF s k).1, .int .i64 (endsF s k).2])
def g_steps_ends (f_steps_place : Nat) : GFun :=
 ⟨31, [(.tmp 4), (.tmp 5)],
 (.seq
 (.reg false (.op false ⟨(some 2), none, (.box (.tmp 0))⟩
  (.op false ⟨(some 4), none, (.mv (.const (.int .i64 0)))⟩
  (.op false ⟨(some 5), none, (.mv (.const (.int .i64 0)))⟩ .done))))
 (.seq
 (.reg false (.op false ⟨(some 8), none, (.mv (.tmp 1))⟩
  (.op false ⟨(some 6), none, (.mv (.const (.int .i64 0)))⟩
  (.op false ⟨(some 7), none, (.mv (.tmp 8))⟩ .done))))
 (.seq (.seq
 (.reg false (.op false ⟨(some 9), none, (.fld 4 (.tmp 2))⟩
  (.op false ⟨(some 10), none, (.ld none (.tmp 9))⟩ .done))) (.cond (.tmp 10)
 (.reg false (.op false ⟨(some 11), none, (.mv (.tmp 1))⟩
  (.op false ⟨(some 12), none, (.fld 2 (.tmp 2))⟩
  (.op false ⟨(some 13), none, (.ld none (.tmp 12))⟩
  (.op false ⟨(some 14), none, (.mv (.tmp 1))⟩
  (.op false ⟨(some 15), none, (.call f_steps_place [(.tmp 13), (.tmp 14)])⟩
  (.op false ⟨(some 16), none, (.mn2 (.tmp 11) (.tmp 15))⟩
  (.op false ⟨(some 17), none, (.mx2 (.const (.int .i64 0)) (.tmp 16))⟩
  (.op false ⟨(some 6), none, (.mv (.tmp 17))⟩ .done))))))))) .skip))
 (.seq (.seq
 (.reg false (.op false ⟨(some 18), none, (.fld 5 (.tmp 2))⟩
  (.op false ⟨(some 19), none, (.ld none (.tmp 18))⟩ .done))) (.cond (.tmp 19)
 (.reg false (.op false ⟨(some 20), none, (.mv (.tmp 1))⟩
  (.op false ⟨(some 21), none, (.fld 3 (.tmp 2))⟩
  (.op false ⟨(some 22), none, (.ld none (.tmp 21))⟩
  (.op false ⟨(some 23), none, (.mv (.tmp 1))⟩
  (.op false ⟨(some 24), none, (.call f_steps_place [(.tmp 22), (.tmp 23)])⟩
  (.op false ⟨(some 25), none, (.mn2 (.tmp 20) (.tmp 24))⟩
  (.op false ⟨(some 26), none, (.mx2 (.const (.int .i64 0)) (.tmp 25))⟩
  (.op false ⟨(some 7), none, (.mv (.tmp 26))⟩ .done))))))))) .skip))
 (.seq
 (.reg false (.op false ⟨(some 27), none, (.mv (.tmp 6))⟩
  (.op false ⟨(some 28), none, (.mv (.tmp 6))⟩
  (.op false ⟨(some 29), none, (.mv (.tmp 7))⟩
  (.op false ⟨(some 30), none, (.mx2 (.tmp 28) (.tmp 29))⟩
  (.op false ⟨(some 4), none, (.mv (.tmp 27))⟩
  (.op false ⟨(some 5), none, (.mv (.tmp 30))⟩ .done))))))) .ret)))))⟩

theorem ends_ok {P : Program} {f f1 : FuncId} (hd : dec P f = some (g_steps_ends f1)) (h1 : PlaceOk P f1) : EndsOk P f := by
  intro d cs s k ⟨hcs, ik, it, is, id⟩ hk1 hk2
  subst hcs
  refine GPure.of' hd (Nat.le_of_ble_eq_true rfl) ?_
  show gwp P _ _ _ _ _
  apply w_sq; apply w_reg
  refine w_boxa (l := [.int .i64 s.kind, strV s.text, .int .i64 s.src, .int .i64 s.dst, .bool s.hf, .bool s.ht]) rfl (fun b2 T2 => ?_)
  cases hf : s.hf with
  | true =>
    cases ht : s.ht with
    | true =>
      (apply w_mvi; rfl; apply w_mvi; rfl; apply w_done0; apply w_sq; apply w_reg; apply w_mvi; rfl; apply w_mvi; rfl; apply w_mvi; rfl; apply w_done0; apply w_sq; apply w_sq; apply w_reg; apply w_fld; rfl; apply w_ld; rfl; exact hc_i 0 rfl rfl; apply w_done0; apply w_ifT; rfl; apply w_reg; apply w_mvi; rfl; apply w_fld; rfl; apply w_ld; rfl; exact hc_i 0 rfl rfl; apply w_mvi; rfl)
      refine w_pure rfl (h1 is hk1 hk2) ?_
      (apply w_mn2; rfl; rfl; apply w_mx2; rfl; rfl; apply w_mvi; rfl; apply w_done0; apply w_sq; apply w_sq; apply w_reg; apply w_fld; rfl; apply w_ld; rfl; exact hc_i 0 rfl rfl; apply w_done0; apply w_ifT; rfl; apply w_reg; apply w_mvi; rfl; apply w_fld; rfl; apply w_ld; rfl; exact hc_i 0 rfl rfl; apply w_mvi; rfl)
      refine w_pure rfl (h1 id hk1 hk2) ?_
      (apply w_mn2; rfl; rfl; apply w_mx2; rfl; rfl; apply w_mvi; rfl; apply w_done0; apply w_sq; apply w_reg; apply w_mvi; rfl; apply w_mvi; rfl; apply w_mvi; rfl; apply w_mx2; rfl; rfl; apply w_mvi; rfl; apply w_mvi; rfl; apply w_done0; apply w_ret)
      refine finQ2 (by simp [endsF, endF, hf]; rfl) (by simp [endsF, endF, hf, ht]; rfl)
    | false =>
      (apply w_mvi; rfl; apply w_mvi; rfl; apply w_done0; apply w_sq; apply w_reg; apply w_mvi; rfl; apply w_mvi; rfl; apply w_mvi; rfl; apply w_done0; apply w_sq; apply w_sq; apply w_reg; apply w_fld; rfl; apply w_ld; rfl; exact hc_i 0 rfl rfl; apply w_done0; apply w_ifT; rfl; apply w_reg; apply w_mvi; rfl; apply w_fld; rfl; apply w_ld; rfl; exact hc_i 0 rfl rfl; apply w_mvi; rfl)
      refine w_pure rfl (h1 is hk1 hk2) ?_
      (apply w_mn2; rfl; rfl; apply w_mx2; rfl; rfl; apply w_mvi; rfl; apply w_done0; apply w_sq; apply w_sq; apply w_reg; apply w_fld; rfl; apply w_ld; rfl; exact hc_i 0 rfl rfl; apply w_done0; apply w_ifF; rfl; apply w_skip; apply w_sq; apply w_reg; apply w_mvi; rfl; apply w_mvi; rfl; apply w_mvi; rfl; apply w_mx2; rfl; rfl; apply w_mvi; rfl; apply w_mvi; rfl; apply w_done0; apply w_ret)
      refine finQ2 (by simp [endsF, endF, hf]; rfl) (by simp [endsF, endF, hf, ht]; rfl)
  | false =>
    cases ht : s.ht with
    | true =>
      (apply w_mvi; rfl; apply w_mvi; rfl; apply w_done0; apply w_sq; apply w_reg; apply w_mvi; rfl; apply w_mvi; rfl; apply w_mvi; rfl; apply w_done0; apply w_sq; apply w_sq; apply w_reg; apply w_fld; rfl; apply w_ld; rfl; exact hc_i 0 rfl rfl; apply w_done0; apply w_ifF; rfl; apply w_skip; apply w_sq; apply w_sq; apply w_reg; apply w_fld; rfl; apply w_ld; rfl; exact hc_i 0 rfl rfl; apply w_done0; apply w_ifT; rfl; apply w_reg; apply w_mvi; rfl; apply w_fld; rfl; apply w_ld; rfl; exact hc_i 0 rfl rfl; apply w_mvi; rfl)
      refine w_pure rfl (h1 id hk1 hk2) ?_
      (apply w_mn2; rfl; rfl; apply w_mx2; rfl; rfl; apply w_mvi; rfl; apply w_done0; apply w_sq; apply w_reg; apply w_mvi; rfl; apply w_mvi; rfl; apply w_mvi; rfl; apply w_mx2; rfl; rfl; apply w_mvi; rfl; apply w_mvi; rfl; apply w_done0; apply w_ret)
      refine finQ2 (by simp [endsF, endF, hf]; rfl) (by simp [endsF, endF, hf, ht]; rfl)
    | false =>
      (apply w_mvi; rfl; apply w_mvi; rfl; apply w_done0; apply w_sq; apply w_reg; apply w_mvi; rfl; apply w_mvi; rfl; apply w_mvi; rfl; apply w_done0; apply w_sq; apply w_sq; apply w_reg; apply w_fld; rfl; apply w_ld; rfl; exact hc_i 0 rfl rfl; apply w_done0; apply w_ifF; rfl; apply w_skip; apply w_sq; apply w_sq; apply w_reg; apply w_fld; rfl; apply w_ld; rfl; exact hc_i 0 rfl rfl; apply w_done0; apply w_ifF; rfl; apply w_skip; apply w_sq; apply w_reg; apply w_mvi; rfl; apply w_mvi; rfl; apply w_mvi; rfl; apply w_mx2; rfl; rfl; apply w_mvi; rfl; apply w_mvi; rfl; apply w_done0; apply w_ret)
      refine finQ2 (by simp [endsF, endF, hf]; rfl) (by simp [endsF, hf, ht]; rfl)
def g_thimbleref08_ends (f_thimbleref08_bound : Nat) : GFun :=
 ⟨27, [(.tmp 4), (.tmp 5)],
 (.seq
 (.reg false (.op false ⟨(some 2), none, (.box (.tmp 0))⟩
  (.op false ⟨(some 4), none, (.mv (.const (.int .i64 0)))⟩
  (.op false ⟨(some 5), none, (.mv (.const (.int .i64 0)))⟩ .done))))
 (.seq
 (.reg false (.op false ⟨(some 6), none, (.mv (.const (.int .i64 0)))⟩ .done))
 (.seq
 (.reg false (.op false ⟨(some 8), none, (.mv (.tmp 1))⟩
  (.op false ⟨(some 7), none, (.mv (.tmp 8))⟩ .done)))
 (.seq (.seq
 (.reg false (.op false ⟨(some 9), none, (.fld 4 (.tmp 2))⟩
  (.op false ⟨(some 10), none, (.ld none (.tmp 9))⟩ .done))) (.cond (.tmp 10)
 (.reg false (.op false ⟨(some 11), none, (.fld 2 (.tmp 2))⟩
  (.op false ⟨(some 12), none, (.ld none (.tmp 11))⟩
  (.op false ⟨(some 13), none, (.mv (.tmp 1))⟩
  (.op false ⟨(some 14), none, (.call f_thimbleref08_bound [(.tmp 12), (.tmp 13)])⟩
  (.op false ⟨(some 6), none, (.mv (.tmp 14))⟩ .done)))))) .skip))
 (.seq (.seq
 (.reg false (.op false ⟨(some 15), none, (.fld 5 (.tmp 2))⟩
  (.op false ⟨(some 16), none, (.ld none (.tmp 15))⟩ .done))) (.cond (.tmp 16)
 (.reg false (.op false ⟨(some 17), none, (.fld 3 (.tmp 2))⟩
  (.op false ⟨(some 18), none, (.ld none (.tmp 17))⟩
  (.op false ⟨(some 19), none, (.mv (.tmp 1))⟩
  (.op false ⟨(some 20), none, (.call f_thimbleref08_bound [(.tmp 18), (.tmp 19)])⟩
  (.op false ⟨(some 7), none, (.mv (.tmp 20))⟩ .done)))))) .skip))
 (.seq (.seq
 (.reg false (.op false ⟨(some 21), none, (.mv (.tmp 7))⟩
  (.op false ⟨(some 22), none, (.mv (.tmp 6))⟩
  (.op false ⟨(some 23), none, (.bin .lss (.tmp 21) (.tmp 22))⟩ .done)))) (.cond (.tmp 23)
 (.reg false (.op false ⟨(some 24), none, (.mv (.tmp 6))⟩
  (.op false ⟨(some 7), none, (.mv (.tmp 24))⟩ .done))) .skip))
 (.seq
 (.reg false (.op false ⟨(some 25), none, (.mv (.tmp 6))⟩
  (.op false ⟨(some 26), none, (.mv (.tmp 7))⟩
  (.op false ⟨(some 4), none, (.mv (.tmp 25))⟩
  (.op false ⟨(some 5), none, (.mv (.tmp 26))⟩ .done))))) .ret)))))))⟩

theorem rends_ok {P : Program} {f f1 : FuncId} (hd : dec P f = some (g_thimbleref08_ends f1)) (h1 : BoundOk P f1) : EndsOk P f := by
  intro d cs s k ⟨hcs, ik, it, is, id⟩ hk1 hk2
  subst hcs
  refine GPure.of' hd (Nat.le_of_ble_eq_true rfl) ?_
  show gwp P _ _ _ _ _
  apply w_sq; apply w_reg
  refine w_boxa (l := [.int .i64 s.kind, strV s.text, .int .i64 s.src, .int .i64 s.dst, .bool s.hf, .bool s.ht]) rfl (fun b2 T2 => ?_)
  have e1 : ∀ a b : Int, b < a → max a b = a := by omega
  have e2 : ∀ a b : Int, ¬ b < a → max a b = b := by omega
  cases hf : s.hf with
  | true =>
    cases ht : s.ht with
    | true =>
      (apply w_mvi; rfl; apply w_mvi; rfl; apply w_done0; apply w_sq; apply w_reg; apply w_mvi; rfl; apply w_done0; apply w_sq; apply w_reg; apply w_mvi; rfl; apply w_mvi; rfl; apply w_done0; apply w_sq; apply w_sq; apply w_reg; apply w_fld; rfl; apply w_ld; rfl; exact hc_i 0 rfl rfl; apply w_done0; apply w_ifT; rfl; apply w_reg; apply w_fld; rfl; apply w_ld; rfl; exact hc_i 0 rfl rfl; apply w_mvi; rfl)
      refine w_pure rfl (h1 is hk1 hk2) ?_
      (apply w_mvi; rfl; apply w_done0; apply w_sq; apply w_sq; apply w_reg; apply w_fld; rfl; apply w_ld; rfl; exact hc_i 0 rfl rfl; apply w_done0; apply w_ifT; rfl; apply w_reg; apply w_fld; rfl; apply w_ld; rfl; exact hc_i 0 rfl rfl; apply w_mvi; rfl)
      refine w_pure rfl (h1 id hk1 hk2) ?_
      by_cases hc : endF s.dst k < endF s.src k
      · (apply w_mvi; rfl; apply w_done0; apply w_sq; apply w_sq; apply w_reg; apply w_mvi; rfl; apply w_mvi; rfl; apply w_lss; rfl; rfl; apply w_done0; refine w_ifdT rfl (by omega) ?_; apply w_reg; apply w_mvi; rfl; apply w_mvi; rfl; apply w_done0; apply w_sq; apply w_reg; apply w_mvi; rfl; apply w_mvi; rfl; apply w_mvi; rfl; apply w_mvi; rfl; apply w_done0; apply w_ret)
        refine finQ2 (by simp [endsF, hf]; rfl) (by simp [endsF, hf, ht, e1 _ _ hc]; rfl)
      · (apply w_mvi; rfl; apply w_done0; apply w_sq; apply w_sq; apply w_reg; apply w_mvi; rfl; apply w_mvi; rfl; apply w_lss; rfl; rfl; apply w_done0; refine w_ifdF rfl (by omega) ?_; apply w_skip; apply w_sq; apply w_reg; apply w_mvi; rfl; apply w_mvi; rfl; apply w_mvi; rfl; apply w_mvi; rfl; apply w_done0; apply w_ret)
        refine finQ2 (by simp [endsF, hf]; rfl) (by simp [endsF, hf, ht, e2 _ _ hc]; rfl)
    | false =>
      (apply w_mvi; rfl; apply w_mvi; rfl; apply w_done0; apply w_sq; apply w_reg; apply w_mvi; rfl; apply w_done0; apply w_sq; apply w_reg; apply w_mvi; rfl; apply w_mvi; rfl; apply w_done0; apply w_sq; apply w_sq; apply w_reg; apply w_fld; rfl; apply w_ld; rfl; exact hc_i 0 rfl rfl; apply w_done0; apply w_ifT; rfl; apply w_reg; apply w_fld; rfl; apply w_ld; rfl; exact hc_i 0 rfl rfl; apply w_mvi; rfl)
      refine w_pure rfl (h1 is hk1 hk2) ?_
      by_cases hc : k < endF s.src k
      · (apply w_mvi; rfl; apply w_done0; apply w_sq; apply w_sq; apply w_reg; apply w_fld; rfl; apply w_ld; rfl; exact hc_i 0 rfl rfl; apply w_done0; apply w_ifF; rfl; apply w_skip; apply w_sq; apply w_sq; apply w_reg; apply w_mvi; rfl; apply w_mvi; rfl; apply w_lss; rfl; rfl; apply w_done0; refine w_ifdT rfl (by omega) ?_; apply w_reg; apply w_mvi; rfl; apply w_mvi; rfl; apply w_done0; apply w_sq; apply w_reg; apply w_mvi; rfl; apply w_mvi; rfl; apply w_mvi; rfl; apply w_mvi; rfl; apply w_done0; apply w_ret)
        refine finQ2 (by simp [endsF, hf]; rfl) (by simp [endsF, hf, ht, e1 _ _ hc]; rfl)
      · (apply w_mvi; rfl; apply w_done0; apply w_sq; apply w_sq; apply w_reg; apply w_fld; rfl; apply w_ld; rfl; exact hc_i 0 rfl rfl; apply w_done0; apply w_ifF; rfl; apply w_skip; apply w_sq; apply w_sq; apply w_reg; apply w_mvi; rfl; apply w_mvi; rfl; apply w_lss; rfl; rfl; apply w_done0; refine w_ifdF rfl (by omega) ?_; apply w_skip; apply w_sq; apply w_reg; apply w_mvi; rfl; apply w_mvi; rfl; apply w_mvi; rfl; apply w_mvi; rfl; apply w_done0; apply w_ret)
        refine finQ2 (by simp [endsF, hf]; rfl) (by simp [endsF, hf, ht, e2 _ _ hc]; rfl)
  | false =>
    cases ht : s.ht with
    | true =>
      (apply w_mvi; rfl; apply w_mvi; rfl; apply w_done0; apply w_sq; apply w_reg; apply w_mvi; rfl; apply w_done0; apply w_sq; apply w_reg; apply w_mvi; rfl; apply w_mvi; rfl; apply w_done0; apply w_sq; apply w_sq; apply w_reg; apply w_fld; rfl; apply w_ld; rfl; exact hc_i 0 rfl rfl; apply w_done0; apply w_ifF; rfl; apply w_skip; apply w_sq; apply w_sq; apply w_reg; apply w_fld; rfl; apply w_ld; rfl; exact hc_i 0 rfl rfl; apply w_done0; apply w_ifT; rfl; apply w_reg; apply w_fld; rfl; apply w_ld; rfl; exact hc_i 0 rfl rfl; apply w_mvi; rfl)
      refine w_pure rfl (h1 id hk1 hk2) ?_
      by_cases hc : endF s.dst k < 0
      · (apply w_mvi; rfl; apply w_done0; apply w_sq; apply w_sq; apply w_reg; apply w_mvi; rfl; apply w_mvi; rfl; apply w_lss; rfl; rfl; apply w_done0; refine w_ifdT rfl (by omega) ?_; apply w_reg; apply w_mvi; rfl; apply w_mvi; rfl; apply w_done0; apply w_sq; apply w_reg; apply w_mvi; rfl; apply w_mvi; rfl; apply w_mvi; rfl; apply w_mvi; rfl; apply w_done0; apply w_ret)
        refine finQ2 (by simp [endsF, hf]; rfl) (by simp [endsF, hf, ht, e1 _ _ hc]; rfl)
      · (apply w_mvi; rfl; apply w_done0; apply w_sq; apply w_sq; apply w_reg; apply w_mvi; rfl; apply w_mvi; rfl; apply w_lss; rfl; rfl; apply w_done0; refine w_ifdF rfl (by omega) ?_; apply w_skip; apply w_sq; apply w_reg; apply w_mvi; rfl; apply w_mvi; rfl; apply w_mvi; rfl; apply w_mvi; rfl; apply w_done0; apply w_ret)
        refine finQ2 (by simp [endsF, hf]; rfl) (by simp [endsF, hf, ht, e2 _ _ hc]; rfl)
    | false =>
      by_cases hc : k < 0
      · omega
      · (apply w_mvi; rfl; apply w_mvi; rfl; apply w_done0; apply w_sq; apply w_reg; apply w_mvi; rfl; apply w_done0; apply w_sq; apply w_reg; apply w_mvi; rfl; apply w_mvi; rfl; apply w_done0; apply w_sq; apply w_sq; apply w_reg; apply w_fld; rfl; apply w_ld; rfl; exact hc_i 0 rfl rfl; apply w_done0; apply w_ifF; rfl; apply w_skip; apply w_sq; apply w_sq; apply w_reg; apply w_fld; rfl; apply w_ld; rfl; exact hc_i 0 rfl rfl; apply w_done0; apply w_ifF; rfl; apply w_skip; apply w_sq; apply w_sq; apply w_reg; apply w_mvi; rfl; apply w_mvi; rfl; apply w_lss; rfl; rfl; apply w_done0; refine w_ifdF rfl (by omega) ?_; apply w_skip; apply w_sq; apply w_reg; apply w_mvi; rfl; apply w_mvi; rfl; apply w_mvi; rfl; apply w_mvi; rfl; apply w_done0; apply w_ret)
        refine finQ2 (by simp [endsF, hf]; rfl) (by simp [endsF, hf, ht, e2 _ _ hc]; rfl)

/-! ### keys -/
theorem takeWhile_spec {α : Type} {p : α → Bool} : ∀ (l : List α), (∀ i j (hj : j < l.length) (hi : i < j), p l[j] = true → p (l[i]'(by omega)) = true) → ∀ i (hi : i < l.length), p l[i] = true ↔ i < (l.takeWhile p).length
  | [], _, i, hi => absurd hi (Nat.not_lt_zero i)
  | a :: l, h, i, hi => by
    have ih := takeWhile_spec l (fun i j hj hi hp => h (i + 1) (j + 1) (by simp; omega) (by omega) hp)
    by_cases ha : p a = true
    · rw [List.takeWhile_cons_of_pos ha, List.length_cons]
      cases i with
      | zero => simp [ha]
      | succ i => rw [List.getElem_cons_succ, ih i (by simpa using hi)]; omega
    · rw [List.takeWhile_cons_of_neg ha]
      cases i with
      | zero => simp [ha]
      | succ i =>
        constructor
        · intro hp; exact absurd (h 0 (i + 1) hi (by omega) hp) ha
        · intro hlt; simp at hlt
/-- How many keys lie before one. -/
def lowK (ks : List (List UInt8)) (k : List UInt8) : Nat := (ks.takeWhile fun x => Op.bytesLess x k).length
theorem lowK_le (ks : List (List UInt8)) (k : List UInt8) : lowK ks k ≤ ks.length := by
  have := congrArg List.length (List.takeWhile_append_dropWhile (p := fun x => Op.bytesLess x k) (l := ks))
  rw [List.length_append] at this
  simp only [lowK]; omega
theorem rise_step {ks : List (List UInt8)} (h : rising ks = true) {i : Nat} (hi : i + 1 < ks.length) : Op.bytesLess ks[i] ks[i + 1] = true := by
  by_cases hb : rise1 ks (i + 1) = true
  · rw [rise1_s hi, Bool.and_eq_true] at hb; exact hb.2
  · rw [rising, riseN_false (by simpa using hb) hi] at h; cases h
theorem rise_lt {ks : List (List UInt8)} (h : rising ks = true) : ∀ {j i : Nat} (hj : j < ks.length) (hi : i < j), Op.bytesLess (ks[i]'(by omega)) ks[j] = true := by
  intro j
  induction j with
  | zero => intro i _ hi; omega
  | succ j ih =>
    intro i hj hi
    by_cases e : i = j
    · subst e; exact rise_step h hj
    · exact bl_trans (ih (by omega) (by omega)) (rise_step h hj)
theorem low_spec {ks : List (List UInt8)} (h : rising ks = true) (k : List UInt8) (i : Nat) (hi : i < ks.length) : Op.bytesLess ks[i] k = true ↔ i < lowK ks k :=
  takeWhile_spec (p := fun x => Op.bytesLess x k) ks (fun _ _ hj hi hp => bl_trans (rise_lt h hj hi) hp) i hi
theorem mem_low {ks : List (List UInt8)} (h : rising ks = true) {k : List UInt8} {i : Nat} (hi : i < ks.length) (e : ks[i] = k) : lowK ks k = i := by
  have h1 : ¬ i < lowK ks k := by rw [← low_spec h k i hi, e, bl_irrefl]; simp
  by_cases h2 : lowK ks k < i
  · have h3 := rise_lt h hi h2
    rw [e] at h3
    have := (low_spec h k (lowK ks k) (by omega)).1 h3
    omega
  · omega
theorem mem_iff {ks : List (List UInt8)} (h : rising ks = true) {k : List UInt8} : k ∈ ks ↔ ∃ hi : lowK ks k < ks.length, ks[lowK ks k] = k := by
  constructor
  · intro hm
    obtain ⟨i, hi, e⟩ := List.getElem_of_mem hm
    have := mem_low h hi e
    subst this
    exact ⟨hi, e⟩
  · rintro ⟨hi, e⟩
    rw [← e]; exact List.getElem_mem hi
def NanOk (P : Program) (f : FuncId) : Prop := ∀ {d : PHeap} {l : List UInt8}, GPure P f [strV l] d (.bool false)
def g_slices_isNaN_string : GFun :=
 ⟨6, [(.tmp 2)],
 (.seq
 (.reg false (.op false ⟨(some 2), none, (.mv (.const (.bool false)))⟩ .done))
 (.seq
 (.reg false (.op false ⟨(some 3), none, (.mv (.tmp 0))⟩
  (.op false ⟨(some 4), none, (.mv (.tmp 0))⟩
  (.op false ⟨(some 5), none, (.bin .neq (.tmp 3) (.tmp 4))⟩
  (.op false ⟨(some 2), none, (.mv (.tmp 5))⟩ .done))))) .ret))⟩

theorem nan_slices_isNaN_string {P : Program} {f : FuncId} (hd : dec P f = some g_slices_isNaN_string) : NanOk P f := by
  intro d l
  refine GPure.of' hd (Nat.le_of_ble_eq_true rfl) ?_
  show gwp P _ _ _ _ _
  (apply w_sq; apply w_reg; apply w_mvb; rfl; apply w_done0; apply w_sq; apply w_reg; apply w_mvt; rfl; apply w_mvt; rfl; apply w_sne; rfl; rfl; apply w_mvb; rfl; apply w_done0; apply w_ret)
  apply finQb; rfl
  simp
def g_cmp_isNaN_string : GFun :=
 ⟨6, [(.tmp 2)],
 (.seq
 (.reg false (.op false ⟨(some 2), none, (.mv (.const (.bool false)))⟩ .done))
 (.seq
 (.reg false (.op false ⟨(some 3), none, (.mv (.tmp 0))⟩
  (.op false ⟨(some 4), none, (.mv (.tmp 0))⟩
  (.op false ⟨(some 5), none, (.bin .neq (.tmp 3) (.tmp 4))⟩
  (.op false ⟨(some 2), none, (.mv (.tmp 5))⟩ .done))))) .ret))⟩

theorem nan_cmp_isNaN_string {P : Program} {f : FuncId} (hd : dec P f = some g_cmp_isNaN_string) : NanOk P f := by
  intro d l
  refine GPure.of' hd (Nat.le_of_ble_eq_true rfl) ?_
  show gwp P _ _ _ _ _
  (apply w_sq; apply w_reg; apply w_mvb; rfl; apply w_done0; apply w_sq; apply w_reg; apply w_mvt; rfl; apply w_mvt; rfl; apply w_sne; rfl; rfl; apply w_mvb; rfl; apply w_done0; apply w_ret)
  apply finQb; rfl
  simp
def LessOk (P : Program) (f : FuncId) : Prop := ∀ {d : PHeap} {l k : List UInt8}, GPure P f [strV l, strV k] d (.bool (Op.bytesLess l k))
def g_cmp_Less_string (f_cmp_isNaN_string : Nat) : GFun :=
 ⟨17, [(.tmp 4)],
 (.seq
 (.reg false (.op false ⟨(some 4), none, (.mv (.const (.bool false)))⟩ .done))
 (.seq
 (.reg false (.op false ⟨(some 5), none, (.mv (.tmp 0))⟩
  (.op false ⟨(some 6), none, (.call f_cmp_isNaN_string [(.tmp 5)])⟩
  (.op false ⟨(some 7), none, (.mv (.tmp 6))⟩
  (.op false ⟨(some 8), (some (7, true)), (.mv (.tmp 1))⟩
  (.op false ⟨(some 9), (some (7, true)), (.call f_cmp_isNaN_string [(.tmp 8)])⟩
  (.op false ⟨(some 10), (some (7, true)), (.un .not (.tmp 9))⟩
  (.op false ⟨(some 11), none, (.pick (.tmp 7) (.tmp 10) (.const (.bool false)))⟩
  (.op false ⟨(some 12), none, (.mv (.tmp 11))⟩
  (.op false ⟨(some 13), (some (12, false)), (.mv (.tmp 0))⟩
  (.op false ⟨(some 14), (some (12, false)), (.mv (.tmp 1))⟩
  (.op false ⟨(some 15), (some (12, false)), (.bin .lss (.tmp 13) (.tmp 14))⟩
  (.op false ⟨(some 16), none, (.pick (.tmp 12) (.const (.bool true)) (.tmp 15))⟩
  (.op false ⟨(some 4), none, (.mv (.tmp 16))⟩ .done)))))))))))))) .ret))⟩

theorem less_ok {P : Program} {f f1 : FuncId} (hd : dec P f = some (g_cmp_Less_string f1)) (h1 : NanOk P f1) : LessOk P f := by
  intro d l k
  refine GPure.of' hd (Nat.le_of_ble_eq_true rfl) ?_
  show gwp P _ _ _ _ _
  (apply w_sq; apply w_reg; apply w_mvb; rfl; apply w_done0; apply w_sq; apply w_reg; apply w_mvt; rfl)
  refine w_pure rfl h1 ?_
  (apply w_mvb; rfl; apply w_gF; rfl; apply w_gF; rfl; apply w_gF; rfl; apply w_pickFb; rfl; rfl; apply w_mvb; rfl; apply w_gT; rfl; apply w_mvt; rfl; apply w_gT; rfl; apply w_mvt; rfl; apply w_gT; rfl; apply w_slt; rfl; rfl; apply w_pickFb; rfl; rfl; apply w_mvb; rfl; apply w_done0; apply w_ret)
  apply finQb; rfl
  rfl
section
variable {P : Program} {pan : List PanicEntry → Post} {Qn : Env → Post} {Ls L : List PHeap} {ρ : Env} {d : PHeap} {s : GS} {t : Nat} {tk : Bool}
theorem w_half {x y : Operand} {k' : IntKind} {a : Int} (ex : ev ρ x = .int .u64 a) (ey : ev ρ y = .int k' 1) (_ : 0 ≤ a) (_ : a ≤ 9223372036854775807) (h : gws P pan Qn s Ls (upd ρ t (.int .u64 (a / 2))) d L) :
    gws P pan Qn (.op tk ⟨some t, none, .bin .shr x y⟩ s) Ls ρ d L := by
  refine w_bin ?_ h
  rw [ex, ey]
  simp [binV, IntKind.bits, Int.fdiv_eq_ediv_of_nonneg]
end
def SearchOk (P : Program) (f : FuncId) : Prop := ∀ {d : PHeap} {v : Value} {ks : List (List UInt8)} {k : List UInt8}, RStrs d v ks → rising ks = true → GPure P f [v, strV k] d (.tuple #[.int .i64 (lowK ks k), .bool (decide (k ∈ ks))])
def g_slices_BinarySearch_string_string (f_cmp_Less_string f_slices_isNaN_string : Nat) : GFun :=
 ⟨54, [(.tmp 4), (.tmp 5)],
 (.seq
 (.reg false (.op false ⟨(some 4), none, (.mv (.const (.int .i64 0)))⟩
  (.op false ⟨(some 5), none, (.mv (.const (.bool false)))⟩ .done)))
 (.seq
 (.reg false (.op false ⟨(some 10), none, (.mv (.tmp 0))⟩
  (.op false ⟨(some 11), none, (.len (.tmp 10))⟩
  (.op false ⟨(some 6), none, (.mv (.tmp 11))⟩ .done))))
 (.seq
 (.reg false (.op false ⟨(some 12), none, (.mv (.tmp 6))⟩
  (.op false ⟨(some 7), none, (.mv (.const (.int .i64 0)))⟩
  (.op false ⟨(some 8), none, (.mv (.tmp 12))⟩ .done))))
 (.seq (.block 0 (.loop
 (.seq (.seq
 (.reg false (.op false ⟨(some 13), none, (.mv (.tmp 7))⟩
  (.op false ⟨(some 14), none, (.mv (.tmp 8))⟩
  (.op false ⟨(some 15), none, (.bin .lss (.tmp 13) (.tmp 14))⟩ .done)))) (.cond (.tmp 15) .skip (.exit 0))) (.block 1
 (.seq
 (.reg false (.op false ⟨(some 16), none, (.mv (.tmp 7))⟩
  (.op false ⟨(some 17), none, (.mv (.tmp 8))⟩
  (.op false ⟨(some 18), none, (.bin .add (.tmp 16) (.tmp 17))⟩
  (.op false ⟨(some 19), none, (.cvi .u64 (.tmp 18))⟩
  (.op false ⟨(some 20), none, (.bin .shr (.tmp 19) (.const (.int .u64 1)))⟩
  (.op false ⟨(some 21), none, (.cvi .i64 (.tmp 20))⟩
  (.op false ⟨(some 9), none, (.mv (.tmp 21))⟩ .done))))))))
 (.seq
 (.reg false (.op false ⟨(some 22), none, (.mv (.tmp 0))⟩
  (.op false ⟨(some 23), none, (.mv (.tmp 9))⟩
  (.op false ⟨(some 24), none, (.idx 1 (.tmp 22) (.tmp 23))⟩
  (.op false ⟨(some 25), none, (.ld none (.tmp 24))⟩
  (.op false ⟨(some 26), none, (.mv (.tmp 1))⟩
  (.op false ⟨(some 27), none, (.call f_cmp_Less_string [(.tmp 25), (.tmp 26)])⟩ .done))))))) (.cond (.tmp 27)
 (.reg false (.op false ⟨(some 28), none, (.mv (.tmp 9))⟩
  (.op false ⟨(some 29), none, (.bin .add (.tmp 28) (.const (.int .i64 1)))⟩
  (.op false ⟨(some 7), none, (.mv (.tmp 29))⟩ .done))))
 (.reg false (.op false ⟨(some 30), none, (.mv (.tmp 9))⟩
  (.op false ⟨(some 8), none, (.mv (.tmp 30))⟩ .done))))))))))
 (.seq
 (.reg false (.op false ⟨(some 31), none, (.mv (.tmp 7))⟩
  (.op false ⟨(some 32), none, (.mv (.tmp 7))⟩
  (.op false ⟨(some 33), none, (.mv (.tmp 6))⟩
  (.op false ⟨(some 34), none, (.bin .lss (.tmp 32) (.tmp 33))⟩
  (.op false ⟨(some 35), none, (.mv (.tmp 34))⟩
  (.op false ⟨(some 36), (some (35, true)), (.mv (.tmp 0))⟩
  (.op false ⟨(some 37), (some (35, true)), (.mv (.tmp 7))⟩
  (.op false ⟨(some 38), (some (35, true)), (.idx 1 (.tmp 36) (.tmp 37))⟩
  (.op false ⟨(some 39), (some (35, true)), (.ld none (.tmp 38))⟩
  (.op false ⟨(some 40), (some (35, true)), (.mv (.tmp 1))⟩
  (.op false ⟨(some 41), (some (35, true)), (.bin .eql (.tmp 39) (.tmp 40))⟩
  (.op false ⟨(some 42), (some (35, true)), (.mv (.tmp 41))⟩
  (.op false ⟨(some 43), (some (42, false)), (.mv (.tmp 0))⟩
  (.op false ⟨(some 44), (some (42, false)), (.mv (.tmp 7))⟩
  (.op false ⟨(some 45), (some (42, false)), (.idx 1 (.tmp 43) (.tmp 44))⟩
  (.op false ⟨(some 46), (some (42, false)), (.ld none (.tmp 45))⟩
  (.op false ⟨(some 47), (some (42, false)), (.call f_slices_isNaN_string [(.tmp 46)])⟩
  (.op false ⟨(some 48), (some (42, false)), (.mv (.tmp 47))⟩
  (.op false ⟨(some 49), (some (48, true)), (.mv (.tmp 1))⟩
  (.op false ⟨(some 50), (some (48, true)), (.call f_slices_isNaN_string [(.tmp 49)])⟩
  (.op false ⟨(some 51), (some (42, false)), (.pick (.tmp 48) (.tmp 50) (.const (.bool false)))⟩
  (.op false ⟨(some 52), (some (35, true)), (.pick (.tmp 42) (.const (.bool true)) (.tmp 51))⟩
  (.op false ⟨(some 53), none, (.pick (.tmp 35) (.tmp 52) (.const (.bool false)))⟩
  (.op false ⟨(some 4), none, (.mv (.tmp 31))⟩
  (.op false ⟨(some 5), none, (.mv (.tmp 53))⟩ .done)))))))))))))))))))))))))) .ret)))))⟩

theorem search_ok {P : Program} {f f1 f2 : FuncId} (hd : dec P f = some (g_slices_BinarySearch_string_string f1 f2)) (h1 : LessOk P f1) (h2 : NanOk P f2) : SearchOk P f := by
  intro d v ks k hv hr
  have n1 := RSl.len_le hv
  have hll := lowK_le ks k
  obtain ⟨a, c, rfl⟩ := RSl.val hv
  have hv' : RSl 1 RStr d (.slice a ks.length c) ks := hv
  refine GPure.of' hd (Nat.le_of_ble_eq_true rfl) ?_
  show gwp P _ _ _ _ _
  (apply w_sq; apply w_reg; apply w_mvi; rfl; apply w_mvb; rfl; apply w_done0; apply w_sq; apply w_reg; apply w_mvs; rfl; apply w_len; rfl; apply w_mvi; rfl; apply w_done0; apply w_sq; apply w_reg; apply w_mvi; rfl; apply w_mvi; rfl; apply w_mvi; rfl; apply w_done0; apply w_sq; apply w_block)
  refine w_loopN (α := Nat × Nat) (fun x => [(0, .slice a ks.length c), (1, strV k), (6, .int .i64 ks.length), (7, .int .i64 x.1), (8, .int .i64 x.2)]) (fun _ => []) (fun x => x.1 ≤ lowK ks k ∧ lowK ks k ≤ x.2 ∧ x.2 ≤ ks.length) (fun x => x.2 - x.1) (0, ks.length)
    ⟨rfl, rfl, rfl, rfl, rfl, trivial⟩ rfl ⟨Nat.zero_le _, hll, Nat.le_refl _⟩ ?_
  rintro ⟨lo, hi⟩ ρ ⟨k1, k2, k3⟩
  simp only at k1 k2 k3
  by_cases hc : lo < hi
  · obtain ⟨m, hm⟩ : ∃ m, m = (lo + hi) / 2 := ⟨_, rfl⟩
    have hmv : ((lo : Int) + hi) % 18446744073709551616 / 2 = m := by omega
    (apply w_sq; apply w_sq; apply w_reg; apply w_mvi; rfl; apply w_mvi; rfl; apply w_lss; rfl; rfl; apply w_done0; refine w_ifdT rfl (by omega) ?_; apply w_skip; apply w_block; apply w_sq; apply w_reg; apply w_mvi; rfl; apply w_mvi; rfl; apply w_add; rfl; rfl; omega; omega; apply w_cviu; rfl)
    refine w_half rfl rfl (by omega) (by omega) ?_
    (apply w_cvi64; rfl; omega; omega; apply w_mvi; rfl; apply w_done0; apply w_sq; apply w_reg; apply w_mvs; rfl; apply w_mvi; rfl)
    refine w_idxR (sz := 1) (R := RStr) (m := m) (by rfl) hv' (by rfl) hmv (by omega) ?_; rintro _ _ _ _ _ ⟨rfl, _⟩
    (apply w_ld; rfl; exact hc_ds0 (by assumption) rfl; apply w_mvt; rfl)
    refine w_pure rfl h1 ?_
    have hm' : m < ks.length := by omega
    have hsp := low_spec hr k m hm'
    cases hb : Op.bytesLess ks[m] k with
    | true =>
      have := hsp.1 hb
      (apply w_done0; apply w_ifT; rfl; apply w_reg; apply w_mvi; rfl; apply w_add; rfl; rfl; omega; omega; apply w_mvi; rfl; apply w_done0)
      exact ⟨(m + 1, hi), by simp only; omega, ⟨rfl, rfl, rfl, int_eq (by simp only; omega), rfl, trivial⟩, rfl, rfl, by simp only; omega, k2, k3⟩
    | false =>
      have : ¬ m < lowK ks k := fun h => by rw [hsp.2 h] at hb; cases hb
      (apply w_done0; apply w_ifF; rfl; apply w_reg; apply w_mvi; rfl; apply w_mvi; rfl; apply w_done0)
      exact ⟨(lo, m), by simp only; omega, ⟨rfl, rfl, rfl, rfl, int_eq (by simp only; omega), trivial⟩, rfl, rfl, k1, by simp only; omega, by simp only; omega⟩
  obtain rfl : hi = lo := by omega
  have hlo : hi = lowK ks k := by omega
  by_cases h6 : hi < ks.length
  · by_cases h7 : ks[hi] = k
    · have hmem : k ∈ ks := by rw [← h7]; exact List.getElem_mem h6
      (apply w_sq; apply w_sq; apply w_reg; apply w_mvi; rfl; apply w_mvi; rfl; apply w_lss; rfl; rfl; apply w_done0; refine w_ifdF rfl (by omega) ?_; apply w_exit; apply w_sq; apply w_reg; apply w_mvi; rfl; apply w_mvi; rfl; apply w_mvi; rfl; apply w_lss; rfl; rfl; apply w_mvb; rfl; refine w_gdT rfl (by omega) ?_; apply w_gT; rfl; apply w_mvs; rfl; apply w_gT; rfl; apply w_mvi; rfl; apply w_gT; rfl; refine w_idxR (sz := 1) (R := RStr) (by rfl) (by assumption) (by rfl) rfl (by omega) ?_; rintro _ _ _ _ _ ⟨rfl, _⟩; apply w_gT; rfl; apply w_ld; rfl; exact hc_ds0 (by assumption) rfl; apply w_gT; rfl; apply w_mvt; rfl; apply w_gT; rfl; apply w_seq; rfl; rfl; apply w_gT; rfl; apply w_mvb; rfl; refine w_gdT rfl (by omega) ?_; apply w_gF; rfl; apply w_gF; rfl; apply w_gF; rfl; apply w_gF; rfl; apply w_gF; rfl; apply w_gF; rfl; apply w_gU; rfl; apply w_gU; rfl; apply w_gF; rfl; apply w_gT; rfl; apply w_pickTb; rfl; rfl; apply w_pickTb; rfl; rfl; apply w_mvi; rfl; apply w_mvb; rfl; apply w_done0; apply w_ret)
      refine finQ2 (by rw [← hlo]; rfl) (by rw [decide_eq_true hmem]; rfl)
    · have hmem : ¬ k ∈ ks := fun h => by
        obtain ⟨_, e⟩ := (mem_iff hr).1 h
        subst hlo; exact h7 e
      (apply w_sq; apply w_sq; apply w_reg; apply w_mvi; rfl; apply w_mvi; rfl; apply w_lss; rfl; rfl; apply w_done0; refine w_ifdF rfl (by omega) ?_; apply w_exit; apply w_sq; apply w_reg; apply w_mvi; rfl; apply w_mvi; rfl; apply w_mvi; rfl; apply w_lss; rfl; rfl; apply w_mvb; rfl; refine w_gdT rfl (by omega) ?_; apply w_gT; rfl; apply w_mvs; rfl; apply w_gT; rfl; apply w_mvi; rfl; apply w_gT; rfl; refine w_idxR (sz := 1) (R := RStr) (by rfl) (by assumption) (by rfl) rfl (by omega) ?_; rintro _ _ _ _ _ ⟨rfl, _⟩; apply w_gT; rfl; apply w_ld; rfl; exact hc_ds0 (by assumption) rfl; apply w_gT; rfl; apply w_mvt; rfl; apply w_gT; rfl; apply w_seq; rfl; rfl; apply w_gT; rfl; apply w_mvb; rfl; refine w_gdF rfl (by omega) ?_; apply w_gT; rfl; apply w_mvs; rfl; apply w_gT; rfl; apply w_mvi; rfl; apply w_gT; rfl; refine w_idxR (sz := 1) (R := RStr) (by rfl) (by assumption) (by rfl) rfl (by omega) ?_; rintro _ _ _ _ _ ⟨rfl, _⟩; apply w_gT; rfl; apply w_ld; rfl; exact hc_ds0 (by assumption) rfl; apply w_gT; rfl)
      refine w_pure rfl h2 ?_
      (apply w_gT; rfl; apply w_mvb; rfl; apply w_gF; rfl; apply w_gF; rfl; apply w_gT; rfl; apply w_pickFb; rfl; rfl; apply w_gT; rfl; apply w_pickFb; rfl; rfl; apply w_pickTb; rfl; rfl; apply w_mvi; rfl; apply w_mvb; rfl; apply w_done0; apply w_ret)
      refine finQ2 (by rw [← hlo]; rfl) (by rw [decide_eq_false hmem]; rfl)
  · have hmem : ¬ k ∈ ks := fun h => by
      obtain ⟨h', e⟩ := (mem_iff hr).1 h
      omega
    (apply w_sq; apply w_sq; apply w_reg; apply w_mvi; rfl; apply w_mvi; rfl; apply w_lss; rfl; rfl; apply w_done0; refine w_ifdF rfl (by omega) ?_; apply w_exit; apply w_sq; apply w_reg; apply w_mvi; rfl; apply w_mvi; rfl; apply w_mvi; rfl; apply w_lss; rfl; rfl; apply w_mvb; rfl; refine w_gdF rfl (by omega) ?_; apply w_gF; rfl; apply w_gF; rfl; apply w_gF; rfl; apply w_gF; rfl; apply w_gF; rfl; apply w_gF; rfl; apply w_gF; rfl; apply w_gU; rfl; apply w_gU; rfl; apply w_gU; rfl; apply w_gU; rfl; apply w_gU; rfl; apply w_gU; rfl; apply w_gU; rfl; apply w_gU; rfl; apply w_gU; rfl; apply w_gF; rfl; apply w_pickFb; rfl; rfl; apply w_mvi; rfl; apply w_mvb; rfl; apply w_done0; apply w_ret)
    refine finQ2 (by rw [← hlo]; rfl) (by rw [decide_eq_false hmem]; rfl)
def KeyOk (P : Program) (f : FuncId) : Prop := ∀ {d : PHeap} {cs : List Value} {v : V} {k : List UInt8}, RVal d cs v → rising v.keys = true → GPure P f [.agg cs.toArray, strV k] d (.int .i64 (if k ∈ v.keys then (lowK v.keys k : Int) else -1))
def g_thimbleref08_key : GFun :=
 ⟨21, [(.tmp 4)],
 (.seq
 (.reg false (.op false ⟨(some 2), none, (.box (.tmp 0))⟩
  (.op false ⟨(some 4), none, (.mv (.const (.int .i64 0)))⟩ .done)))
 (.seq (.seq
 (.reg false (.op false ⟨(some 5), none, (.mv (.const (.int .i64 0)))⟩ .done)) (.block 0 (.loop
 (.seq (.seq
 (.reg false (.op false ⟨(some 6), none, (.mv (.tmp 5))⟩
  (.op false ⟨(some 7), none, (.fld 5 (.tmp 2))⟩
  (.op false ⟨(some 8), none, (.ld none (.tmp 7))⟩
  (.op false ⟨(some 9), none, (.len (.tmp 8))⟩
  (.op false ⟨(some 10), none, (.bin .lss (.tmp 6) (.tmp 9))⟩ .done)))))) (.cond (.tmp 10) .skip (.exit 0)))
 (.seq (.block 1
 (.seq
 (.reg false (.op false ⟨(some 13), none, (.fld 5 (.tmp 2))⟩
  (.op false ⟨(some 14), none, (.ld none (.tmp 13))⟩
  (.op false ⟨(some 15), none, (.mv (.tmp 5))⟩
  (.op false ⟨(some 16), none, (.idx 1 (.tmp 14) (.tmp 15))⟩
  (.op false ⟨(some 17), none, (.ld none (.tmp 16))⟩
  (.op false ⟨(some 18), none, (.mv (.tmp 1))⟩
  (.op false ⟨(some 19), none, (.bin .eql (.tmp 17) (.tmp 18))⟩ .done)))))))) (.cond (.tmp 19)
 (.seq
 (.reg false (.op false ⟨(some 20), none, (.mv (.tmp 5))⟩
  (.op false ⟨(some 4), none, (.mv (.tmp 20))⟩ .done))) .ret) .skip)))
 (.reg false (.op false ⟨(some 11), none, (.mv (.tmp 5))⟩
  (.op false ⟨(some 12), none, (.bin .add (.tmp 11) (.const (.int .i64 1)))⟩
  (.op false ⟨(some 5), none, (.mv (.tmp 12))⟩ .done)))))))))
 (.seq
 (.reg false (.op false ⟨(some 4), none, (.mv (.const (.int .i64 (-1))))⟩ .done)) .ret)))⟩

theorem key_ok {P : Program} {f : FuncId} (hd : dec P f = some g_thimbleref08_key) : KeyOk P f := by
  intro d cs v k hv hr
  refine GPure.of' hd (Nat.le_of_ble_eq_true rfl) ?_
  obtain ⟨lv, kv, rfl, ik, im, ie, it, hl, hks⟩ := hv.open
  obtain ⟨ka, kc, rfl⟩ := RSl.val hks
  have hks' : RSl 1 RStr d (.slice ka v.keys.length kc) v.keys := hks
  have n2 := RSl.len_le hks
  show gwp P _ _ _ _ _
  apply w_sq; apply w_reg
  refine w_boxa (l := [.int .i64 v.kind, .int .i64 v.m, .int .i64 v.e, strV v.text, lv, .slice ka v.keys.length kc]) rfl (fun b2 T2 => ?_)
  (apply w_mvi; rfl; apply w_done0; apply w_sq; apply w_sq; apply w_reg; apply w_mvi; rfl; apply w_done0; apply w_block)
  refine w_loopN (α := Nat) (fun i => [(1, strV k), (2, .pointer (some ⟨b2, 0, none⟩)), (5, .int .i64 i)]) (fun _ => [bx b2 T2 [.int .i64 v.kind, .int .i64 v.m, .int .i64 v.e, strV v.text, lv, .slice ka v.keys.length kc]])
    (fun i => i ≤ v.keys.length ∧ ∀ j (hj : j < v.keys.length), j < i → v.keys[j] ≠ k) (fun i => v.keys.length - i) 0 ⟨rfl, rfl, rfl, trivial⟩ rfl ⟨Nat.zero_le _, fun j _ h => absurd h (Nat.not_lt_zero j)⟩ ?_
  rintro i ρ ⟨hi, hno⟩
  by_cases hc : i < v.keys.length
  · by_cases he : v.keys[i] = k
    · (apply w_sq; apply w_sq; apply w_reg; apply w_mvi; rfl; apply w_fld; rfl; apply w_ld; rfl; exact hc_i 0 rfl rfl; apply w_len; rfl; apply w_lss; rfl; rfl; apply w_done0; refine w_ifdT rfl (by omega) ?_; apply w_skip; apply w_sq; apply w_block; apply w_sq; apply w_reg; apply w_fld; rfl; apply w_ld; rfl; exact hc_i 0 rfl rfl; apply w_mvi; rfl; refine w_idxR (sz := 1) (R := RStr) (by rfl) (by assumption) (by rfl) rfl (by omega) ?_; rintro _ _ _ _ _ ⟨rfl, _⟩; apply w_ld; rfl; exact hc_ds0 (by assumption) rfl; apply w_mvt; rfl; apply w_seq; rfl; rfl; apply w_done0; refine w_ifdT rfl (by omega) ?_; apply w_sq; apply w_reg; apply w_mvi; rfl; apply w_mvi; rfl; apply w_done0; apply w_ret)
      apply finQi; rfl
      rw [if_pos (by rw [← he]; exact List.getElem_mem hc), mem_low hr hc he]
    · (apply w_sq; apply w_sq; apply w_reg; apply w_mvi; rfl; apply w_fld; rfl; apply w_ld; rfl; exact hc_i 0 rfl rfl; apply w_len; rfl; apply w_lss; rfl; rfl; apply w_done0; refine w_ifdT rfl (by omega) ?_; apply w_skip; apply w_sq; apply w_block; apply w_sq; apply w_reg; apply w_fld; rfl; apply w_ld; rfl; exact hc_i 0 rfl rfl; apply w_mvi; rfl; refine w_idxR (sz := 1) (R := RStr) (by rfl) (by assumption) (by rfl) rfl (by omega) ?_; rintro _ _ _ _ _ ⟨rfl, _⟩; apply w_ld; rfl; exact hc_ds0 (by assumption) rfl; apply w_mvt; rfl; apply w_seq; rfl; rfl; apply w_done0; refine w_ifdF rfl (by omega) ?_; apply w_skip; apply w_reg; apply w_mvi; rfl; apply w_add; rfl; rfl; omega; omega; apply w_mvi; rfl; apply w_done0)
      refine ⟨i + 1, by omega, ⟨rfl, rfl, int_eq (by omega), trivial⟩, rfl, rfl, hc, fun j hj hji => ?_⟩
      by_cases e : j = i
      · subst e; exact he
      · exact hno j hj (by omega)
  · (apply w_sq; apply w_sq; apply w_reg; apply w_mvi; rfl; apply w_fld; rfl; apply w_ld; rfl; exact hc_i 0 rfl rfl; apply w_len; rfl; apply w_lss; rfl; rfl; apply w_done0; refine w_ifdF rfl (by omega) ?_; apply w_exit; apply w_sq; apply w_reg; apply w_mvi; rfl; apply w_done0; apply w_ret)
    apply finQi; rfl
    rw [if_neg (fun h => ?_)]
    obtain ⟨j, hj, e⟩ := List.getElem_of_mem h
    exact hno j hj (by omega) e
end Go.Gk.Val
end

section
/-
  Keys that rise, maps that are made key by key, what may be: plain.
-/
namespace Go.Gk.Val
open Go Go.Gk Go.Gk.Utf

theorem riseN_iff {ks : List (List UInt8)} : ∀ {m : Nat}, riseN ks m = true ↔ ∀ i, i < m → rise1 ks i = true
  | 0 => by simp [riseN]
  | m + 1 => by
    rw [riseN, Bool.and_eq_true, riseN_iff]
    constructor
    · rintro ⟨h1, h2⟩ i hi
      rcases Nat.lt_succ_iff_lt_or_eq.1 hi with h | rfl
      · exact h1 i h
      · exact h2
    · intro h
      exact ⟨fun i hi => h i (by omega), h m (by omega)⟩
abbrev Rise (ks : List (List UInt8)) : Prop := ks.Pairwise fun a b => Op.bytesLess a b = true
theorem rising_iff {ks : List (List UInt8)} : rising ks = true ↔ (∀ k ∈ ks, u8 k = true) ∧ Rise ks := by
  constructor
  · intro h
    refine ⟨fun k hk => ?_, ?_⟩
    · obtain ⟨i, hi, rfl⟩ := List.getElem_of_mem hk
      have := riseN_iff.1 h i hi
      rw [rise1, Bool.and_eq_true] at this
      simpa [List.getD, hi] using this.1
    · rw [Rise, List.pairwise_iff_getElem]
      intro i j hi hj hij
      exact rise_lt h hj hij
  · rintro ⟨h1, h2⟩
    rw [Rise, List.pairwise_iff_getElem] at h2
    refine riseN_iff.2 fun i hi => ?_
    rw [rise1, Bool.and_eq_true]
    refine ⟨by simpa [List.getD, hi] using h1 _ (List.getElem_mem hi), ?_⟩
    cases i with
    | zero => rfl
    | succ i =>
      have := h2 i (i + 1) (by omega) hi (by omega)
      have hi' : i < ks.length := by omega
      simpa [List.getD, hi, hi'] using this
theorem rising_sub {ks ls : List (List UInt8)} (h : rising ks = true) (hs : ls.Sublist ks) : rising ls = true := by
  rw [rising_iff] at h ⊢
  exact ⟨fun k hk => h.1 k (hs.subset hk), h.2.sublist hs⟩
theorem rise_nodup {ks : List (List UInt8)} (h : Rise ks) : ks.Nodup := h.imp fun {a b} hab e => by subst e; rw [bl_irrefl] at hab; cases hab
theorem low_lt : ∀ {ks : List (List UInt8)} {k : List UInt8} {j : Nat} (_ : j < lowK ks k) (hj : j < ks.length), Op.bytesLess ks[j] k = true
  | [], _, _, _, hj => absurd hj (Nat.not_lt_zero _)
  | a :: ks, k, j, h, hj => by
    unfold lowK at h
    rw [List.takeWhile_cons] at h
    by_cases e : Op.bytesLess a k = true
    · rw [if_pos e, List.length_cons] at h
      cases j with
      | zero => exact e
      | succ j => exact low_lt (ks := ks) (by unfold lowK; omega) (by simpa using hj)
    · rw [if_neg e] at h; exact absurd h (Nat.not_lt_zero _)
theorem low_at : ∀ {ks : List (List UInt8)} {k : List UInt8} (hj : lowK ks k < ks.length), Op.bytesLess ks[lowK ks k] k = false
  | [], _, hj => absurd hj (Nat.not_lt_zero _)
  | a :: ks, k, hj => by
    by_cases e : Op.bytesLess a k = true
    · have h0 : lowK (a :: ks) k = lowK ks k + 1 := by unfold lowK; rw [List.takeWhile_cons, if_pos e, List.length_cons]
      have hj' : lowK ks k < ks.length := by rw [h0] at hj; simpa using hj
      have := low_at hj'
      simp only [h0, List.getElem_cons_succ]
      exact this
    · have h0 : lowK (a :: ks) k = 0 := by unfold lowK; rw [List.takeWhile_cons, if_neg e]; rfl
      simp only [h0, List.getElem_cons_zero]
      simpa using e
def insK (o : List (List UInt8) × List V) (k : List UInt8) (x : V) : List (List UInt8) × List V :=
  if o.1[lowK o.1 k]? = some k then (o.1, o.2.set (lowK o.1 k) x)
  else (o.1.take (lowK o.1 k) ++ [k] ++ o.1.drop (lowK o.1 k), (o.2.take (lowK o.1 k) ++ [x] ++ o.2.drop (lowK o.1 k)).set (lowK o.1 k) x)
def makeL (ks : List (List UInt8)) (l : List V) : Nat → List (List UInt8) × List V
  | 0 => ([], [])
  | n + 1 => insK (makeL ks l n) (ks.getD n []) (l.getD n V.zero)
theorem ins_len {o : List (List UInt8) × List V} (h : o.1.length = o.2.length) (k : List UInt8) (x : V) : (insK o k x).1.length = (insK o k x).2.length ∧ (insK o k x).1.length ≤ o.1.length + 1 := by
  have := lowK_le o.1 k
  unfold insK
  split
  · simp [h]
  · simp; omega
theorem make_len (ks : List (List UInt8)) (l : List V) : ∀ n, (makeL ks l n).1.length = (makeL ks l n).2.length ∧ (makeL ks l n).1.length ≤ n
  | 0 => ⟨rfl, Nat.le_refl _⟩
  | n + 1 => by
    have ih := make_len ks l n
    have := ins_len ih.1 (ks.getD n []) (l.getD n V.zero)
    exact ⟨this.1, by have := this.2; have := ih.2; rw [makeL]; omega⟩

/-! ### what may be -/
theorem may_one {v : V} (h : mayV v = true) : oneB v = true := by rw [mayV_eq, Bool.and_eq_true] at h; exact h.1
theorem may_mem {v x : V} (h : mayV v = true) (hx : x ∈ v.list) : mayV x = true := by rw [mayV_eq, Bool.and_eq_true, List.all_eq_true] at h; exact h.2 x hx
theorem may_list {l : List V} (h : ∀ x ∈ l, mayV x = true) : mayV (.mk 5 0 0 [] l []) = true := by
  rw [mayV_eq, Bool.and_eq_true, List.all_eq_true]
  exact ⟨by simp [oneB, bareB, V.kind, V.m, V.e, V.text, V.list, V.keys, numRight, u8, Lib.validD_nil, rising, riseN], h⟩
theorem may_map {l : List V} {ks : List (List UInt8)} (hr : rising ks = true) (hl : ks.length = l.length) (h : ∀ x ∈ l, mayV x = true) : mayV (.mk 6 0 0 [] l ks) = true := by
  rw [mayV_eq, Bool.and_eq_true, List.all_eq_true]
  refine ⟨?_, h⟩
  simp [oneB, bareB, V.kind, V.m, V.e, V.text, V.list, V.keys, numRight, u8, Lib.validD_nil]
  exact ⟨hr, hl⟩
theorem depth_mk {k m e : Int} {t : List UInt8} {l : List V} {ks : List (List UInt8)} {n : Nat} (h : ∀ x ∈ l, depthV x ≤ n) : depthV (.mk k m e t l ks) ≤ n + 1 := depth_le.2 h
theorem right_iff {v : V} : rightV v = 0 ↔ mayV v = true ∧ depthV v ≤ 48 := by
  unfold rightV
  constructor
  · intro h
    by_cases h1 : depthV v ≤ 48
    · rw [if_pos h1] at h
      by_cases h2 : mayV v = true
      · exact ⟨h2, h1⟩
      · rw [if_neg h2] at h; cases h
    · rw [if_neg h1] at h; cases h
  · rintro ⟨h1, h2⟩
    rw [if_pos h2, if_pos h1]
theorem i64_0 : I64 0 := ⟨by decide, by decide⟩
theorem i64_4 : I64 4 := ⟨by decide, by decide⟩
theorem i64_5 : I64 5 := ⟨by decide, by decide⟩
theorem i64_6 : I64 6 := ⟨by decide, by decide⟩
abbrev zVal : List Value := [.int .i64 0, .int .i64 0, .int .i64 0, strV [], .slice none 0 0, .slice none 0 0]
theorem finVDE {ρ : Env} {d : PHeap} {L : List PHeap} {b t u : Nat} {T : TypeId} {cs : List Value} {w : V} {e : Int} (i : Nat) (e4 : ρ t = .pointer (some ⟨b, 0, none⟩)) (hi : L[i]? = some (bx b T cs)) (e5 : ρ u = .int .i64 e) (hw : RVal d cs w) :
    retPost [.cell t (some 6), .tmp u] (Ret fun r d' L' => L' = [] ∧ ∃ cs', r = .tuple #[.agg cs'.toArray, .int .i64 e] ∧ RVal d' cs' w) ρ d L :=
  finS (L' := []) [.agg cs.toArray, .int .i64 e] ⟨res_cell i e4 hi (RVal.len hw), res_tmp e5, trivial⟩ (List.nil_sublist _) ⟨rfl, cs, rfl, hw⟩
end Go.Gk.Val
end

section
/-
  Steps that are built of some of their parts.
-/
namespace Go.Gk
open Go
section
variable {P : Program} {pan : List PanicEntry → Post} {Qn : Env → Post} {Ls L : List PHeap} {ρ : Env} {d : PHeap} {s : GS} {t : Nat} {tk : Bool}
theorem w_bstF {y : Operand} {l : List UInt8} (ey : ev ρ y = strV l) (h : gws P pan Qn s Ls (upd ρ t (.agg [.int .i64 0, strV l, .int .i64 0, .int .i64 0, .bool false, .bool false].toArray)) d L) :
    gws P pan Qn (.op tk ⟨some t, none, .bld [(0, 1), (1, 1), (2, 1), (3, 1), (4, 1), (5, 1)] [.int .i64 0, strV [], .int .i64 0, .int .i64 0, .bool false, .bool false] [(0, .const (.int .i64 0)), (1, y)]⟩ s) Ls ρ d L :=
  w_bld (cs := [.int .i64 0, strV l, .int .i64 0, .int .i64 0, .bool false, .bool false]) (by have e0 : ev ρ (.const (.int .i64 0)) = .int .i64 0 := rfl; simp [Instr.fill, e0, ey, Value.cells, strV]) h
theorem w_bstI {y : Operand} {a : Int} (ey : ev ρ y = .int .i64 a) (h : gws P pan Qn s Ls (upd ρ t (.agg [.int .i64 1, strV [], .int .i64 a, .int .i64 0, .bool false, .bool false].toArray)) d L) :
    gws P pan Qn (.op tk ⟨some t, none, .bld [(0, 1), (1, 1), (2, 1), (3, 1), (4, 1), (5, 1)] [.int .i64 0, strV [], .int .i64 0, .int .i64 0, .bool false, .bool false] [(0, .const (.int .i64 1)), (2, y)]⟩ s) Ls ρ d L :=
  w_bld (cs := [.int .i64 1, strV [], .int .i64 a, .int .i64 0, .bool false, .bool false]) (by have e0 : ev ρ (.const (.int .i64 1)) = .int .i64 1 := rfl; simp [Instr.fill, e0, ey, Value.cells, strV]) h
end
end Go.Gk
end

section
/-
  Maps whose keys and values have a form: what is done to them, as steps of the walker.
-/
namespace Go.Gk
open Go

section
variable {κ ν : Type} (kE : κ → Value) (vE : ν → Value)
/-- Entries: key, value, stamp. -/
def ents (ms : List (κ × ν × Nat)) : List MapEntry := ms.map fun p => ⟨kE p.1, vE p.2.1, p.2.2⟩
def mp (b : Nat) (ms : List (κ × ν × Nat)) (c : Nat) : PHeap := sg b (.map (ents kE vE ms).toArray c)
end
section
variable {κ ν : Type} [DecidableEq κ]
def mIx (k : κ) : List (κ × ν × Nat) → Nat → Option (Nat × ν)
  | [], _ => none
  | p :: ms, i => if k = p.1 then some (i, p.2.1) else mIx k ms (i + 1)
def mGet (k : κ) : List (κ × ν × Nat) → Option ν
  | [] => none
  | p :: ms => if k = p.1 then some p.2.1 else mGet k ms
def mPut (k : κ) (v : ν) (c : Nat) : List (κ × ν × Nat) → List (κ × ν × Nat)
  | [] => [(k, v, c)]
  | p :: ms => if k = p.1 then (p.1, v, p.2.2) :: ms else p :: mPut k v c ms
def mClk (k : κ) (c : Nat) (ms : List (κ × ν × Nat)) : Nat := if (mGet k ms).isSome then c else c + 1
def mDel (k : κ) : List (κ × ν × Nat) → List (κ × ν × Nat)
  | [] => []
  | p :: ms => if k = p.1 then ms else p :: mDel k ms
/-- Keys are told apart. -/
def KeyE (kd : Nat) (kE : κ → Value) : Prop := ∀ a b, eq1 kd (kE a) (kE b) = some (decide (a = b))
theorem findK_ents {kd : Nat} {kE : κ → Value} {vE : ν → Value} (hk : KeyE kd kE) (k : κ) : ∀ (ms : List (κ × ν × Nat)) (i : Nat), findK kd (kE k) (ents kE vE ms) i = some ((mIx k ms i).map fun p => (p.1, vE p.2))
  | [], i => rfl
  | p :: ms, i => by
    have ih := findK_ents (vE := vE) hk k ms (i + 1)
    have e : eq1 kd (kE k) (kE p.1) = some (decide (k = p.1)) := hk k p.1
    show findK kd (kE k) (⟨kE p.1, vE p.2.1, p.2.2⟩ :: ents kE vE ms) i = _
    rw [findK, mIx]
    simp only [e]
    by_cases h : k = p.1
    · simp only [h, decide_true, if_true]; rfl
    · simp only [h, decide_false, if_false]; exact ih
theorem mIx_get (k : κ) : ∀ (ms : List (κ × ν × Nat)) (i : Nat), (mIx k ms i).map (·.2) = mGet k ms
  | [], _ => rfl
  | p :: ms, i => by
    rw [mIx, mGet]
    by_cases h : k = p.1
    · simp [h]
    · rw [if_neg h, if_neg h]; exact mIx_get k ms (i + 1)
theorem upO_ents {kE : κ → Value} {vE : ν → Value} (k : κ) (v : ν) (c : Nat) (ms : List (κ × ν × Nat)) :
    upO (ents kE vE ms) c (kE k) (vE v) ((mIx k ms 0).map fun p => (p.1, vE p.2)) = .map (ents kE vE (mPut k v c ms)).toArray (mClk k c ms) := by
  have key : ∀ (ms : List (κ × ν × Nat)) (i : Nat), (∀ j u, mIx k ms i = some (j, u) → i ≤ j ∧ (ents kE vE ms).modify (j - i) (fun e : MapEntry => { e with val := vE v }) = ents kE vE (mPut k v c ms)) ∧
      (mIx k ms i = none → ents kE vE ms ++ [(⟨kE k, vE v, c⟩ : MapEntry)] = ents kE vE (mPut k v c ms)) := by
    intro ms
    induction ms with
    | nil => intro i; exact ⟨fun j u h => (by cases h), fun _ => rfl⟩
    | cons p ms ih =>
      intro i
      rw [mIx, mPut]
      by_cases h : k = p.1
      · rw [if_pos h, if_pos h]
        refine ⟨fun j u e => ?_, fun e => by cases e⟩
        cases e
        refine ⟨Nat.le_refl _, ?_⟩
        rw [Nat.sub_self]; simp [ents]
      · rw [if_neg h, if_neg h]
        obtain ⟨h1, h2⟩ := ih (i + 1)
        refine ⟨fun j u e => ?_, fun e => ?_⟩
        · obtain ⟨h3, h4⟩ := h1 j u e
          refine ⟨by omega, ?_⟩
          rw [show j - i = (j - (i + 1)) + 1 by omega]
          simp only [ents, List.map_cons, List.modify_succ_cons] at h4 ⊢
          rw [h4]
        · have := h2 e
          simp only [ents, List.map_cons, List.cons_append] at this ⊢
          rw [this]
  have hg := mIx_get k ms 0
  cases hq : mIx k ms 0 with
  | none =>
    rw [hq] at hg
    simp only [Option.map_none, upO, mClk, ← hg, Option.isSome_none, Bool.false_eq_true, if_false]
    rw [(key ms 0).2 hq]
  | some p =>
    obtain ⟨j, u⟩ := p
    rw [hq] at hg
    simp only [Option.map_some, upO, mClk, ← hg, Option.isSome_some, if_true]
    have := ((key ms 0).1 j u hq).2
    rw [Nat.sub_zero] at this
    rw [this]
theorem delO_ents {kE : κ → Value} {vE : ν → Value} (k : κ) (c : Nat) (ms : List (κ × ν × Nat)) :
    delO (ents kE vE ms) c ((mIx k ms 0).map fun p => (p.1, vE p.2)) = .map (ents kE vE (mDel k ms)).toArray c := by
  have key : ∀ (ms : List (κ × ν × Nat)) (i : Nat), (∀ j u, mIx k ms i = some (j, u) → i ≤ j ∧ (ents kE vE ms).eraseIdx (j - i) = ents kE vE (mDel k ms)) ∧ (mIx k ms i = none → mDel k ms = ms) := by
    intro ms
    induction ms with
    | nil => intro i; exact ⟨fun j u h => (by cases h), fun _ => rfl⟩
    | cons p ms ih =>
      intro i
      rw [mIx, mDel]
      by_cases h : k = p.1
      · rw [if_pos h, if_pos h]
        refine ⟨fun j u e => ?_, fun e => by cases e⟩
        cases e
        refine ⟨Nat.le_refl _, ?_⟩
        rw [Nat.sub_self]; simp [ents]
      · rw [if_neg h, if_neg h]
        obtain ⟨h1, h2⟩ := ih (i + 1)
        refine ⟨fun j u e => ?_, fun e => by rw [h2 e]⟩
        obtain ⟨h3, h4⟩ := h1 j u e
        refine ⟨by omega, ?_⟩
        rw [show j - i = (j - (i + 1)) + 1 by omega]
        simp only [ents, List.map_cons, List.eraseIdx_cons_succ] at h4 ⊢
        rw [h4]
  cases hq : mIx k ms 0 with
  | none => simp only [Option.map_none, delO]; rw [(key ms 0).2 hq]
  | some p =>
    obtain ⟨j, u⟩ := p
    have := ((key ms 0).1 j u hq).2
    rw [Nat.sub_zero] at this
    simp only [Option.map_some, delO, this]
theorem keyStr : KeyE 1 strV := fun a b => by
  show eq1 1 (.string ⟨a.toArray⟩) (.string ⟨b.toArray⟩) = _
  show some ((⟨a.toArray⟩ : ByteArray) == ⟨b.toArray⟩) = _
  have h : ((⟨a.toArray⟩ : ByteArray) == ⟨b.toArray⟩) = (a.toArray == b.toArray) := rfl
  rw [h]
  congr 1
  by_cases e : a = b
  · subst e; simp
  · have : a.toArray ≠ b.toArray := fun h => e (by simpa using h)
    simp [e]
theorem keyInt : KeyE 0 (fun i : Int => Value.int .i64 i) := fun a b => by
  show some (a == b) = _
  by_cases e : a = b <;> simp [e]
end

section
variable {κ ν : Type} {kE : κ → Value} {vE : ν → Value}
variable {P : Program} {pan : List PanicEntry → Post} {Qn : Env → Post} {Ls L : List PHeap} {ρ : Env} {d : PHeap} {s : GS} {t : Nat}
theorem w_mmk (kE : κ → Value) (vE : ν → Value) (h : ∀ b, gws P pan Qn s Ls (upd ρ t (.map (some b))) d (mp kE vE b [] 0 :: L)) : gws P pan Qn (.op false ⟨some t, none, .mop .mk⟩ s) Ls ρ d L :=
  ⟨d, L, Vs.refl d L, fun b => ⟨_, _, Vs.refl _ _, h b⟩⟩
theorem w_mup [DecidableEq κ] {kd : Nat} {x y z : Operand} {b c : Nat} {ms : List (κ × ν × Nat)} {k : κ} {v : ν} (hk : KeyE kd kE) (i : Nat) (hi : L[i]? = some (mp kE vE b ms c)) (ex : ev ρ x = .map (some b)) (ey : ev ρ y = kE k) (ez : ev ρ z = vE v)
    (h : gws P pan Qn s Ls ρ d (L.set i (mp kE vE b (mPut k v c ms) (mClk k c ms)))) : gws P pan Qn (.op false ⟨none, none, .mop (.up kd x y z)⟩ s) Ls ρ d L :=
  ⟨d, L, Vs.refl d L, i, b, ents kE vE ms, c, _, hi, ex, by rw [ey]; exact findK_ents hk k ms 0, _, _, Vs.refl _ _, by rw [ey, ez, upO_ents]; exact h⟩
theorem w_mdl [DecidableEq κ] {kd : Nat} {x y : Operand} {b c : Nat} {ms : List (κ × ν × Nat)} {k : κ} {t : Option Nat} (hk : KeyE kd kE) (i : Nat) (hi : L[i]? = some (mp kE vE b ms c)) (ex : ev ρ x = .map (some b)) (ey : ev ρ y = kE k)
    (h : gws P pan Qn s Ls (put ρ t (.tuple #[])) d (L.set i (mp kE vE b (mDel k ms) c))) : gws P pan Qn (.op false ⟨t, none, .mop (.del kd x y)⟩ s) Ls ρ d L :=
  ⟨d, L, Vs.refl d L, i, b, ents kE vE ms, c, _, hi, ex, by rw [ey]; exact findK_ents hk k ms 0, _, _, Vs.refl _ _, by rw [delO_ents]; exact h⟩
theorem w_mcl {x : Operand} {b c : Nat} {ms : List (κ × ν × Nat)} {t : Option Nat} (i : Nat) (hi : L[i]? = some (mp kE vE b ms c)) (ex : ev ρ x = .map (some b))
    (h : gws P pan Qn s Ls (put ρ t (.tuple #[])) d (L.set i (mp kE vE b [] c))) : gws P pan Qn (.op false ⟨t, none, .mop (.clr x)⟩ s) Ls ρ d L :=
  ⟨d, L, Vs.refl d L, i, b, (ents kE vE ms).toArray, c, hi, ex, _, _, Vs.refl _ _, h⟩
theorem mapAt_mp {b c i : Nat} {ms : List (κ × ν × Nat)} (hi : (Ls ++ L)[i]? = some (mp kE vE b ms c)) : mapAt d ((Ls ++ L) ++ L) (.map (some b)) (ents kE vE ms) :=
  .inr ⟨b, c, rfl, _, .inr (List.mem_append_left _ (List.mem_of_getElem? hi)), sg_self _ _⟩
theorem w_mlk [DecidableEq κ] {kd : Nat} {z : Value} {x y : Operand} {b c : Nat} {ms : List (κ × ν × Nat)} {k : κ} {v : ν} (hk : KeyE kd kE) (i : Nat) (hi : (Ls ++ L)[i]? = some (mp kE vE b ms c)) (ex : ev ρ x = .map (some b)) (ey : ev ρ y = kE k) (hg : mGet k ms = some v)
    (h : gws P pan Qn s Ls (upd ρ t (vE v)) d L) : gws P pan Qn (.op false ⟨some t, none, .mop (.lk kd z false x y)⟩ s) Ls ρ d L := by
  refine ⟨d, L, Vs.refl d L, ents kE vE ms, _, by rw [ex]; exact mapAt_mp hi, by rw [ey]; exact findK_ents hk k ms 0, _, _, Vs.refl _ _, ?_⟩
  have := mIx_get k ms 0
  rw [hg] at this
  cases hq : mIx k ms 0 with
  | none => rw [hq] at this; cases this
  | some p => rw [hq] at this; simp at this; subst this; exact h
theorem w_mlk0 [DecidableEq κ] {kd : Nat} {z : Value} {x y : Operand} {b c : Nat} {ms : List (κ × ν × Nat)} {k : κ} (hk : KeyE kd kE) (i : Nat) (hi : (Ls ++ L)[i]? = some (mp kE vE b ms c)) (ex : ev ρ x = .map (some b)) (ey : ev ρ y = kE k) (hg : mGet k ms = none)
    (h : gws P pan Qn s Ls (upd ρ t z) d L) : gws P pan Qn (.op false ⟨some t, none, .mop (.lk kd z false x y)⟩ s) Ls ρ d L := by
  refine ⟨d, L, Vs.refl d L, ents kE vE ms, _, by rw [ex]; exact mapAt_mp hi, by rw [ey]; exact findK_ents hk k ms 0, _, _, Vs.refl _ _, ?_⟩
  have := mIx_get k ms 0
  rw [hg] at this
  cases hq : mIx k ms 0 with
  | none => exact h
  | some p => rw [hq] at this; cases this
/-- A walk over a map that stays as it is. -/
def mit (q b n : Nat) (seen : List Nat) : PHeap := sg q (.mapIter (some b) n seen.toArray n)
theorem w_rng {x : Operand} {b c : Nat} {ms : List (κ × ν × Nat)} (kE : κ → Value) (vE : ν → Value) (i : Nat) (hi : (Ls ++ L)[i]? = some (mp kE vE b ms c)) (ex : ev ρ x = .map (some b))
    (h : ∀ q, gws P pan Qn s Ls (upd ρ t (.pointer (some ⟨q, 0, none⟩))) d (mit q b c [] :: L)) : gws P pan Qn (.op false ⟨some t, none, .mop (.rng x)⟩ s) Ls ρ d L :=
  ⟨d, L, Vs.refl d L, b, (ents kE vE ms).toArray, c, ex, ⟨_, .inr (List.mem_append_left _ (List.mem_of_getElem? hi)), sg_self _ _⟩, fun q => ⟨_, _, Vs.refl _ _, h q⟩⟩
theorem w_nxt {x : Operand} {q b c : Nat} {ms : List (κ × ν × Nat)} {seen : List Nat} (kE : κ → Value) (vE : ν → Value) (j : Nat) (hj : L[j]? = some (mit q b c seen)) (i : Nat) (hi : (Ls ++ L)[i]? = some (mp kE vE b ms c)) (ex : ev ρ x = .pointer (some ⟨q, 0, none⟩))
    (hs : ∀ p ∈ ms, p.2.2 < c) (h0 : seen ≠ [] → ms ≠ [])
    (h1 : ∀ p ∈ ms, p.2.2 ∉ seen → gws P pan Qn s Ls (upd ρ t (.tuple #[.bool true, kE p.1, vE p.2.1])) d (L.set j (mit q b c (seen ++ [p.2.2]))))
    (h2 : (∀ p ∈ ms, p.2.2 ∈ seen) → gws P pan Qn s Ls (upd ρ t (.tuple #[.bool false])) d L) : gws P pan Qn (.op false ⟨some t, none, .mop (.nxt x)⟩ s) Ls ρ d L := by
  refine ⟨d, L, Vs.refl d L, j, q, b, c, seen.toArray, c, ents kE vE ms, c, hj, ex, ⟨_, .inr (List.mem_append_left _ (List.mem_of_getElem? hi)), sg_self _ _⟩, ?_, fun e he hb => ⟨_, _, Vs.refl _ _, ?_⟩, fun ha => ⟨_, _, Vs.refl _ _, h2 fun p hp => ?_⟩⟩
  · by_cases e : seen = []
    · subst e; exact .inl rfl
    · obtain ⟨p, hp⟩ := List.exists_mem_of_ne_nil _ (h0 e)
      exact .inr ⟨_, List.mem_map_of_mem hp, hs p hp⟩
  · obtain ⟨p, hp, rfl⟩ := List.mem_map.1 he
    have := h1 p hp (by simpa using hb)
    have e : seen.toArray.push p.2.2 = (seen ++ [p.2.2]).toArray := by simp
    simp only [mit] at this
    rw [← e] at this
    exact this
  · have := ha ⟨kE p.1, vE p.2.1, p.2.2⟩ (List.mem_map_of_mem hp) (hs p hp)
    simpa using this
/-- The entry that a walk came to last. -/
theorem w_ent {x : Operand} {q b c : Nat} {ms : List (κ × ν × Nat)} {seen : List Nat} {p : κ × ν × Nat} (kE : κ → Value) (vE : ν → Value) (j : Nat) (hj : (Ls ++ L)[j]? = some (mit q b c (seen ++ [p.2.2]))) (i : Nat) (hi : (Ls ++ L)[i]? = some (mp kE vE b ms c)) (ex : ev ρ x = .pointer (some ⟨q, 0, none⟩))
    (hm : p ∈ ms) (hn : (ms.map (·.2.2)).Nodup) (h : gws P pan Qn s Ls (upd ρ t (.tuple #[kE p.1, vE p.2.1])) d L) : gws P pan Qn (.op false ⟨some t, none, .mop (.ent x)⟩ s) Ls ρ d L := by
  refine ⟨d, L, Vs.refl d L, q, b, c, (seen ++ [p.2.2]).toArray, c, p.2.2, ents kE vE ms, ⟨kE p.1, vE p.2.1, p.2.2⟩, ex, ⟨_, .inr (List.mem_append_left _ (List.mem_of_getElem? hj)), sg_self _ _⟩, by simp, ⟨_, .inr (List.mem_append_left _ (List.mem_of_getElem? hi)), sg_self _ _⟩, ?_, _, _, Vs.refl _ _, h⟩
  clear hi h
  induction ms with
  | nil => cases hm
  | cons a ms ih =>
    rw [List.map_cons, List.nodup_cons] at hn
    show List.find? _ (⟨kE a.1, vE a.2.1, a.2.2⟩ :: ents kE vE ms) = _
    rw [List.find?_cons]
    rcases List.mem_cons.1 hm with rfl | hm
    · simp
    · have hne : a.2.2 ≠ p.2.2 := fun e => hn.1 (by rw [e]; exact List.mem_map_of_mem hm)
      have : ((a.2.2 : Nat) == p.2.2) = false := by simpa using hne
      simp only [this]
      exact ih hm hn.2
end
end Go.Gk
end

section
/-
  Maps of keys and values, made key by key, or by their sorted keys: the same.
-/
namespace Go.Gk.Val
open Go Go.Gk Go.Gk.Utf
/-! ### the map of keys and places -/
abbrev Ms := List (List UInt8 × Int × Nat)
def mKeys (ms : Ms) : List (List UInt8) := ms.map (·.1)
theorem mKeys_len (ms : Ms) : (mKeys ms).length = ms.length := List.length_map ..
theorem mKeys_mem {k : List UInt8} {p : List UInt8 × Int × Nat} {ms : Ms} : k ∈ mKeys (p :: ms) ↔ k = p.1 ∨ k ∈ mKeys ms := List.mem_cons
theorem get_put (k k' : List UInt8) (v : Int) (c : Nat) : ∀ ms : Ms, mGet k' (mPut k v c ms) = if k' = k then some v else mGet k' ms
  | [] => by simp [mPut, mGet]
  | p :: ms => by
    rw [mPut]
    by_cases h : k = p.1
    · rw [if_pos h, mGet, mGet]
      subst h
      by_cases h2 : k' = p.1
      · simp [h2]
      · simp [h2]
    · rw [if_neg h, mGet, mGet, get_put k k' v c ms]
      by_cases h2 : k' = p.1
      · rw [if_pos h2, if_pos h2, if_neg]; intro e; exact h (e.symm.trans h2)
      · rw [if_neg h2, if_neg h2]
theorem get_some (k : List UInt8) : ∀ ms : Ms, (mGet k ms).isSome = true ↔ k ∈ mKeys ms
  | [] => by simp [mGet, mKeys]
  | p :: ms => by
    have ih := get_some k ms
    rw [mGet, mKeys_mem]
    by_cases h : k = p.1
    · simp [h]
    · rw [if_neg h, ih]; simp [h]
theorem keys_put (k : List UInt8) (v : Int) (c : Nat) : ∀ ms : Ms, mKeys (mPut k v c ms) = if k ∈ mKeys ms then mKeys ms else mKeys ms ++ [k]
  | [] => by simp [mPut, mKeys]
  | p :: ms => by
    have ih := keys_put k v c ms
    rw [mPut]
    by_cases h : k = p.1
    · rw [if_pos h, if_pos (mKeys_mem.2 (.inl h))]; rfl
    · rw [if_neg h]
      show p.1 :: mKeys (mPut k v c ms) = _
      rw [ih]
      by_cases e : k ∈ mKeys ms
      · rw [if_pos e, if_pos (mKeys_mem.2 (.inr e))]; rfl
      · rw [if_neg e, if_neg (fun q => (mKeys_mem.1 q).elim h e)]; rfl
theorem born_put (k : List UInt8) (v : Int) (c : Nat) : ∀ ms : Ms, (mPut k v c ms).map (·.2.2) = if k ∈ mKeys ms then ms.map (·.2.2) else ms.map (·.2.2) ++ [c]
  | [] => by simp [mPut, mKeys]
  | p :: ms => by
    have ih := born_put k v c ms
    rw [mPut]
    by_cases h : k = p.1
    · rw [if_pos h, if_pos (mKeys_mem.2 (.inl h))]; rfl
    · rw [if_neg h]
      show p.2.2 :: (mPut k v c ms).map (·.2.2) = _
      rw [ih]
      by_cases e : k ∈ mKeys ms
      · rw [if_pos e, if_pos (mKeys_mem.2 (.inr e))]; rfl
      · rw [if_neg e, if_neg (fun q => (mKeys_mem.1 q).elim h e)]; rfl
def msN (ks : List (List UInt8)) : Nat → Ms
  | 0 => []
  | n + 1 => mPut (ks.getD n []) (n : Int) (msN ks n).length (msN ks n)
theorem clk_put (k : List UInt8) (v : Int) (ms : Ms) : mClk k ms.length ms = (mPut k v ms.length ms).length := by
  have h1 := congrArg List.length (keys_put k v ms.length ms)
  rw [mKeys_len] at h1
  rw [h1, mClk]
  by_cases h : k ∈ mKeys ms
  · rw [if_pos ((get_some k ms).2 h), if_pos h, mKeys_len]
  · rw [if_neg (fun e => h ((get_some k ms).1 e)), if_neg h, List.length_append, mKeys_len]; rfl
theorem ms_born (ks : List (List UInt8)) : ∀ n, (msN ks n).map (·.2.2) = List.range (msN ks n).length
  | 0 => rfl
  | n + 1 => by
    have ih := ms_born ks n
    have hl := congrArg List.length (keys_put (ks.getD n []) (n : Int) (msN ks n).length (msN ks n))
    rw [mKeys_len] at hl
    rw [msN, born_put, hl, ih]
    by_cases e : ks.getD n [] ∈ mKeys (msN ks n)
    · rw [if_pos e, if_pos e, mKeys_len]
    · rw [if_neg e, if_neg e, List.length_append, mKeys_len]; exact List.range_succ.symm
theorem ms_lt {ks : List (List UInt8)} {n : Nat} : ∀ p ∈ msN ks n, p.2.2 < (msN ks n).length := fun p hp => by
  have : p.2.2 ∈ (msN ks n).map (·.2.2) := List.mem_map_of_mem hp
  rw [ms_born] at this
  exact List.mem_range.1 this
theorem ms_nodup (ks : List (List UInt8)) : ∀ n, (mKeys (msN ks n)).Nodup
  | 0 => List.nodup_nil
  | n + 1 => by
    have ih := ms_nodup ks n
    rw [msN, keys_put]
    split
    · exact ih
    · rename_i h
      rw [List.nodup_append]
      exact ⟨ih, by simp, fun a ha b hb => by simp at hb; subst hb; intro e; subst e; exact h ha⟩
theorem ms_get {ks : List (List UInt8)} : ∀ {n : Nat} {k : List UInt8} {i : Int}, mGet k (msN ks n) = some i → 0 ≤ i ∧ i < n
  | 0, k, i, h => by cases h
  | n + 1, k, i, h => by
    rw [msN, get_put] at h
    split at h
    · cases h; omega
    · have := ms_get h; omega
/-- A key's last place. -/
def plK (ms : Ms) (k : List UInt8) : Nat := ((mGet k ms).getD 0).toNat
theorem make_map {ks : List (List UInt8)} {l : List V} (hu : ∀ k ∈ ks, u8 k = true) : ∀ n, n ≤ ks.length →
    rising (makeL ks l n).1 = true ∧ (∀ k, k ∈ (makeL ks l n).1 ↔ k ∈ mKeys (msN ks n)) ∧ (makeL ks l n).2 = (makeL ks l n).1.map fun k => l.getD (plK (msN ks n) k) V.zero
  | 0, _ => ⟨rising_iff.2 ⟨fun k hk => by simp [makeL] at hk, by simp [makeL, Rise]⟩, fun k => by simp [makeL, msN, mKeys], rfl⟩
  | n + 1, hn => by
    obtain ⟨h1, h2, h3⟩ := make_map (l := l) hu n (by omega)
    have hlen := (make_len ks l n).1
    have hk : u8 (ks.getD n []) = true := by
      rw [show ks.getD n [] = ks[n] by simp [show n < ks.length by omega]]
      exact hu _ (List.getElem_mem _)
    rw [makeL, msN]
    generalize ks.getD n [] = k at *
    generalize makeL ks l n = o at *
    generalize msN ks n = ms at *
    have hpl : ∀ k', plK (mPut k (n : Int) ms.length ms) k' = if k' = k then n else plK ms k' := fun k' => by
      rw [plK, get_put, plK]
      by_cases e : k' = k
      · simp [e]
      · simp [e]
    have hlow := lowK_le o.1 k
    by_cases hm : k ∈ o.1
    · obtain ⟨hi, he⟩ := (mem_iff h1).1 hm
      have hio : o.1[lowK o.1 k]? = some k := by rw [List.getElem?_eq_getElem hi, he]
      rw [insK, if_pos hio]
      refine ⟨h1, fun k' => ?_, ?_⟩
      · rw [keys_put, if_pos ((h2 k).1 hm)]; exact h2 k'
      · have hnd := rise_nodup (rising_iff.1 h1).2
        apply List.ext_getElem
        · simp [hlen]
        · intro i q1 q2
          have q3 : i < o.1.length := by simpa using q2
          rw [List.getElem_set, List.getElem_map, hpl]
          by_cases e : lowK o.1 k = i
          · subst e; rw [if_pos rfl, if_pos he]
          · rw [if_neg e, if_neg (fun e2 => e (by
              have e3 : o.1[lowK o.1 k] = o.1[i] := he.trans (Eq.symm e2)
              exact (List.getElem_inj hnd).1 e3))]
            simp [h3]
    · have hio : ¬ o.1[lowK o.1 k]? = some k := fun e => hm (List.mem_of_getElem? e)
      have hnk : k ∉ mKeys ms := fun e => hm ((h2 k).2 e)
      rw [insK, if_neg hio]
      have hset : (o.2.take (lowK o.1 k) ++ [l.getD n V.zero] ++ o.2.drop (lowK o.1 k)).set (lowK o.1 k) (l.getD n V.zero) = o.2.take (lowK o.1 k) ++ [l.getD n V.zero] ++ o.2.drop (lowK o.1 k) := by
        have : (o.2.take (lowK o.1 k)).length = lowK o.1 k := by simp; omega
        rw [List.append_assoc, List.set_append_right _ _ (by omega), this, Nat.sub_self]; rfl
      refine ⟨?_, fun k' => ?_, ?_⟩
      · rw [rising_iff] at h1 ⊢
        refine ⟨fun x hx => ?_, ?_⟩
        · simp only [List.mem_append, List.mem_singleton] at hx
          rcases hx with (hx | rfl) | hx
          · exact h1.1 x (List.mem_of_mem_take hx)
          · exact hk
          · exact h1.1 x (List.mem_of_mem_drop hx)
        · have hr := rising_iff.2 h1
          have hle : ∀ x ∈ o.1.take (lowK o.1 k), Op.bytesLess x k = true := fun x hx => by
            obtain ⟨i, hi, rfl⟩ := List.getElem_of_mem hx
            have hi2 : i < lowK o.1 k ∧ i < o.1.length := by simp at hi; omega
            rw [List.getElem_take]
            exact (low_spec hr k i hi2.2).2 hi2.1
          have hge : ∀ x ∈ o.1.drop (lowK o.1 k), Op.bytesLess k x = true := fun x hx => by
            obtain ⟨i, hi, rfl⟩ := List.getElem_of_mem hx
            have hi2 : lowK o.1 k + i < o.1.length := by simp at hi; omega
            rw [List.getElem_drop]
            rcases bl_total k o.1[lowK o.1 k + i] with q | q | q
            · exact q
            · exact absurd (q ▸ List.getElem_mem hi2) hm
            · have := (low_spec hr k _ hi2).1 q; omega
          show List.Pairwise _ _
          rw [List.pairwise_append, List.pairwise_append]
          refine ⟨⟨h1.2.sublist (List.take_sublist _ _), by simp, fun a ha b hb => ?_⟩, h1.2.sublist (List.drop_sublist _ _), fun a ha b hb => ?_⟩
          · simp at hb; subst hb; exact hle a ha
          · simp only [List.mem_append, List.mem_singleton] at ha
            rcases ha with ha | rfl
            · exact bl_trans (hle a ha) (hge b hb)
            · exact hge b hb
      · rw [keys_put, if_neg hnk]
        simp only [List.mem_append, List.mem_singleton]
        have : k' ∈ o.1 ↔ k' ∈ o.1.take (lowK o.1 k) ∨ k' ∈ o.1.drop (lowK o.1 k) := by
          rw [← List.mem_append, List.take_append_drop]
        rw [← h2, this]
        constructor
        · rintro ((h | h) | h)
          · exact .inl (.inl h)
          · exact .inr h
          · exact .inl (.inr h)
        · rintro ((h | h) | h)
          · exact .inl (.inl h)
          · exact .inr h
          · exact .inl (.inr h)
      · rw [hset, List.map_append, List.map_append, List.map_singleton, hpl, if_pos rfl]
        have hout : ∀ x ∈ o.1, l.getD (plK (mPut k (n : Int) ms.length ms) x) V.zero = l.getD (plK ms x) V.zero := fun x hx => by
          rw [hpl, if_neg (show x ≠ k from fun e => hm (by rw [← e]; exact hx))]
        rw [List.map_congr_left (fun x hx => hout x (List.mem_of_mem_take hx)), List.map_congr_left (l := o.1.drop _) (fun x hx => hout x (List.mem_of_mem_drop hx)), List.map_take, List.map_drop, ← h3]
/-- The keys, in whatever order, sorted. -/
theorem make_sort {ks : List (List UInt8)} {l : List V} (hu : ∀ k ∈ ks, u8 k = true) {p : List (List UInt8)} (hp : p.Perm (mKeys (msN ks ks.length))) :
    (p.mergeSort fun x y => decide (x ≤ y)) = (makeL ks l ks.length).1 := by
  obtain ⟨h1, h2, _⟩ := make_map (l := l) hu ks.length (Nat.le_refl _)
  have hr := (rising_iff.1 h1).2
  refine List.Perm.eq_of_pairwise (le := fun x y => x ≤ y) (fun a b _ _ h k => List.le_antisymm h k) ?_ (hr.imp fun {a b} h => ?_) ((List.mergeSort_perm _ _).trans (hp.trans ((List.perm_ext_iff_of_nodup (ms_nodup ks _) (rise_nodup hr)).2 fun k => (h2 k).symm)))
  · have := List.pairwise_mergeSort (le := fun x y : List UInt8 => decide (x ≤ y)) (fun a b c h k => by simp at h k ⊢; exact List.le_trans h k) (fun a b => by simp; exact List.le_total a b) p
    exact this.imp fun h => of_decide_eq_true h
  · rw [Go.Proofs.bytesLess_eq] at h
    exact List.le_of_lt (of_decide_eq_true h)
end Go.Gk.Val
end

section
/-
  Maps that are made: the whole answer, plain.
-/
namespace Go.Gk.Val
open Go Go.Gk Go.Gk.Utf

def firstW : List V → Int
  | [] => 0
  | x :: l => if rightV x ≠ 0 then rightV x else firstW l
def makeV (ks : List (List UInt8)) (l : List V) : V := .mk 6 0 0 [] (makeL ks l ks.length).2 (makeL ks l ks.length).1
def makeTop (ks : List (List UInt8)) (l : List V) : V × Int :=
  if ks.length ≠ l.length then (V.zero, 2) else if ks.all u8 = false then (V.zero, 30) else if firstW l ≠ 0 then (V.zero, firstW l)
  else if 48 < depthV (makeV ks l) then (V.zero, 31) else (makeV ks l, 0)
theorem first_zero : ∀ {l : List V}, firstW l = 0 ↔ ∀ x ∈ l, rightV x = 0
  | [] => by simp [firstW]
  | x :: l => by
    rw [firstW]
    by_cases h : rightV x ≠ 0
    · rw [if_pos h]; simp only [List.mem_cons, forall_eq_or_imp]; exact ⟨fun e => absurd e h, fun e => absurd e.1 h⟩
    · rw [if_neg h, first_zero]
      have : rightV x = 0 := by simpa using h
      simp [this]
/-- Up to a place. -/
theorem first_at {l : List V} {i : Nat} (hi : i < l.length) (h0 : ∀ j (hj : j < i), rightV (l[j]'(by omega)) = 0) (h : rightV l[i] ≠ 0) : firstW l = rightV l[i] := by
  induction l generalizing i with
  | nil => exact absurd hi (Nat.not_lt_zero _)
  | cons x l ih =>
    rw [firstW]
    cases i with
    | zero => rw [if_pos (by simpa using h)]; rfl
    | succ i =>
      have hx := h0 0 (by omega)
      rw [if_neg (by simpa using hx)]
      exact ih (by simpa using hi) (fun j hj => by have := h0 (j + 1) (by omega); simpa using this) (by simpa using h)
theorem make_mem {ks : List (List UInt8)} {l : List V} (hu : ∀ k ∈ ks, u8 k = true) (hl : ks.length = l.length) {x : V} (hx : x ∈ (makeL ks l ks.length).2) : x ∈ l := by
  obtain ⟨h1, h2, h3⟩ := make_map (l := l) hu ks.length (Nat.le_refl _)
  rw [h3] at hx
  obtain ⟨k, hk, rfl⟩ := List.mem_map.1 hx
  have := (get_some k _).2 ((h2 k).1 hk)
  obtain ⟨i, hi⟩ := Option.isSome_iff_exists.1 this
  have hb := ms_get hi
  rw [plK, hi]
  simp only [Option.getD_some]
  have : i.toNat < l.length := by omega
  simp [this]
theorem make_may {ks : List (List UInt8)} {l : List V} (hu : ∀ k ∈ ks, u8 k = true) (hl : ks.length = l.length) (hr : ∀ x ∈ l, rightV x = 0) : mayV (makeV ks l) = true := by
  obtain ⟨h1, h2, h3⟩ := make_map (l := l) hu ks.length (Nat.le_refl _)
  exact may_map h1 (make_len ks l _).1 fun x hx => (right_iff.1 (hr x (make_mem hu hl hx))).1
theorem make_right {ks : List (List UInt8)} {l : List V} (hu : ∀ k ∈ ks, u8 k = true) (hl : ks.length = l.length) (hr : ∀ x ∈ l, rightV x = 0) : rightV (makeV ks l) = if 48 < depthV (makeV ks l) then 31 else 0 := by
  rw [rightV, make_may hu hl hr]
  by_cases h : depthV (makeV ks l) ≤ 48
  · rw [if_pos h, if_pos rfl, if_neg (by omega)]
  · rw [if_neg h, if_pos (by omega)]
theorem make_depth {ks : List (List UInt8)} {l : List V} (hu : ∀ k ∈ ks, u8 k = true) (hl : ks.length = l.length) (hr : ∀ x ∈ l, rightV x = 0) : depthV (makeV ks l) ≤ 49 :=
  depth_mk fun x hx => (right_iff.1 (hr x (make_mem hu hl hx))).2

/-! ### the last place of a key -/
def lastI (ks : List (List UInt8)) (k : List UInt8) : Nat → Int
  | 0 => -1
  | n + 1 => if ks.getD n [] = k then (n : Int) else lastI ks k n
theorem last_get (ks : List (List UInt8)) (k : List UInt8) : ∀ n, mGet k (msN ks n) = if lastI ks k n < 0 then none else some (lastI ks k n)
  | 0 => by simp [msN, mGet, lastI]
  | n + 1 => by
    rw [msN, get_put, lastI]
    by_cases h : k = ks.getD n []
    · rw [if_pos h, if_pos h.symm, if_neg (by omega)]
    · rw [if_neg h, if_neg (Ne.symm h), last_get ks k n]
theorem ms_mem (ks : List (List UInt8)) (k : List UInt8) : ∀ n, n ≤ ks.length → (k ∈ mKeys (msN ks n) ↔ k ∈ ks.take n)
  | 0, _ => by simp [msN, mKeys]
  | n + 1, hn => by
    have hg : ks.getD n [] = ks[n] := by simp [show n < ks.length by omega]
    rw [msN, keys_put, List.take_succ_eq_append_getElem (by omega), List.mem_append, List.mem_singleton, ← ms_mem ks k n (by omega), hg]
    by_cases h : ks[n] ∈ mKeys (msN ks n)
    · rw [if_pos h]; exact ⟨.inl, fun e => e.elim id (fun e => by rw [e]; exact h)⟩
    · rw [if_neg h, List.mem_append, List.mem_singleton]
theorem make_keys {ks : List (List UInt8)} {l : List V} (hu : ∀ k ∈ ks, u8 k = true) (k : List UInt8) : k ∈ (makeL ks l ks.length).1 ↔ k ∈ ks := by
  obtain ⟨h1, h2, h3⟩ := make_map (l := l) hu ks.length (Nat.le_refl _)
  rw [h2, ms_mem ks k _ (Nat.le_refl _), List.take_length]
/-- Each key of the map has the last value that it was given. -/
theorem make_last {ks : List (List UInt8)} {l : List V} (hu : ∀ k ∈ ks, u8 k = true) {i : Nat} (hi : i < (makeL ks l ks.length).1.length) (hi2 : i < (makeL ks l ks.length).2.length) :
    0 ≤ lastI ks (makeL ks l ks.length).1[i] ks.length ∧ lastI ks (makeL ks l ks.length).1[i] ks.length < ks.length ∧ (makeL ks l ks.length).2[i] = l.getD (lastI ks (makeL ks l ks.length).1[i] ks.length).toNat V.zero := by
  obtain ⟨h1, h2, h3⟩ := make_map (l := l) hu ks.length (Nat.le_refl _)
  have hm := (get_some _ _).2 ((h2 _).1 (List.getElem_mem hi))
  rw [last_get] at hm
  by_cases h : lastI ks (makeL ks l ks.length).1[i] ks.length < 0
  · rw [if_pos h] at hm; cases hm
  · have hb : mGet (makeL ks l ks.length).1[i] (msN ks ks.length) = some (lastI ks (makeL ks l ks.length).1[i] ks.length) := by rw [last_get, if_neg h]
    refine ⟨by omega, (ms_get hb).2, ?_⟩
    simp only [h3, List.getElem_map, plK, hb, Option.getD_some]
theorem make_count {ks : List (List UInt8)} {l : List V} (hu : ∀ k ∈ ks, u8 k = true) {k : List UInt8} (hk : k ∈ ks) : (makeL ks l ks.length).1.count k = 1 := by
  obtain ⟨h1, _, _⟩ := make_map (l := l) hu ks.length (Nat.le_refl _)
  rw [(rise_nodup (rising_iff.1 h1).2).count, if_pos ((make_keys hu k).2 hk)]

/-! ### the last pair first -/
theorem rise_ext {a b : List (List UInt8)} (ha : Rise a) (hb : Rise b) (h : ∀ k, k ∈ a ↔ k ∈ b) : a = b :=
  List.Perm.eq_of_pairwise (le := fun x y => Op.bytesLess x y = true) (fun x y _ _ p q => by rw [bl_asymm p] at q; cases q) ha hb ((List.perm_ext_iff_of_nodup (rise_nodup ha) (rise_nodup hb)).2 h)
theorem last_app (a : List (List UInt8)) (k k' : List UInt8) : ∀ n, n ≤ a.length → lastI (a ++ [k]) k' n = lastI a k' n
  | 0, _ => rfl
  | n + 1, hn => by
    rw [lastI, lastI, last_app a k k' n (by omega)]
    rw [show (a ++ [k]).getD n [] = a.getD n [] by simp [List.getD, List.getElem?_append_left (show n < a.length by omega)]]
theorem last_cons (a : List (List UInt8)) (k k' : List UInt8) : ∀ n, n ≤ a.length → lastI (k :: a) k' (n + 1) = if lastI a k' n < 0 then (if k = k' then 0 else -1) else lastI a k' n + 1
  | 0, _ => by simp [lastI]
  | n + 1, hn => by
    rw [lastI, last_cons a k k' n (by omega), lastI, show (k :: a).getD (n + 1) [] = a.getD n [] from rfl]
    by_cases h : a.getD n [] = k'
    · rw [if_pos h, if_pos h, if_neg (by omega)]; rfl
    · rw [if_neg h, if_neg h]
theorem last_lt (a : List (List UInt8)) (k : List UInt8) : ∀ n, lastI a k n < n
  | 0 => by simp [lastI]
  | n + 1 => by
    have := last_lt a k n
    rw [lastI]; split <;> omega
theorem last_not {a : List (List UInt8)} {k : List UInt8} (h : k ∉ a) : ∀ n, n ≤ a.length → lastI a k n = -1
  | 0, _ => rfl
  | n + 1, hn => by
    rw [lastI, last_not h n (by omega), if_neg]
    intro e
    apply h
    rw [← e, show a.getD n [] = a[n] by simp [show n < a.length by omega]]
    exact List.getElem_mem _
theorem make_turn {a : List (List UInt8)} {b : List V} {k : List UInt8} {x : V} (hu : ∀ k' ∈ a ++ [k], u8 k' = true) (hl : a.length = b.length) (hk : k ∉ a) : makeV (k :: a) (x :: b) = makeV (a ++ [k]) (b ++ [x]) := by
  have hu2 : ∀ k' ∈ k :: a, u8 k' = true := fun k' h => hu k' (by simp at h ⊢; exact h.symm)
  obtain ⟨p1, p2, p3⟩ := make_map (l := b ++ [x]) hu _ (Nat.le_refl _)
  obtain ⟨q1, q2, q3⟩ := make_map (l := x :: b) hu2 _ (Nat.le_refl _)
  have hkeys : (makeL (k :: a) (x :: b) (k :: a).length).1 = (makeL (a ++ [k]) (b ++ [x]) (a ++ [k]).length).1 :=
    rise_ext (rising_iff.1 q1).2 (rising_iff.1 p1).2 fun k' => by rw [make_keys hu2, make_keys hu]; simp [or_comm]
  have hvals : (makeL (k :: a) (x :: b) (k :: a).length).2 = (makeL (a ++ [k]) (b ++ [x]) (a ++ [k]).length).2 := by
    rw [p3, q3, hkeys]
    apply List.map_congr_left
    intro k' hk'
    have hin := (make_keys hu k').1 hk'
    have e1 : mGet k' (msN (k :: a) (k :: a).length) = _ := last_get (k :: a) k' _
    have e2 : mGet k' (msN (a ++ [k]) (a ++ [k]).length) = _ := last_get (a ++ [k]) k' _
    rw [List.length_cons, last_cons a k k' _ (Nat.le_refl _)] at e1
    rw [List.length_append, List.length_singleton, lastI, last_app a k k' _ (Nat.le_refl _), show (a ++ [k]).getD a.length [] = k by simp [List.getD]] at e2
    rw [plK, plK, List.length_cons, e1, List.length_append, List.length_singleton, e2]
    by_cases h : k = k'
    · subst h
      rw [last_not hk _ (Nat.le_refl _)]
      have hb : ¬ ((b.length : Int) < 0) := by omega
      simp [hl, List.getD, hb]
    · have hlt := last_lt a k' a.length
      rw [if_neg h]
      by_cases h2 : lastI a k' a.length < 0
      · exfalso
        have hm : k' ∈ a := by simpa [Ne.symm h] using hin
        have hs := (get_some k' (msN a a.length)).2 ((ms_mem a k' _ (Nat.le_refl _)).2 (by rw [List.take_length]; exact hm))
        rw [last_get, if_pos h2] at hs; cases hs
      · rw [if_neg h2, if_neg h, if_neg (by omega), if_neg h2]
        obtain ⟨m, hm⟩ : ∃ m : Nat, lastI a k' a.length = m := ⟨(lastI a k' a.length).toNat, by omega⟩
        rw [hm] at hlt ⊢
        have : m < b.length := by omega
        simp only [Option.getD_some, Int.toNat_natCast, show ((m : Int) + 1).toNat = m + 1 by omega]
        simp [List.getD, List.getElem?_append_left this]
  rw [makeV, makeV, hkeys, hvals]
end Go.Gk.Val
end

section
/-
  The library's slices.Sort on an owned slice of strings.
-/
namespace Go.Gk
open Go Go.Proofs Go.RowKit Go.Shelf

theorem Ok.grown {hs : List PHeap} {W : World} (x : Ok hs W) (os : Array Obj) : Ok hs (Sort.grow W os) :=
  ⟨x.1, fun h hh b o e => by
    have h1 := x.2 h hh b o e
    show (W.heap ++ os)[b]? = some o
    obtain ⟨hlt, _⟩ := Array.getElem?_eq_some_iff.1 h1
    rw [Array.getElem?_append_left hlt]; exact h1⟩
theorem Ok.rowed {hs : List PHeap} {W : World} {b : Nat} {T : TypeId} {l : List Value} {f : Array Value → Array Value} (x : Ok (bx b T l :: hs) W) : Ok (bx b T (f l.toArray).toList :: hs) (Sort.mapBlock W b f) := by
  have hb := x.head b _ (sg_self _ _)
  refine x.write _ ?_
  show W.heap.modify b (Sort.onCells f) = W.heap.setIfInBounds b (.cells (f l.toArray).toList.toArray T (0, 0))
  apply Array.ext_getElem?
  intro i
  rw [Array.getElem?_modify, Array.getElem?_setIfInBounds]
  obtain ⟨hg, hv⟩ := Array.getElem?_eq_some_iff.1 hb
  by_cases e : b = i
  · subst e; simp [hg, hv, Sort.onCells]
  · simp [e]
theorem row_str {d : PHeap} {ks : List (List UInt8)} (h : ∀ k ∈ ks, k.length ≤ 140737488355328) : ∀ i (hi : i < ks.length), RStr d (chunk (ks.map strV) i 1) ks[i] := fun i hi => by
  refine ⟨?_, h _ (List.getElem_mem hi)⟩
  simp only [chunk, Nat.mul_one]
  rw [List.drop_eq_getElem_cons (by simpa using hi)]
  simp
def SortStrOk (P : Program) (f : FuncId) : Prop := ∀ {d : PHeap} {a : Option Addr} {c : Nat} {ks : List (List UInt8)} {h : PHeap}, GRow 1 RStr emp (.slice a ks.length c) ks h →
  GCall P f [.slice a ks.length c] d [h] (Ret fun r d' L' => d' = d ∧ r = .tuple #[] ∧ ∃ h', L' = [h'] ∧ GRow 1 RStr emp (.slice a ks.length c) (ks.mergeSort fun x y => decide (x ≤ y)) h')
theorem sortStr_ok {P : Program} {ρ : Ren} (Ly : Lays.n190 P ρ) (hc : Callable P (ρ.f 190)) : SortStrOk P (ρ.f 190) := by
  intro d a c ks h hg
  obtain ⟨cs, ⟨hl, hn, ho⟩, hel⟩ := hg
  have hcs : cs = ks.map strV := by
    rw [Nat.mul_one] at hl
    apply List.ext_getElem
    · simpa using hl
    · intro i h1 h2
      have h3 : i < ks.length := by simpa using h2
      have := (hel i h3).1
      simp only [chunk, Nat.mul_one] at this
      rw [List.drop_eq_getElem_cons h1, List.take_succ_cons, List.take_zero] at this
      rw [List.getElem_map]
      exact (List.cons.inj this).1
  subst hcs
  have hlen : ∀ k ∈ ks, k.length ≤ 140737488355328 := fun k hk => by
    obtain ⟨i, hi, rfl⟩ := List.getElem_of_mem hk
    exact (hel i hi).2
  have hperm := List.mergeSort_perm ks (fun x y => decide (x ≤ y))
  have hsl : (ks.mergeSort fun x y => decide (x ≤ y)).length = ks.length := hperm.length_eq
  have hlen' : ∀ k ∈ (ks.mergeSort fun x y => decide (x ≤ y)), k.length ≤ 140737488355328 := fun k hk => hlen k (hperm.mem_iff.1 hk)
  refine ⟨hc, fun F W hOk => ?_⟩
  rcases ho with ⟨hv, h0, rfl⟩ | ⟨b, T, l, c', hv, rfl, h1, h2, h3, h4⟩
  · simp only [Value.slice.injEq] at hv
    obtain ⟨rfl, _, rfl⟩ := hv
    have hnil : ks = [] := List.length_eq_zero_iff.1 h0
    subst hnil
    refine (Any.slices_Sort_string_none Ly none 0 W).mono ?_
    rintro e W' ⟨rfl, rfl⟩
    refine ⟨d, [emp], hOk, Le.refl d, Keep.refl _, rfl, rfl, emp, rfl, ?_⟩
    exact ⟨[], ⟨by simp, by simp, .inl ⟨rfl, by simp, rfl⟩⟩, fun i hi => by simp at hi⟩
  · simp only [Value.slice.injEq] at hv
    obtain ⟨rfl, _, rfl⟩ := hv
    rw [List.length_map] at h4
    have y : Ok (bx b T l :: d :: F) W := hOk.perm (List.Perm.swap _ _ _)
    have hb := y.head b _ (sg_self _ _)
    have hlt := (Array.getElem?_eq_some_iff.1 hb).1
    have hle : ks.length ≤ l.length := by omega
    have hget : ∀ j (hj : j < ks.length), l[j]? = some (strV ks[j]) := fun j hj => by
      have := congrArg (·[j]?) h4
      simp only [List.getElem?_map, List.getElem?_eq_getElem hj, Option.map_some] at this
      rw [List.getElem?_take_of_lt hj] at this
      exact this
    have hH : Sort.Holds encStr W b 0 ks.toArray := fun j hj => by
      have hj' : j < ks.length := by simpa using hj
      refine ⟨?_, ?_⟩
      · have := hget j hj'
        simp only [World.cell?, hb, Nat.zero_add]
        rw [getElem!_pos _ j hj]
        simpa [encStr, strV] using this
      · simp [World.frozen?, hb]
    refine (Any.slices_Sort_string Ly b 0 c ks W hH hlt (by omega)).mono ?_
    rintro e W' ⟨rfl, n, os, rfl⟩
    generalize hss : (ks.mergeSort fun x y => decide (x ≤ y)) = ss at *
    refine ⟨d, [bx b T (Sort.putCells encStr 0 ss.toArray l.toArray).toList], ?_, Le.refl d, ?_, rfl, rfl, _, rfl, ?_⟩
    · have z : Ok (bx b T l :: d :: F) (Sort.ahead W n) := y.same rfl
      have z2 := (z.rowed (f := Sort.putCells encStr 0 ss.toArray)).grown os
      exact z2.perm (List.Perm.swap _ _ _)
    · refine ⟨rfl, rfl, rfl, ?_⟩
      show W.heap.size ≤ ((W.heap.modify b _) ++ os).size
      simp
    · have hpl : (Sort.putCells encStr 0 ss.toArray l.toArray).toList.length = l.length := by simp [Sort.putCells]
      refine ⟨ss.map strV, ⟨by simp, by omega, .inr ⟨b, T, _, c, by rw [hsl], rfl, by omega, h2, by rw [hpl]; exact h3, ?_⟩⟩, row_str hlen'⟩
      apply List.ext_getElem?
      intro j
      by_cases hj : j < ss.length
      · rw [List.length_map, List.getElem?_take_of_lt hj]
        have hjl : j < l.length := by omega
        simp [Sort.putCells, hj, hjl, encStr, strV]
      · rw [List.getElem?_eq_none (by simp; omega), List.getElem?_eq_none (by simp; omega)]
end Go.Gk
end
