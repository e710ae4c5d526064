/-
  Our own texts, one behind the other: GkV9 GkVArg0 GkN1 GkN2 GkN3 GkU3 GkS0 GkP0 GkO0 Gk18 Gk23 GkO1 GkO2 GkO3 GkO4.
-/
import Derived.Lib.ItoaMem
import Derived.Shelf.Strconv.Itoa0
import Derived.Shelf.Strconv.Itoa1
import Derived.Shelf.Strconv.Itoa2
import Derived.Lib.ItoaLen
import Derived.Lib.RuneCountTail
import Derived.Lib.QuoteLoop
import Derived.Lib.MapLaws
import Derived.Lib.ValidLaws
import Derived.Test.YtjhoaohpfbgfpaaDoorPkD
section
namespace Go.Gk.Val
open Go Go.Gk
attribute [local irreducible] gwp gws

mutual
def cntV : V → Nat
  | .mk _ _ _ _ l ks => 1 + ks.length + cnts l
def cnts : List V → Nat
  | [] => 0
  | x :: l => cntV x + cnts l
end
theorem cntV_eq (v : V) : cntV v = 1 + v.keys.length + cnts v.list := by obtain ⟨k, m, e, t, l, ks⟩ := v; rfl
theorem cnts_mem {x : V} : ∀ {l : List V}, x ∈ l → cntV x ≤ cnts l
  | y :: l, h => by
    rcases List.mem_cons.1 h with rfl | h
    · simp only [cnts]; omega
    · have := cnts_mem h; simp only [cnts]; omega
theorem cnts_len : ∀ l : List V, l.length ≤ cnts l
  | [] => Nat.le_refl _
  | x :: l => by
    have h1 := cntV_eq x
    have h2 := cnts_len l
    simp only [cnts, List.length_cons]; omega
theorem klens_len : ∀ l : List (List UInt8), l.length ≤ klens l
  | [] => Nat.le_refl _
  | x :: l => by
    have := klens_len l
    simp only [klens, List.length_cons]; omega
theorem cnts_bulk : ∀ {l : List V}, (∀ x ∈ l, cntV x ≤ bulkV x) → cnts l ≤ bulks l
  | [], _ => Nat.le_refl _
  | x :: l, h => by
    have h1 := h x (List.mem_cons_self ..)
    have h2 := cnts_bulk (l := l) (fun y hy => h y (List.mem_cons_of_mem _ hy))
    simp only [cnts, bulks]; omega
theorem cnt_bulk (v : V) : cntV v ≤ bulkV v := by
  induction v using V.ind with
  | h v ih =>
    have h1 := bulkV_eq v
    have h2 := cntV_eq v
    have h3 := klens_len v.keys
    have h4 := cnts_bulk ih
    omega
theorem cnt_list {v : V} : v.list.length ≤ cntV v := by
  have h1 := cntV_eq v
  have h2 := cnts_len v.list
  omega
theorem cnt_keys {v : V} : v.keys.length ≤ cntV v := by
  have h1 := cntV_eq v
  omega
theorem cnt_mem {v x : V} (h : x ∈ v.list) : cntV x ≤ cntV v := by
  have h1 := cntV_eq v
  have h2 := cnts_mem h
  omega

mutual
def txtV : V → Nat
  | .mk _ _ _ t l ks => 1 + t.length + ks.length + txts l
def txts : List V → Nat
  | [] => 0
  | x :: l => txtV x + txts l
end
theorem txtV_eq (v : V) : txtV v = 1 + v.text.length + v.keys.length + txts v.list := by obtain ⟨k, m, e, t, l, ks⟩ := v; rfl
theorem txts_mem {x : V} : ∀ {l : List V}, x ∈ l → txtV x ≤ txts l
  | y :: l, h => by
    rcases List.mem_cons.1 h with rfl | h
    · simp only [txts]; omega
    · have := txts_mem h; simp only [txts]; omega
theorem cnts_txt : ∀ {l : List V}, (∀ x ∈ l, cntV x ≤ txtV x) → cnts l ≤ txts l
  | [], _ => Nat.le_refl _
  | x :: l, h => by
    have h1 := h x (List.mem_cons_self ..)
    have h2 := cnts_txt (l := l) (fun y hy => h y (List.mem_cons_of_mem _ hy))
    simp only [cnts, txts]; omega
theorem cnt_txt (v : V) : cntV v ≤ txtV v := by
  induction v using V.ind with
  | h v ih =>
    have h1 := txtV_eq v
    have h2 := cntV_eq v
    have h4 := cnts_txt ih
    omega
theorem txts_bulk : ∀ {l : List V}, (∀ x ∈ l, txtV x ≤ bulkV x) → txts l ≤ bulks l
  | [], _ => Nat.le_refl _
  | x :: l, h => by
    have h1 := h x (List.mem_cons_self ..)
    have h2 := txts_bulk (l := l) (fun y hy => h y (List.mem_cons_of_mem _ hy))
    simp only [txts, bulks]; omega
theorem txt_bulk (v : V) : txtV v ≤ bulkV v := by
  induction v using V.ind with
  | h v ih =>
    have h1 := txtV_eq v
    have h2 := bulkV_eq v
    have h3 := klens_len v.keys
    have h4 := txts_bulk ih
    omega
theorem depth_txt (v : V) : depthV v ≤ txtV v := by
  induction v using V.ind with
  | h v ih =>
    have h1 := txtV_eq v
    obtain ⟨n, hn⟩ : ∃ n, txtV v = n + 1 := ⟨txtV v - 1, by omega⟩
    rw [hn, depth_le]
    intro x hx
    have := txts_mem hx
    have := ih x hx
    omega

section
variable {P : Program} {pan : List PanicEntry → Post} {Qn : Env → Post} {Ls L : List PHeap} {ρ : Env} {d : PHeap} {s : GS} {t : Nat} {tk : Bool}
def z6 : List Value := [.int .i64 0, .int .i64 0, .int .i64 0, strV [], .slice none 0 0, .slice none 0 0]
theorem six {cs : List Value} (h : cs.length = 6) : ∃ a0 a1 a2 a3 a4 a5, cs = [a0, a1, a2, a3, a4, a5] := by
  match cs, h with
  | [a, b, c, d, e, f], _ => exact ⟨a, b, c, d, e, f, rfl⟩
theorem w_bsV {x : Operand} {cs : List Value} (ex : ev ρ x = .agg cs.toArray) (hc : cs.length = 6) (h : ∀ b T, gws P pan Qn s Ls (upd ρ t (.slice (some ⟨b, 0, none⟩) 1 1)) d (bx b T cs :: L)) :
    gws P pan Qn (.op false ⟨some t, none, .bsl 1 6 [.int .i64 0, .int .i64 0, .int .i64 0, strV [], .slice none 0 0, .slice none 0 0] [(0, x)]⟩ s) Ls ρ d L := by
  obtain ⟨a0, a1, a2, a3, a4, a5, rfl⟩ := six hc
  refine w_bsl (by omega) ?_ h
  simp [Instr.fill, zrow, List.range, List.range.loop, ex, Value.cells]
end

def RCopyOk (P : Program) (f : FuncId) : Prop := ∀ (v : V) {d : PHeap} {cs : List Value}, RVal d cs v → cntV v ≤ 1000000000 → GCall P f [.agg cs.toArray] d [] (Ret fun r d' L' => L' = [] ∧ ∃ cs', r = .agg cs'.toArray ∧ RVal d' cs' v)
def g_thimbleref03_Copy (f_thimbleref03_Copy : Nat) : GFun :=
 ⟨35, [(.cell 2 (some 6))],
 (.seq
 (.reg false (.op false ⟨(some 1), none, (.box (.tmp 0))⟩
  (.op false ⟨(some 2), none, (.alo (.agg #[(.int .i64 0), (.int .i64 0), (.int .i64 0), (strV []), (.slice none 0 0), (.slice none 0 0)]))⟩ .done)))
 (.seq
 (.reg true (.op true ⟨(some 5), none, (.fld 0 (.tmp 1))⟩
  (.op true ⟨(some 6), none, (.ld none (.tmp 5))⟩
  (.op true ⟨(some 7), none, (.fld 1 (.tmp 1))⟩
  (.op true ⟨(some 8), none, (.ld (some 2) (.tmp 7))⟩
  (.op true ⟨(some 9), none, (.fld 3 (.tmp 1))⟩
  (.op true ⟨(some 10), none, (.ld none (.tmp 9))⟩
  (.op true ⟨(some 12), none, (.fld 5 (.tmp 1))⟩
  (.op true ⟨(some 13), none, (.ld none (.tmp 12))⟩
  (.alt ⟨(some 11), none, (.bsl 0 1 [(strV [])] [])⟩
  (.alt ⟨(some 14), none, (.app 1 16 [(strV [])] (.tmp 11) (.tmp 13))⟩
  (.op true ⟨(some 15), none, (.bld [(0, 1), (1, 2), (3, 1), (4, 1), (5, 1)] [(.int .i64 0), (.int .i64 0), (.int .i64 0), (strV []), (.slice none 0 0), (.slice none 0 0)] [(0, (.tmp 6)), (1, (.tmp 8)), (2, (.tmp 10)), (4, (.tmp 14))])⟩
  (.op false ⟨(some 3), none, (.alo (.agg #[(.int .i64 0), (.int .i64 0), (.int .i64 0), (strV []), (.slice none 0 0), (.slice none 0 0)]))⟩
  (.bar (.op false ⟨none, none, (.st 6 (.tmp 3) (.tmp 15))⟩ .done)))) (.op false ⟨(some 3), none, (.alo (.agg #[(.int .i64 0), (.int .i64 0), (.int .i64 0), (strV []), (.slice none 0 0), (.slice none 0 0)]))⟩
  (.op false ⟨(some 14), none, (.app 1 16 [(strV [])] (.tmp 11) (.tmp 13))⟩
  (.op true ⟨(some 15), none, (.bld [(0, 1), (1, 2), (3, 1), (4, 1), (5, 1)] [(.int .i64 0), (.int .i64 0), (.int .i64 0), (strV []), (.slice none 0 0), (.slice none 0 0)] [(0, (.tmp 6)), (1, (.tmp 8)), (2, (.tmp 10)), (4, (.tmp 14))])⟩
  (.bar (.op false ⟨none, none, (.st 6 (.tmp 3) (.tmp 15))⟩ .done)))))) (.op false ⟨(some 3), none, (.alo (.agg #[(.int .i64 0), (.int .i64 0), (.int .i64 0), (strV []), (.slice none 0 0), (.slice none 0 0)]))⟩
  (.op false ⟨(some 11), none, (.bsl 0 1 [(strV [])] [])⟩
  (.op false ⟨(some 14), none, (.app 1 16 [(strV [])] (.tmp 11) (.tmp 13))⟩
  (.op true ⟨(some 15), none, (.bld [(0, 1), (1, 2), (3, 1), (4, 1), (5, 1)] [(.int .i64 0), (.int .i64 0), (.int .i64 0), (strV []), (.slice none 0 0), (.slice none 0 0)] [(0, (.tmp 6)), (1, (.tmp 8)), (2, (.tmp 10)), (4, (.tmp 14))])⟩
  (.bar (.op false ⟨none, none, (.st 6 (.tmp 3) (.tmp 15))⟩ .done))))))))))))))))
 (.seq (.seq
 (.reg false (.op false ⟨(some 4), none, (.mv (.const (.int .i64 0)))⟩ .done)) (.block 0 (.loop
 (.seq (.seq
 (.reg false (.op false ⟨(some 16), none, (.mv (.tmp 4))⟩
  (.op false ⟨(some 17), none, (.fld 4 (.tmp 1))⟩
  (.op false ⟨(some 18), none, (.ld none (.tmp 17))⟩
  (.op false ⟨(some 19), none, (.len (.tmp 18))⟩
  (.op false ⟨(some 20), none, (.bin .lss (.tmp 16) (.tmp 19))⟩ .done)))))) (.cond (.tmp 20) .skip (.exit 0)))
 (.seq (.block 1
 (.reg true (.op true ⟨(some 23), none, (.fld 4 (.tmp 3))⟩
  (.op true ⟨(some 24), none, (.ld none (.tmp 23))⟩
  (.op true ⟨(some 25), none, (.fld 4 (.tmp 1))⟩
  (.op true ⟨(some 26), none, (.ld none (.tmp 25))⟩
  (.op true ⟨(some 27), none, (.mv (.tmp 4))⟩
  (.op true ⟨(some 28), none, (.idx 6 (.tmp 26) (.tmp 27))⟩
  (.op true ⟨(some 29), none, (.ld (some 6) (.tmp 28))⟩
  (.op false ⟨(some 30), none, (.call f_thimbleref03_Copy [(.tmp 29)])⟩
  (.op false ⟨(some 31), none, (.bsl 1 6 [(.int .i64 0), (.int .i64 0), (.int .i64 0), (strV []), (.slice none 0 0), (.slice none 0 0)] [(0, (.tmp 30))])⟩
  (.op false ⟨(some 32), none, (.app 6 88 [(.int .i64 0), (.int .i64 0), (.int .i64 0), (strV []), (.slice none 0 0), (.slice none 0 0)] (.tmp 24) (.tmp 31))⟩
  (.op true ⟨(some 33), none, (.fld 4 (.tmp 3))⟩
  (.bar (.op false ⟨none, none, (.st 1 (.tmp 33) (.tmp 32))⟩ .done)))))))))))))))
 (.reg false (.op false ⟨(some 21), none, (.mv (.tmp 4))⟩
  (.op false ⟨(some 22), none, (.bin .add (.tmp 21) (.const (.int .i64 1)))⟩
  (.op false ⟨(some 4), none, (.mv (.tmp 22))⟩ .done)))))))))
 (.seq
 (.reg false (.op false ⟨(some 34), none, (.ld (some 6) (.tmp 3))⟩
  (.op false ⟨none, none, (.st 6 (.tmp 2) (.tmp 34))⟩ .done))) .ret))))⟩

set_option maxHeartbeats 1000000 in
theorem rcopy_ok {P : Program} {f : FuncId} (hd : dec P f = some (g_thimbleref03_Copy f)) : RCopyOk P f := by
  intro v
  induction v using V.ind with
  | h v ih =>
  intro d cs hv hb
  refine GCall_of hd (Nat.le_of_ble_eq_true rfl) ?_
  have hb1 := cnt_list (v := v)
  have hb2 := cnt_keys (v := v)
  obtain ⟨lv, kv, rfl, ik, im, ie, it, hl, hks⟩ := hv.open
  obtain ⟨la, lc, rfl⟩ := RSl.val hl
  obtain ⟨ka, kc, rfl⟩ := RSl.val hks
  show gwp P _ _ _ _ _
  apply w_sq; apply w_reg
  refine w_boxa (l := [.int .i64 v.kind, .int .i64 v.m, .int .i64 v.e, strV v.text, .slice la v.list.length lc, .slice ka v.keys.length kc]) rfl (fun b1 T1 => ?_)
  refine w_frz (fun d1 hl1 hg1 => ?_)
  have hc1 : DCs d1 b1 0 [.int .i64 v.kind, .int .i64 v.m, .int .i64 v.e, strV v.text, .slice la v.list.length lc, .slice ka v.keys.length kc] := dcs_bx hg1
  have hl' : RSl 6 RVal d1 (.slice la v.list.length lc) v.list := RVals.mono hl hl1
  have hks' : RSl 1 RStr d1 (.slice ka v.keys.length kc) v.keys := RStrs.mono hks hl1
  (apply w_alo; intro _ _; apply w_done0)
  rename_i b2 T2
  refine w_mid (fun ρ d' L' => Le d1 d' ∧ ∃ b3 T3 kv, SlotsAre ρ [(1, .pointer (some ⟨b1, 0, none⟩)), (2, .pointer (some ⟨b2, 0, none⟩)), (3, .pointer (some ⟨b3, 0, none⟩))] ∧ RStrs d' kv v.keys ∧
    L' = [bx b2 T2 [.int .i64 0, .int .i64 0, .int .i64 0, strV [], .slice none 0 0, .slice none 0 0], bx b3 T3 [.int .i64 v.kind, .int .i64 v.m, .int .i64 v.e, strV v.text, .slice none 0 0, kv]]) ?_ ?_
  · refine w_drawn ?_
    (apply w_fld; rfl; apply w_ld; rfl; exact hc_ds (by assumption) rfl; apply w_fld; rfl; apply w_lddp; rfl; assumption; rfl; apply w_fld; rfl; apply w_ld; rfl; exact hc_ds (by assumption) rfl; apply w_fld; rfl; apply w_ld; rfl; exact hc_ds (by assumption) rfl)
    refine w_alt ?_ ?_
    · refine w_bsl (cs := []) (by omega) rfl (fun b11 T11 => ?_)
      refine w_alt ?_ ?_
      · refine w_appG (R := RStr) 0 rfl rfl (GRow.lit0 (R := RStr) (sz := 1)) rfl (RSl.src (R := RStr) (xs := v.keys) hks' cell1_str (by omega) _) (by omega) (by simp; omega) (by simp; omega) (fun v14 h14 o14 => ?_)
        have o14 : GRow 1 RStr d1 v14 v.keys h14 := o14
        obtain ⟨ka', kc', rfl⟩ := o14.val
        (apply w_bvC; rfl; rfl; rfl; rfl; apply w_alo; intro _ _; apply w_bar)
        rename_i b3 T3
        refine w_stE 1 [.int .i64 v.kind, .int .i64 v.m, .int .i64 v.e, strV v.text, .slice none 0 0, .slice ka' v.keys.length kc'] rfl rfl rfl rfl (Nat.le_of_ble_eq_true rfl) rfl rfl ?_
        exact w_doneE ⟨_, _, (Vs.pick [2, 0, 1] rfl).trans Vs.freeze, Le.join_left _ _, b3, T3, _, ⟨rfl, rfl, rfl, trivial⟩, o14.rsl mono_str (by omega) (Le.join_left _ _) (Le.join_right _ _), rfl⟩
      · (apply w_alo; intro _ _)
        rename_i b3 T3
        refine w_appG (R := RStr) 1 rfl rfl (GRow.lit0 (R := RStr) (sz := 1)) rfl (RSl.src (R := RStr) (xs := v.keys) hks' cell1_str (by omega) _) (by omega) (by simp; omega) (by simp; omega) (fun v14 h14 o14 => ?_)
        have o14 : GRow 1 RStr d1 v14 v.keys h14 := o14
        obtain ⟨ka', kc', rfl⟩ := o14.val
        (apply w_bvC; rfl; rfl; rfl; rfl; apply w_bar)
        refine w_stE 1 [.int .i64 v.kind, .int .i64 v.m, .int .i64 v.e, strV v.text, .slice none 0 0, .slice ka' v.keys.length kc'] rfl rfl rfl rfl (Nat.le_of_ble_eq_true rfl) rfl rfl ?_
        exact w_doneE ⟨_, _, (Vs.pick [2, 0, 1] rfl).trans Vs.freeze, Le.join_left _ _, b3, T3, _, ⟨rfl, rfl, rfl, trivial⟩, o14.rsl mono_str (by omega) (Le.join_left _ _) (Le.join_right _ _), rfl⟩
    · (apply w_alo; intro _ _)
      rename_i b3 T3
      refine w_bsl (cs := []) (by omega) rfl (fun b11 T11 => ?_)
      refine w_appG (R := RStr) 0 rfl rfl (GRow.lit0 (R := RStr) (sz := 1)) rfl (RSl.src (R := RStr) (xs := v.keys) hks' cell1_str (by omega) _) (by omega) (by simp; omega) (by simp; omega) (fun v14 h14 o14 => ?_)
      have o14 : GRow 1 RStr d1 v14 v.keys h14 := o14
      obtain ⟨ka', kc', rfl⟩ := o14.val
      (apply w_bvC; rfl; rfl; rfl; rfl; apply w_bar)
      refine w_stE 2 [.int .i64 v.kind, .int .i64 v.m, .int .i64 v.e, strV v.text, .slice none 0 0, .slice ka' v.keys.length kc'] rfl rfl rfl rfl (Nat.le_of_ble_eq_true rfl) rfl rfl ?_
      exact w_doneE ⟨_, _, (Vs.pick [1, 0, 2] rfl).trans Vs.freeze, Le.join_left _ _, b3, T3, _, ⟨rfl, rfl, rfl, trivial⟩, o14.rsl mono_str (by omega) (Le.join_left _ _) (Le.join_right _ _), rfl⟩
  rintro ρ d2 L' ⟨hl2, b3, T3, kv, hsl, hkv, hL⟩
  subst hL
  obtain ⟨ka', kc', rfl⟩ := RSl.val hkv
  refine gwp_slots _ hsl ?_
  clear hsl
  apply w_sq; apply w_sq; apply w_reg
  refine w_vs d2 [bx b2 T2 [.int .i64 0, .int .i64 0, .int .i64 0, strV [], .slice none 0 0, .slice none 0 0], bx b3 T3 [.int .i64 v.kind, .int .i64 v.m, .int .i64 v.e, strV v.text, .slice none 0 0, .slice ka' v.keys.length kc'], emp] (Vs.emp.trans (Vs.pick [1, 2, 0] rfl)) ?_
  (apply w_mvi; rfl; apply w_done0; apply w_block)
  refine w_loopS (α := Nat) (fun i => [(1, .pointer (some ⟨b1, 0, none⟩)), (2, .pointer (some ⟨b2, 0, none⟩)), (3, .pointer (some ⟨b3, 0, none⟩)), (4, .int .i64 i)])
    (fun i d' L' => Le d2 d' ∧ i ≤ v.list.length ∧ ∃ ra rc h, GRow 6 RVal d' (.slice ra i rc) (v.list.take i) h ∧ L' = [bx b2 T2 [.int .i64 0, .int .i64 0, .int .i64 0, strV [], .slice none 0 0, .slice none 0 0], bx b3 T3 [.int .i64 v.kind, .int .i64 v.m, .int .i64 v.e, strV v.text, .slice ra i rc, .slice ka' v.keys.length kc'], h])
    (fun i => v.list.length - i) 0 ⟨rfl, rfl, rfl, rfl, trivial⟩ ⟨Le.refl _, Nat.zero_le _, none, 0, emp, GRow.nil, rfl⟩ ?_
  rintro i ρ d3 L' ⟨hl3, hi, ra, rc, h, hrow, hL⟩
  subst hL
  have hc3 := hc1.mono (hl2.trans hl3)
  have hl3' : RSl 6 RVal d3 (.slice la v.list.length lc) v.list := RVals.mono hl' (hl2.trans hl3)
  by_cases hc : i < v.list.length
  · (apply w_sq; apply w_sq; apply w_reg; apply w_mvi; rfl; apply w_fld; rfl; apply w_ld; rfl; exact hc_ds (by assumption) rfl; apply w_len; rfl; apply w_lss; rfl; rfl; apply w_done0; refine w_ifdT rfl (by omega) ?_; apply w_skip; apply w_sq; apply w_block)
    refine w_drawnA [bx b2 T2 [.int .i64 0, .int .i64 0, .int .i64 0, strV [], .slice none 0 0, .slice none 0 0], bx b3 T3 [.int .i64 v.kind, .int .i64 v.m, .int .i64 v.e, strV v.text, .slice ra i rc, .slice ka' v.keys.length kc']] [h] rfl ?_
    (apply w_fld; rfl; apply w_ld; rfl; exact hc_i 1 rfl rfl; apply w_fld; rfl; apply w_ld; rfl; exact hc_ds (by assumption) rfl; apply w_mvi; rfl; refine w_idxR (sz := 6) (R := RVal) (by rfl) (by assumption) (by rfl) rfl (by omega) ?_; rintro _ _ _ _ _ _; apply w_ldd; rfl; assumption; assumption)
    rename_i cs hcs hD hR
    refine w_call0 rfl (ih _ (List.getElem_mem hc) hR (by have := cnt_mem (List.getElem_mem hc); omega)) (fun r d4 L4 hl4 ⟨hL, cs', hr, hR'⟩ => ?_)
    subst hL; subst hr
    refine w_bsV rfl hR'.len (fun b31 T31 => ?_)
    have hrow4 : GRow 6 RVal d4 (.slice ra i rc) (v.list.take i) h := GRow.mono (R := RVal) mono_val hrow hl4
    have htl : (v.list.take i).length = i := by simp; omega
    refine w_appL (R := RVal) 0 rfl rfl hrow4 rfl (GRow.lit1 hR'.len hR') cell1_val (by omega) (by simp; omega) (by simp; omega) (fun v5 h5 o5 => ?_)
    rw [← List.take_succ_eq_append_getElem hc] at o5
    obtain ⟨a5, c5, rfl⟩ := o5.val
    have hlt : (v.list.take (i + 1)).length = i + 1 := by simp; omega
    rw [hlt] at o5 ⊢
    (apply w_fld; rfl; apply w_bar)
    refine w_stE 1 [.int .i64 v.kind, .int .i64 v.m, .int .i64 v.e, strV v.text, .slice a5 (i + 1) c5, .slice ka' v.keys.length kc'] rfl rfl rfl rfl (Nat.le_of_ble_eq_true rfl) rfl rfl ?_
    (apply w_done0; apply w_reg; apply w_mvi; rfl; apply w_add; rfl; rfl; omega; omega; apply w_mvi; rfl; apply w_done0)
    exact ⟨i + 1, by omega, ⟨rfl, rfl, rfl, rfl, trivial⟩, hl3.trans hl4, hc, a5, c5, h5, o5, rfl⟩
  · obtain rfl : i = v.list.length := by omega
    (apply w_sq; apply w_sq; apply w_reg; apply w_mvi; rfl; apply w_fld; rfl; apply w_ld; rfl; exact hc_ds (by assumption) rfl; apply w_len; rfl; apply w_lss; rfl; rfl; apply w_done0; refine w_ifdF rfl (by omega) ?_; apply w_exit; apply w_sq; apply w_reg; apply w_ldb 1; rfl; rfl; rfl)
    refine w_stE 0 [.int .i64 v.kind, .int .i64 v.m, .int .i64 v.e, strV v.text, .slice ra v.list.length rc, .slice ka' v.keys.length kc'] rfl rfl rfl rfl (Nat.le_of_ble_eq_true rfl) rfl rfl ?_
    (apply w_done0; apply w_ret)
    refine finF [.agg [.int .i64 v.kind, .int .i64 v.m, .int .i64 v.e, strV v.text, .slice ra v.list.length rc, .slice ka' v.keys.length kc'].toArray] ⟨res_cell 0 rfl rfl rfl, trivial⟩ (fun d' hld hk => ?_)
    refine ⟨rfl, _, rfl, RVal.close ik im ie it ?_ (RStrs.mono hkv (hl3.trans hld))⟩
    have := hrow.rsl (R := RVal) mono_val (by omega) hld (hk h (by simp))
    rwa [List.take_length] at this

def CloneOk {α : Type} (R : PHeap → List Value → α → Prop) (by_ : Nat) (P : Program) (f : FuncId) : Prop := ∀ {d : PHeap} {v : Value} {xs : List α}, RSl 1 R d v xs → xs.length * by_ ≤ 140737488355328 →
  GCall P f [v] d [] (Ret fun r d' L' => d' = d ∧ ∃ h, L' = [h] ∧ GRow 1 R d r xs h)
def g_slices_Clone_string_string : GFun :=
 ⟨8, [(.tmp 2)],
 (.seq
 (.reg false (.op false ⟨(some 2), none, (.mv (.const (.slice none 0 0)))⟩ .done))
 (.seq (.seq
 (.reg false (.op false ⟨(some 3), none, (.mv (.tmp 0))⟩
  (.op false ⟨(some 4), none, (.eqs false (.tmp 3) (.const (.slice none 0 0)))⟩ .done))) (.cond (.tmp 4)
 (.seq
 (.reg false (.op false ⟨(some 2), none, (.mv (.const (.slice none 0 0)))⟩ .done)) .ret) .skip))
 (.seq
 (.reg false (.op false ⟨(some 5), none, (.bsl 0 1 [(strV [])] [])⟩
  (.op false ⟨(some 6), none, (.mv (.tmp 0))⟩
  (.op false ⟨(some 7), none, (.app 1 16 [(strV [])] (.tmp 5) (.tmp 6))⟩
  (.op false ⟨(some 2), none, (.mv (.tmp 7))⟩ .done))))) .ret)))⟩

theorem clone_str {P : Program} {f : FuncId} (hd : dec P f = some g_slices_Clone_string_string) : CloneOk RStr 16 P f := by
  intro d v xs hv hb
  have hv' := hv
  have hxl := RSl.len_le hv
  obtain ⟨a, c, b, o, rfl, h2, h3, h4, h5, _⟩ := hv
  refine GCall_of hd (Nat.le_of_ble_eq_true rfl) ?_
  show gwp P _ _ _ _ _
  cases a with
  | none =>
    have : xs = [] := List.eq_nil_of_length_eq_zero (by have := h4 rfl; omega)
    subst this
    apply w_sq; apply w_reg
    refine w_vs d [emp] Vs.emp ?_
    (apply w_mvs; rfl; apply w_done0; apply w_sq; apply w_sq; apply w_reg; apply w_mvs; rfl; apply w_eqsN; rfl; rfl; apply w_done0; apply w_ifT; rfl; apply w_sq; apply w_reg; apply w_mvs; rfl; apply w_done0; apply w_ret)
    exact fin1 (L' := [emp]) rfl (List.Sublist.refl _) ⟨rfl, emp, rfl, GRow.nil⟩
  | some a =>
    (apply w_sq; apply w_reg; apply w_mvs; rfl; apply w_done0; apply w_sq; apply w_sq; apply w_reg; apply w_mvs; rfl; apply w_eqsS; rfl; rfl; apply w_done0; apply w_ifF; rfl; apply w_skip; apply w_sq; apply w_reg)
    refine w_bsl (cs := []) (by omega) rfl (fun b8 T8 => ?_)
    (apply w_mvs; rfl)
    refine w_appG 0 rfl rfl (GRow.lit0 (R := RStr) (sz := 1)) rfl (RSl.src (R := RStr) (xs := xs) hv' cell1_str (by omega) _) (by omega) (by simp; omega) (by simp; omega) (fun v5 h5 hrow5 => ?_)
    (apply w_mv; apply w_done0; apply w_ret)
    exact fin1 (L' := [h5]) rfl (List.Sublist.refl _) ⟨rfl, h5, rfl, hrow5⟩
theorem OVal.cells {cs : List Value} {v : V} {h : PHeap} (o : OVal cs v h) : cs.length = 6 ∧ (cs.all (·.oneCell')) = true :=
  ⟨(o.rval (Le.refl h)).len, cell1_val _ _ _ (o.rval (Le.refl h))⟩
def OParts (v : V) (cs : List Value) (L : List PHeap) : Prop := ∃ lv kv hk hl ccs hs, cs = [.int .i64 v.kind, .int .i64 v.m, .int .i64 v.e, strV v.text, lv, kv] ∧ GRow 1 RStr emp kv v.keys hk ∧ ORow 6 lv v.list.length ccs hl ∧ hs.length = v.list.length ∧
  (∀ i (h : i < v.list.length), OVal (chunk ccs i 6) v.list[i] (hs.getD i emp)) ∧ L = hk :: hl :: hs
def VCopyOk (P : Program) (f : FuncId) : Prop := ∀ (v : V) {d : PHeap} {cs : List Value}, RVal d cs v → cntV v ≤ 1000000000 → GCall P f [.agg cs.toArray] d [] (Ret fun r d' L' => d' = d ∧ ∃ cs' h, r = .agg cs'.toArray ∧ L' = [h] ∧ OVal cs' v h)
theorem vcopy_pack {P : Program} {f : FuncId} {v : V} {d : PHeap} {cs : List Value} (hv : RVal d cs v) (h : GCall P f [.agg cs.toArray] d [] (Ret fun r d' L' => d' = d ∧ ∃ cs', r = .agg cs'.toArray ∧ OParts v cs' L')) :
    GCall P f [.agg cs.toArray] d [] (Ret fun r d' L' => d' = d ∧ ∃ cs' h, r = .agg cs'.toArray ∧ L' = [h] ∧ OVal cs' v h) := by
  refine (Ok.disj h).monoV (fun e d' L' _ r => ?_)
  cases e with
  | panicked c => exact r.elim
  | outgrown => exact r.elim
  | returned u =>
    obtain ⟨⟨hdd, cs', hr, lv, kv, hk, hl, ccs, hs, hcs, gk, gl, hsl, el, hL⟩, hp⟩ := r
    subst hL
    obtain ⟨k, m, e, t, l, ks⟩ := v
    obtain ⟨_, _, _, ik, im, ie, it, _, _⟩ := hv.open
    exact ⟨d', _, Vs.pack _, hdd, cs', _, hr, rfl, by rw [hcs]; exact OVal.mk ik im ie it gk gl hsl el (List.pairwise_cons.1 hp).2⟩
def g_value_Copy (f_slices_Clone_string_string f_value_Copy : Nat) : GFun :=
 ⟨32, [(.cell 2 (some 6))],
 (.seq
 (.reg false (.op false ⟨(some 1), none, (.box (.tmp 0))⟩
  (.op false ⟨(some 2), none, (.alo (.agg #[(.int .i64 0), (.int .i64 0), (.int .i64 0), (strV []), (.slice none 0 0), (.slice none 0 0)]))⟩ .done)))
 (.seq
 (.reg true (.op true ⟨(some 6), none, (.fld 0 (.tmp 1))⟩
  (.op true ⟨(some 7), none, (.ld none (.tmp 6))⟩
  (.op true ⟨(some 8), none, (.fld 1 (.tmp 1))⟩
  (.op true ⟨(some 9), none, (.ld (some 2) (.tmp 8))⟩
  (.op true ⟨(some 10), none, (.fld 3 (.tmp 1))⟩
  (.op true ⟨(some 11), none, (.ld none (.tmp 10))⟩
  (.op true ⟨(some 12), none, (.fld 5 (.tmp 1))⟩
  (.op true ⟨(some 13), none, (.ld none (.tmp 12))⟩
  (.alt ⟨(some 14), none, (.call f_slices_Clone_string_string [(.tmp 13)])⟩
  (.op true ⟨(some 15), none, (.bld [(0, 1), (1, 2), (3, 1), (4, 1), (5, 1)] [(.int .i64 0), (.int .i64 0), (.int .i64 0), (strV []), (.slice none 0 0), (.slice none 0 0)] [(0, (.tmp 7)), (1, (.tmp 9)), (2, (.tmp 11)), (4, (.tmp 14))])⟩
  (.op false ⟨(some 3), none, (.alo (.agg #[(.int .i64 0), (.int .i64 0), (.int .i64 0), (strV []), (.slice none 0 0), (.slice none 0 0)]))⟩
  (.bar (.op false ⟨none, none, (.st 6 (.tmp 3) (.tmp 15))⟩ .done)))) (.op false ⟨(some 3), none, (.alo (.agg #[(.int .i64 0), (.int .i64 0), (.int .i64 0), (strV []), (.slice none 0 0), (.slice none 0 0)]))⟩
  (.op false ⟨(some 14), none, (.call f_slices_Clone_string_string [(.tmp 13)])⟩
  (.op true ⟨(some 15), none, (.bld [(0, 1), (1, 2), (3, 1), (4, 1), (5, 1)] [(.int .i64 0), (.int .i64 0), (.int .i64 0), (strV []), (.slice none 0 0), (.slice none 0 0)] [(0, (.tmp 7)), (1, (.tmp 9)), (2, (.tmp 11)), (4, (.tmp 14))])⟩
  (.bar (.op false ⟨none, none, (.st 6 (.tmp 3) (.tmp 15))⟩ .done)))))))))))))))
 (.seq (.seq
 (.reg false (.op false ⟨(some 16), none, (.fld 4 (.tmp 1))⟩
  (.op false ⟨(some 17), none, (.ld none (.tmp 16))⟩
  (.op false ⟨(some 18), none, (.len (.tmp 17))⟩
  (.op false ⟨(some 19), none, (.mv (.const (.int .i64 0)))⟩ .done))))) (.block 0 (.loop
 (.seq
 (.reg false (.op false ⟨(some 20), none, (.bin .lss (.tmp 19) (.tmp 18))⟩ .done))
 (.seq (.cond (.tmp 20) .skip (.exit 0))
 (.seq (.block 1
 (.seq
 (.reg false (.op false ⟨(some 21), none, (.idx 6 (.tmp 17) (.tmp 19))⟩
  (.op false ⟨(some 22), none, (.ld (some 6) (.tmp 21))⟩
  (.op false ⟨(some 5), none, (.alo (.agg #[(.int .i64 0), (.int .i64 0), (.int .i64 0), (strV []), (.slice none 0 0), (.slice none 0 0)]))⟩
  (.op false ⟨none, none, (.st 6 (.tmp 5) (.tmp 22))⟩ .done)))))
 (.reg true (.op true ⟨(some 23), none, (.fld 4 (.tmp 3))⟩
  (.op true ⟨(some 24), none, (.ld none (.tmp 23))⟩
  (.op true ⟨(some 25), none, (.ld (some 6) (.tmp 5))⟩
  (.op false ⟨(some 26), none, (.call f_value_Copy [(.tmp 25)])⟩
  (.op false ⟨(some 27), none, (.bsl 1 6 [(.int .i64 0), (.int .i64 0), (.int .i64 0), (strV []), (.slice none 0 0), (.slice none 0 0)] [(0, (.tmp 26))])⟩
  (.op false ⟨(some 28), none, (.app 6 88 [(.int .i64 0), (.int .i64 0), (.int .i64 0), (strV []), (.slice none 0 0), (.slice none 0 0)] (.tmp 24) (.tmp 27))⟩
  (.op true ⟨(some 29), none, (.fld 4 (.tmp 3))⟩
  (.bar (.op false ⟨none, none, (.st 1 (.tmp 29) (.tmp 28))⟩ .done))))))))))))
 (.reg false (.op false ⟨(some 30), none, (.bin .add (.tmp 19) (.const (.int .i64 1)))⟩
  (.op false ⟨(some 19), none, (.mv (.tmp 30))⟩ .done)))))))))
 (.seq
 (.reg false (.op false ⟨(some 31), none, (.ld (some 6) (.tmp 3))⟩
  (.op false ⟨none, none, (.st 6 (.tmp 2) (.tmp 31))⟩ .done))) .ret))))⟩

set_option maxHeartbeats 1000000 in
theorem vcopy_ok {P : Program} {f f1 : FuncId} (hd : dec P f = some (g_value_Copy f1 f)) (h1 : CloneOk RStr 16 P f1) : VCopyOk P f := by
  intro v
  induction v using V.ind with
  | h v ih =>
  intro d cs hv hb
  refine vcopy_pack hv (GCall.forget (Q := fun r L' => ∃ cs', r = .agg cs'.toArray ∧ OParts v cs' L') (GCall_of hd (Nat.le_of_ble_eq_true rfl) ?_))
  have hb1 := cnt_list (v := v)
  have hb2 := cnt_keys (v := v)
  obtain ⟨lv, kv, rfl, ik, im, ie, it, hl, hks⟩ := hv.open
  obtain ⟨la, lc, rfl⟩ := RSl.val hl
  obtain ⟨ka, kc, rfl⟩ := RSl.val hks
  show gwp P _ _ _ _ _
  apply w_sq; apply w_reg
  refine w_boxa (l := [.int .i64 v.kind, .int .i64 v.m, .int .i64 v.e, strV v.text, .slice la v.list.length lc, .slice ka v.keys.length kc]) rfl (fun b1 T1 => ?_)
  refine w_frz (fun d1 hl1 hg1 => ?_)
  have hc1 : DCs d1 b1 0 [.int .i64 v.kind, .int .i64 v.m, .int .i64 v.e, strV v.text, .slice la v.list.length lc, .slice ka v.keys.length kc] := dcs_bx hg1
  have hl' : RSl 6 RVal d1 (.slice la v.list.length lc) v.list := RVals.mono hl hl1
  have hks' : RSl 1 RStr d1 (.slice ka v.keys.length kc) v.keys := RStrs.mono hks hl1
  have n1 := RSl.len_le hl'
  (apply w_alo; intro _ _; apply w_done0)
  rename_i b2 T2
  refine w_mid (fun ρ d' L' => Le d1 d' ∧ ∃ b3 T3 ka' kc' hk, SlotsAre ρ [(1, .pointer (some ⟨b1, 0, none⟩)), (2, .pointer (some ⟨b2, 0, none⟩)), (3, .pointer (some ⟨b3, 0, none⟩))] ∧ GRow 1 RStr emp (.slice ka' v.keys.length kc') v.keys hk ∧
    L' = [bx b2 T2 [.int .i64 0, .int .i64 0, .int .i64 0, strV [], .slice none 0 0, .slice none 0 0], bx b3 T3 [.int .i64 v.kind, .int .i64 v.m, .int .i64 v.e, strV v.text, .slice none 0 0, .slice ka' v.keys.length kc'], hk, emp]) ?_ ?_
  · refine w_drawn ?_
    (apply w_fld; rfl; apply w_ld; rfl; exact hc_ds (by assumption) rfl; apply w_fld; rfl; apply w_lddp; rfl; assumption; rfl; apply w_fld; rfl; apply w_ld; rfl; exact hc_ds (by assumption) rfl; apply w_fld; rfl; apply w_ld; rfl; exact hc_ds (by assumption) rfl)
    refine w_alt ?_ ?_
    · refine w_call0 rfl (h1 hks' (by omega)) (fun r d4 L4 hl4 ⟨hdd, hk, hL, ⟨ccs, g1, g2⟩⟩ => ?_)
      subst hdd; subst hL
      have g : GRow 1 RStr emp r v.keys hk := ⟨ccs, g1, g2⟩
      obtain ⟨ka', kc', rfl⟩ := g.val
      (apply w_bvC; rfl; rfl; rfl; rfl; apply w_alo; intro _ _; apply w_bar)
      rename_i b3 T3
      refine w_stE 1 [.int .i64 v.kind, .int .i64 v.m, .int .i64 v.e, strV v.text, .slice none 0 0, .slice ka' v.keys.length kc'] rfl rfl rfl rfl (Nat.le_of_ble_eq_true rfl) rfl rfl ?_
      exact w_doneE ⟨_, _, Vs.emp.trans (Vs.pick [1, 2, 3, 0] rfl), Le.refl _, b3, T3, _, _, hk, ⟨rfl, rfl, rfl, trivial⟩, g, rfl⟩
    · (apply w_alo; intro _ _)
      rename_i b3 T3
      refine w_call0 rfl (h1 hks' (by omega)) (fun r d4 L4 hl4 ⟨hdd, hk, hL, ⟨ccs, g1, g2⟩⟩ => ?_)
      subst hdd; subst hL
      have g : GRow 1 RStr emp r v.keys hk := ⟨ccs, g1, g2⟩
      obtain ⟨ka', kc', rfl⟩ := g.val
      (apply w_bvC; rfl; rfl; rfl; rfl; apply w_bar)
      refine w_stE 2 [.int .i64 v.kind, .int .i64 v.m, .int .i64 v.e, strV v.text, .slice none 0 0, .slice ka' v.keys.length kc'] rfl rfl rfl rfl (Nat.le_of_ble_eq_true rfl) rfl rfl ?_
      exact w_doneE ⟨_, _, Vs.emp.trans (Vs.pick [1, 3, 2, 0] rfl), Le.refl _, b3, T3, _, _, hk, ⟨rfl, rfl, rfl, trivial⟩, g, rfl⟩
  rintro ρ d2 L' ⟨hl2, b3, T3, ka', kc', hk, hsl, hg, hL⟩
  subst hL
  refine gwp_slots _ hsl ?_
  clear hsl
  have hc2 := hc1.mono hl2
  have hl2' : RSl 6 RVal d2 (.slice la v.list.length lc) v.list := RVals.mono hl' hl2
  (apply w_sq; apply w_sq; apply w_reg; apply w_fld; rfl; apply w_ld; rfl; exact hc_ds (by assumption) rfl; apply w_len; rfl; apply w_mvi; rfl; apply w_done0; apply w_block)
  refine w_loopS (α := Nat) (fun i => [(2, .pointer (some ⟨b2, 0, none⟩)), (3, .pointer (some ⟨b3, 0, none⟩)), (17, .slice la v.list.length lc), (18, .int .i64 v.list.length), (19, .int .i64 i)])
    (fun i d' L' => d' = d2 ∧ i ≤ v.list.length ∧ ∃ ra rc hl ccs hs, ORow 6 (.slice ra i rc) i ccs hl ∧ hs.length = i ∧ (∀ j (hj : j < v.list.length), j < i → OVal (chunk ccs j 6) v.list[j] (hs.getD j emp)) ∧
      L' = bx b2 T2 [.int .i64 0, .int .i64 0, .int .i64 0, strV [], .slice none 0 0, .slice none 0 0] :: bx b3 T3 [.int .i64 v.kind, .int .i64 v.m, .int .i64 v.e, strV v.text, .slice ra i rc, .slice ka' v.keys.length kc'] :: hk :: hl :: hs)
    (fun i => v.list.length - i) 0 ⟨rfl, rfl, rfl, rfl, rfl, trivial⟩ ⟨rfl, Nat.zero_le _, none, 0, emp, [], [], ORow.nil 6, rfl, fun j _ h => absurd h (Nat.not_lt_zero j), rfl⟩ ?_
  rintro i ρ d3 L' ⟨hdd, hi, ra, rc, hl0, ccs, hs, hrow, hhs, hel, hL⟩
  subst hdd; subst hL
  have hl3' : RSl 6 RVal d3 (.slice la v.list.length lc) v.list := hl2'
  by_cases hc : i < v.list.length
  · (apply w_sq; apply w_reg; apply w_lss; rfl; rfl; apply w_done0; apply w_sq; refine w_ifdT rfl (by omega) ?_; apply w_skip; apply w_sq; apply w_block; apply w_sq; apply w_reg; refine w_idxR (sz := 6) (R := RVal) (by rfl) (by assumption) (by rfl) rfl (by omega) ?_; rintro _ _ _ _ _ _; apply w_ldd; rfl; assumption; assumption; apply w_alo; intro _ _)
    rename_i cs hcs hD hR b5 T5
    obtain ⟨c0, c1, c2, c3, c4, c5, rfl⟩ := six hcs
    refine w_stE 0 [c0, c1, c2, c3, c4, c5] rfl rfl rfl rfl (Nat.le_of_ble_eq_true rfl) (cell1_val _ _ _ hR) rfl ?_
    (apply w_done0)
    refine w_drawnA [bx b5 T5 [c0, c1, c2, c3, c4, c5], bx b2 T2 [.int .i64 0, .int .i64 0, .int .i64 0, strV [], .slice none 0 0, .slice none 0 0], bx b3 T3 [.int .i64 v.kind, .int .i64 v.m, .int .i64 v.e, strV v.text, .slice ra i rc, .slice ka' v.keys.length kc'], hk] (hl0 :: hs) rfl ?_
    (apply w_fld; rfl; apply w_ld; rfl; exact hc_i 2 rfl rfl; apply w_ldb 0; rfl; rfl; rfl)
    refine w_call0 rfl (ih _ (List.getElem_mem hc) hR (by have := cnt_mem (List.getElem_mem hc); omega)) (fun r d4 L4 _ ⟨hdd, cs', g, hr, hL, ho⟩ => ?_)
    subst hdd; subst hr; subst hL
    obtain ⟨hc6, hc1'⟩ := ho.cells
    refine w_bsV rfl hc6 (fun b27 T27 => ?_)
    refine w_appLO 1 rfl rfl hrow rfl (by rw [hc6]) hc1' (by omega) (by omega) (by omega) (fun v5 h5 o5 => ?_)
    obtain ⟨a5, _, c5', rfl, _⟩ := o5.slice
    (apply w_fld; rfl; apply w_bar)
    refine w_vs _ (bx b2 T2 [.int .i64 0, .int .i64 0, .int .i64 0, strV [], .slice none 0 0, .slice none 0 0] :: bx b3 T3 [.int .i64 v.kind, .int .i64 v.m, .int .i64 v.e, strV v.text, .slice ra i rc, .slice ka' v.keys.length kc'] :: hk :: h5 :: (hs ++ [g]))
      ((Vs.perm (List.Perm.append_left [bx b5 T5 [c0, c1, c2, c3, c4, c5], bx b2 T2 [.int .i64 0, .int .i64 0, .int .i64 0, strV [], .slice none 0 0, .slice none 0 0], bx b3 T3 [.int .i64 v.kind, .int .i64 v.m, .int .i64 v.e, strV v.text, .slice ra i rc, .slice ka' v.keys.length kc'], hk] ((List.Perm.swap _ _ _).trans ((List.perm_append_singleton g hs).symm.cons _)))).trans (Vs.drop (List.sublist_cons_self _ _))) ?_
    refine w_stE 1 [.int .i64 v.kind, .int .i64 v.m, .int .i64 v.e, strV v.text, .slice a5 (i + 1) c5', .slice ka' v.keys.length kc'] rfl rfl rfl rfl (Nat.le_of_ble_eq_true rfl) rfl rfl ?_
    (apply w_done0; apply w_reg; apply w_add; rfl; rfl; omega; omega; apply w_mvi; rfl; apply w_done0)
    refine ⟨i + 1, by omega, ⟨rfl, rfl, rfl, rfl, int_eq (by omega), trivial⟩, rfl, hc, a5, c5', h5, _, hs ++ [g], o5, by simp [hhs], fun j hj hji => ?_, rfl⟩
    have h6 : ccs.length = i * 6 := hrow.1
    by_cases e : j < i
    · rw [chunk_app_left h6 e, show (hs ++ [g]).getD j emp = hs.getD j emp by simp [List.getD, List.getElem?_append_left (show j < hs.length by omega)]]
      exact hel j hj e
    · obtain rfl : j = i := by omega
      rw [chunk_app_right h6 (Nat.le_refl _), Nat.sub_self, show chunk cs' 0 6 = cs' by simp only [chunk, Nat.zero_mul, List.drop_zero]; exact List.take_of_length_le (by omega), show (hs ++ [g]).getD j emp = g by simp [List.getD, hhs]]
      exact ho
  · obtain rfl : i = v.list.length := by omega
    (apply w_sq; apply w_reg; apply w_lss; rfl; rfl; apply w_done0; apply w_sq; refine w_ifdF rfl (by omega) ?_; apply w_exit; apply w_sq; apply w_reg; apply w_ldb 1; rfl; rfl; rfl)
    refine w_stE 0 [.int .i64 v.kind, .int .i64 v.m, .int .i64 v.e, strV v.text, .slice ra v.list.length rc, .slice ka' v.keys.length kc'] rfl rfl rfl rfl (Nat.le_of_ble_eq_true rfl) rfl rfl ?_
    (apply w_done0; apply w_ret)
    exact finV [.agg [.int .i64 v.kind, .int .i64 v.m, .int .i64 v.e, strV v.text, .slice ra v.list.length rc, .slice ka' v.keys.length kc'].toArray] ⟨res_cell 0 rfl rfl rfl, trivial⟩ (Vs.drop (((List.Sublist.refl _).cons _).cons _)) ⟨_, rfl, _, _, hk, hl0, ccs, hs, rfl, hg, hrow, hhs, fun j hj => hel j hj hj, rfl⟩
end Go.Gk.Val
end

section
namespace Go.Gk.Val
open Go Go.Gk
section
variable {H : Type} {enc : TypeId × Value → H} {P : Program} {W : World}
structure VTy (P : Program) (t tn t6 ti ts tl tk : TypeId) : Prop where
  fs : ∃ fs : Array Field, P.underlying t = some (.struct fs) ∧ (fs[0]?).map (fun f => (f.offset, f.type)) = some (0, ti) ∧ (fs[1]?).map (fun f => (f.offset, f.type)) = some (1, tn) ∧ (fs[2]?).map (fun f => (f.offset, f.type)) = some (3, ts) ∧
    (fs[3]?).map (fun f => (f.offset, f.type)) = some (4, tl) ∧ (fs[4]?).map (fun f => (f.offset, f.type)) = some (5, tk)
  ns : ∃ fs : Array Field, P.underlying tn = some (.struct fs) ∧ (fs[0]?).map (fun f => (f.offset, f.type)) = some (0, t6) ∧ (fs[1]?).map (fun f => (f.offset, f.type)) = some (1, ti)
  c : P.cellsOf t = 6
  cn : P.cellsOf tn = 2
  c6 : P.cellsOf t6 = 1
  ci : P.cellsOf ti = 1
  cs : P.cellsOf ts = 1
  cl : P.cellsOf tl = 1
  ck : P.cellsOf tk = 1
  u6 : P.underlying t6 = some (.int .i64)
  ui : P.underlying ti = some (.int .i64)
  us : P.underlying ts = some .string
  ul : P.underlying tl = some (.slice t)
  uk : P.underlying tk = some (.slice ts)
  b : 1 ≤ P.bytesOf t
  bs : 1 ≤ P.bytesOf ts
theorem rd_num {t t6 ti : TypeId} (hf : ∃ fs : Array Field, P.underlying t = some (.struct fs) ∧ (fs[0]?).map (fun f => (f.offset, f.type)) = some (0, t6) ∧ (fs[1]?).map (fun f => (f.offset, f.type)) = some (1, ti))
    (c : P.cellsOf t = 2) (c6 : P.cellsOf t6 = 1) (ci : P.cellsOf ti = 1) (u6 : P.underlying t6 = some (.int .i64)) (ui : P.underlying ti = some (.int .i64)) :
    Rd enc P W t (fun _ cs (x : Int × Int) => cs = [.int .i64 x.1, .int .i64 x.2] ∧ I64 x.1 ∧ I64 x.2) := by
  intro held fuel cs x h hw
  obtain ⟨fs, hu, f0, f1⟩ := hf
  obtain ⟨hl, hfs⟩ := rd_fields hu h hw
  obtain ⟨m, e0, hm⟩ := hfs 0 0 t6 1 f0 c6 (rd_int u6)
  obtain ⟨e, e1, he⟩ := hfs 1 1 ti 1 f1 ci (rd_int ui)
  obtain ⟨a0, a1, rfl⟩ := list2 (hl.trans c)
  simp only [List.drop, List.take, List.cons.injEq, and_true] at e0 e1
  subst e0; subst e1
  exact ⟨(m, e), rfl, hm, he⟩
theorem rd_val {t tn t6 ti ts tl tk : TypeId} (T : VTy P t tn t6 ti ts tl tk) : Rd enc P W t RVal := by
  intro held fuel
  show RdAt enc P W held fuel t RVal
  induction fuel using Nat.strongRecOn with
  | ind fuel ih =>
  intro cs x h hw
  obtain ⟨fs, hu, f0, f1, f2, f3, f4⟩ := T.fs
  obtain ⟨hl, hfs⟩ := rdAt_fields hu h hw
  obtain ⟨k, e0, hk⟩ := hfs 0 0 ti 1 f0 T.ci (fun n _ => (rd_int T.ui).at)
  obtain ⟨⟨m, e⟩, e1, hm, he⟩ := hfs 1 1 tn 2 f1 T.cn (fun n _ => (rd_num T.ns T.cn T.c6 T.ci T.u6 T.ui).at)
  obtain ⟨s, e2, hs⟩ := hfs 2 3 ts 1 f2 T.cs (fun n _ => (rd_str T.us).at)
  obtain ⟨l, lv, e3, hll⟩ := hfs 3 4 tl 1 f3 T.cl (fun n hn => rdAt_slice T.ul T.c (by omega) T.b (fun k hk => ih k (by omega)))
  obtain ⟨ks, kv, e4, hks⟩ := hfs 4 5 tk 1 f4 T.ck (fun n hn => rdAt_slice T.uk T.cs (by omega) T.bs (fun k hk => (rd_str T.us).at))
  obtain ⟨a0, a1, a2, a3, a4, a5, rfl⟩ := six (hl.trans T.c)
  simp only [List.drop, List.take, List.cons.injEq, and_true] at e0 e1 e2 e3 e4
  obtain ⟨e1, e1'⟩ := e1
  subst e0; subst e1; subst e1'; subst e2; subst e3; subst e4
  exact ⟨.mk k m e s l ks, RVal.close (v := .mk k m e s l ks) hk hm he hs hll hks⟩
end
end Go.Gk.Val
end

section
namespace Go.Gk.Val
open Go Go.Gk Go.Gk.Utf
attribute [local irreducible] gwp gws

def cmpI (a b : Int) : Int := if a < b then -1 else if b < a then 1 else 0
def CmpIOk (P : Program) (f : FuncId) : Prop := ∀ {d : PHeap} {a b : Int}, GPure P f [.int .i64 a, .int .i64 b] d (.int .i64 (cmpI a b))
def g_num_compare : GFun :=
 ⟨13, [(.tmp 4)],
 (.seq
 (.reg false (.op false ⟨(some 4), none, (.mv (.const (.int .i64 0)))⟩ .done))
 (.seq (.block 0
 (.seq
 (.reg false (.op false ⟨(some 6), none, (.mv (.tmp 0))⟩
  (.op false ⟨(some 7), none, (.mv (.tmp 1))⟩
  (.op false ⟨(some 8), none, (.bin .lss (.tmp 6) (.tmp 7))⟩
  (.op false ⟨(some 5), none, (.mv (.tmp 8))⟩ .done))))) (.cond (.tmp 5)
 (.seq
 (.reg false (.op false ⟨(some 4), none, (.mv (.const (.int .i64 (-1))))⟩ .done)) .ret)
 (.seq
 (.reg false (.op false ⟨(some 10), none, (.mv (.tmp 0))⟩
  (.op false ⟨(some 11), none, (.mv (.tmp 1))⟩
  (.op false ⟨(some 12), none, (.bin .gtr (.tmp 10) (.tmp 11))⟩
  (.op false ⟨(some 9), none, (.mv (.tmp 12))⟩ .done))))) (.cond (.tmp 9)
 (.seq
 (.reg false (.op false ⟨(some 4), none, (.mv (.const (.int .i64 1)))⟩ .done)) .ret) .skip)))))
 (.seq
 (.reg false (.op false ⟨(some 4), none, (.mv (.const (.int .i64 0)))⟩ .done)) .ret)))⟩

theorem cmpi_num_compare {P : Program} {f : FuncId} (hd : dec P f = some g_num_compare) : CmpIOk P f := by
  intro d a b
  refine GPure.of' hd (Nat.le_of_ble_eq_true rfl) ?_
  show gwp P _ _ _ _ _
  by_cases h : a < b
  · rw [cmpI, if_pos h]
    (apply w_sq; apply w_reg; apply w_mvi; rfl; apply w_done0; apply w_sq; apply w_block; apply w_sq; apply w_reg; apply w_mvi; rfl; apply w_mvi; rfl; apply w_lss; rfl; rfl; apply w_mvb; rfl; apply w_done0; refine w_ifdT rfl (by omega) ?_; apply w_sq; apply w_reg; apply w_mvi; rfl; apply w_done0; apply w_ret)
    exact finQ rfl
  by_cases h2 : b < a
  · rw [cmpI, if_neg h, if_pos h2]
    (apply w_sq; apply w_reg; apply w_mvi; rfl; apply w_done0; apply w_sq; apply w_block; apply w_sq; apply w_reg; apply w_mvi; rfl; apply w_mvi; rfl; apply w_lss; rfl; rfl; apply w_mvb; rfl; apply w_done0; refine w_ifdF rfl (by omega) ?_; apply w_sq; apply w_reg; apply w_mvi; rfl; apply w_mvi; rfl; apply w_gtr; rfl; rfl; apply w_mvb; rfl; apply w_done0; refine w_ifdT rfl (by omega) ?_; apply w_sq; apply w_reg; apply w_mvi; rfl; apply w_done0; apply w_ret)
    exact finQ rfl
  · rw [cmpI, if_neg h, if_neg h2]
    (apply w_sq; apply w_reg; apply w_mvi; rfl; apply w_done0; apply w_sq; apply w_block; apply w_sq; apply w_reg; apply w_mvi; rfl; apply w_mvi; rfl; apply w_lss; rfl; rfl; apply w_mvb; rfl; apply w_done0; refine w_ifdF rfl (by omega) ?_; apply w_sq; apply w_reg; apply w_mvi; rfl; apply w_mvi; rfl; apply w_gtr; rfl; rfl; apply w_mvb; rfl; apply w_done0; refine w_ifdF rfl (by omega) ?_; apply w_skip; apply w_sq; apply w_reg; apply w_mvi; rfl; apply w_done0; apply w_ret)
    exact finQ rfl
def g_thimbleref04_kinds : GFun :=
 ⟨11, [(.tmp 4)],
 (.seq
 (.reg false (.op false ⟨(some 4), none, (.mv (.const (.int .i64 0)))⟩ .done))
 (.seq (.seq
 (.reg false (.op false ⟨(some 5), none, (.mv (.tmp 0))⟩
  (.op false ⟨(some 6), none, (.mv (.tmp 1))⟩
  (.op false ⟨(some 7), none, (.bin .lss (.tmp 5) (.tmp 6))⟩ .done)))) (.cond (.tmp 7)
 (.seq
 (.reg false (.op false ⟨(some 4), none, (.mv (.const (.int .i64 (-1))))⟩ .done)) .ret) .skip))
 (.seq (.seq
 (.reg false (.op false ⟨(some 8), none, (.mv (.tmp 0))⟩
  (.op false ⟨(some 9), none, (.mv (.tmp 1))⟩
  (.op false ⟨(some 10), none, (.bin .gtr (.tmp 8) (.tmp 9))⟩ .done)))) (.cond (.tmp 10)
 (.seq
 (.reg false (.op false ⟨(some 4), none, (.mv (.const (.int .i64 1)))⟩ .done)) .ret) .skip))
 (.seq
 (.reg false (.op false ⟨(some 4), none, (.mv (.const (.int .i64 0)))⟩ .done)) .ret))))⟩

theorem cmpi_thimbleref04_kinds {P : Program} {f : FuncId} (hd : dec P f = some g_thimbleref04_kinds) : CmpIOk P f := by
  intro d a b
  refine GPure.of' hd (Nat.le_of_ble_eq_true rfl) ?_
  show gwp P _ _ _ _ _
  by_cases h : a < b
  · rw [cmpI, if_pos h]
    (apply w_sq; apply w_reg; apply w_mvi; rfl; apply w_done0; apply w_sq; apply w_sq; apply w_reg; apply w_mvi; rfl; apply w_mvi; rfl; apply w_lss; rfl; rfl; apply w_done0; refine w_ifdT rfl (by omega) ?_; apply w_sq; apply w_reg; apply w_mvi; rfl; apply w_done0; apply w_ret)
    exact finQ rfl
  by_cases h2 : b < a
  · rw [cmpI, if_neg h, if_pos h2]
    (apply w_sq; apply w_reg; apply w_mvi; rfl; apply w_done0; apply w_sq; apply w_sq; apply w_reg; apply w_mvi; rfl; apply w_mvi; rfl; apply w_lss; rfl; rfl; apply w_done0; refine w_ifdF rfl (by omega) ?_; apply w_skip; apply w_sq; apply w_sq; apply w_reg; apply w_mvi; rfl; apply w_mvi; rfl; apply w_gtr; rfl; rfl; apply w_done0; refine w_ifdT rfl (by omega) ?_; apply w_sq; apply w_reg; apply w_mvi; rfl; apply w_done0; apply w_ret)
    exact finQ rfl
  · rw [cmpI, if_neg h, if_neg h2]
    (apply w_sq; apply w_reg; apply w_mvi; rfl; apply w_done0; apply w_sq; apply w_sq; apply w_reg; apply w_mvi; rfl; apply w_mvi; rfl; apply w_lss; rfl; rfl; apply w_done0; refine w_ifdF rfl (by omega) ?_; apply w_skip; apply w_sq; apply w_sq; apply w_reg; apply w_mvi; rfl; apply w_mvi; rfl; apply w_gtr; rfl; rfl; apply w_done0; refine w_ifdF rfl (by omega) ?_; apply w_skip; apply w_sq; apply w_reg; apply w_mvi; rfl; apply w_done0; apply w_ret)
    exact finQ rfl
def NanIOk (P : Program) (f : FuncId) : Prop := ∀ {d : PHeap} {a : Int}, GPure P f [.int .i64 a] d (.bool false)
def g_cmp_isNaN_int : GFun :=
 ⟨6, [(.tmp 2)],
 (.seq
 (.reg false (.op false ⟨(some 2), none, (.mv (.const (.bool false)))⟩ .done))
 (.seq
 (.reg false (.op false ⟨(some 3), none, (.mv (.tmp 0))⟩
  (.op false ⟨(some 4), none, (.mv (.tmp 0))⟩
  (.op false ⟨(some 5), none, (.bin .neq (.tmp 3) (.tmp 4))⟩
  (.op false ⟨(some 2), none, (.mv (.tmp 5))⟩ .done))))) .ret))⟩

theorem nani_ok {P : Program} {f : FuncId} (hd : dec P f = some g_cmp_isNaN_int) : NanIOk P f := by
  intro d a
  refine GPure.of' hd (Nat.le_of_ble_eq_true rfl) ?_
  show gwp P _ _ _ _ _
  (apply w_sq; apply w_reg; apply w_mvb; rfl; apply w_done0; apply w_sq; apply w_reg; apply w_mvi; rfl; apply w_mvi; rfl; apply w_neq; rfl; rfl; apply w_mvb; rfl; apply w_done0; apply w_ret)
  apply finQb; rfl
  simp
def g_cmp_Compare_int (f_cmp_isNaN_int : Nat) : GFun :=
 ⟨20, [(.tmp 4)],
 (.seq
 (.reg false (.op false ⟨(some 4), none, (.mv (.const (.int .i64 0)))⟩ .done))
 (.seq
 (.reg false (.op false ⟨(some 7), none, (.mv (.tmp 0))⟩
  (.op false ⟨(some 8), none, (.call f_cmp_isNaN_int [(.tmp 7)])⟩
  (.op false ⟨(some 5), none, (.mv (.tmp 8))⟩ .done))))
 (.seq
 (.reg false (.op false ⟨(some 9), none, (.mv (.tmp 1))⟩
  (.op false ⟨(some 10), none, (.call f_cmp_isNaN_int [(.tmp 9)])⟩
  (.op false ⟨(some 6), none, (.mv (.tmp 10))⟩ .done))))
 (.seq (.seq
 (.reg false (.op false ⟨(some 11), none, (.mv (.tmp 5))⟩ .done)) (.cond (.tmp 11)
 (.seq (.seq
 (.reg false (.op false ⟨(some 12), none, (.mv (.tmp 6))⟩ .done)) (.cond (.tmp 12)
 (.seq
 (.reg false (.op false ⟨(some 4), none, (.mv (.const (.int .i64 0)))⟩ .done)) .ret) .skip))
 (.seq
 (.reg false (.op false ⟨(some 4), none, (.mv (.const (.int .i64 (-1))))⟩ .done)) .ret)) .skip))
 (.seq (.seq
 (.reg false (.op false ⟨(some 13), none, (.mv (.tmp 6))⟩ .done)) (.cond (.tmp 13)
 (.seq
 (.reg false (.op false ⟨(some 4), none, (.mv (.const (.int .i64 1)))⟩ .done)) .ret) .skip))
 (.seq (.seq
 (.reg false (.op false ⟨(some 14), none, (.mv (.tmp 0))⟩
  (.op false ⟨(some 15), none, (.mv (.tmp 1))⟩
  (.op false ⟨(some 16), none, (.bin .lss (.tmp 14) (.tmp 15))⟩ .done)))) (.cond (.tmp 16)
 (.seq
 (.reg false (.op false ⟨(some 4), none, (.mv (.const (.int .i64 (-1))))⟩ .done)) .ret) .skip))
 (.seq (.seq
 (.reg false (.op false ⟨(some 17), none, (.mv (.tmp 0))⟩
  (.op false ⟨(some 18), none, (.mv (.tmp 1))⟩
  (.op false ⟨(some 19), none, (.bin .gtr (.tmp 17) (.tmp 18))⟩ .done)))) (.cond (.tmp 19)
 (.seq
 (.reg false (.op false ⟨(some 4), none, (.mv (.const (.int .i64 1)))⟩ .done)) .ret) .skip))
 (.seq
 (.reg false (.op false ⟨(some 4), none, (.mv (.const (.int .i64 0)))⟩ .done)) .ret))))))))⟩

theorem cmpint_ok {P : Program} {f f1 : FuncId} (hd : dec P f = some (g_cmp_Compare_int f1)) (h1 : NanIOk P f1) : CmpIOk P f := by
  intro d a b
  refine GPure.of' hd (Nat.le_of_ble_eq_true rfl) ?_
  show gwp P _ _ _ _ _
  (apply w_sq; apply w_reg; apply w_mvi; rfl; apply w_done0; apply w_sq; apply w_reg; apply w_mvi; rfl)
  refine w_pure rfl h1 ?_
  (apply w_mvb; rfl; apply w_done0; apply w_sq; apply w_reg; apply w_mvi; rfl)
  refine w_pure rfl h1 ?_
  by_cases h : a < b
  · rw [cmpI, if_pos h]
    (apply w_mvb; rfl; apply w_done0; apply w_sq; apply w_sq; apply w_reg; apply w_mvb; rfl; apply w_done0; apply w_ifF; rfl; apply w_skip; apply w_sq; apply w_sq; apply w_reg; apply w_mvb; rfl; apply w_done0; apply w_ifF; rfl; apply w_skip; apply w_sq; apply w_sq; apply w_reg; apply w_mvi; rfl; apply w_mvi; rfl; apply w_lss; rfl; rfl; apply w_done0; refine w_ifdT rfl (by omega) ?_; apply w_sq; apply w_reg; apply w_mvi; rfl; apply w_done0; apply w_ret)
    exact finQ rfl
  by_cases h2 : b < a
  · rw [cmpI, if_neg h, if_pos h2]
    (apply w_mvb; rfl; apply w_done0; apply w_sq; apply w_sq; apply w_reg; apply w_mvb; rfl; apply w_done0; apply w_ifF; rfl; apply w_skip; apply w_sq; apply w_sq; apply w_reg; apply w_mvb; rfl; apply w_done0; apply w_ifF; rfl; apply w_skip; apply w_sq; apply w_sq; apply w_reg; apply w_mvi; rfl; apply w_mvi; rfl; apply w_lss; rfl; rfl; apply w_done0; refine w_ifdF rfl (by omega) ?_; apply w_skip; apply w_sq; apply w_sq; apply w_reg; apply w_mvi; rfl; apply w_mvi; rfl; apply w_gtr; rfl; rfl; apply w_done0; refine w_ifdT rfl (by omega) ?_; apply w_sq; apply w_reg; apply w_mvi; rfl; apply w_done0; apply w_ret)
    exact finQ rfl
  · rw [cmpI, if_neg h, if_neg h2]
    (apply w_mvb; rfl; apply w_done0; apply w_sq; apply w_sq; apply w_reg; apply w_mvb; rfl; apply w_done0; apply w_ifF; rfl; apply w_skip; apply w_sq; apply w_sq; apply w_reg; apply w_mvb; rfl; apply w_done0; apply w_ifF; rfl; apply w_skip; apply w_sq; apply w_sq; apply w_reg; apply w_mvi; rfl; apply w_mvi; rfl; apply w_lss; rfl; rfl; apply w_done0; refine w_ifdF rfl (by omega) ?_; apply w_skip; apply w_sq; apply w_sq; apply w_reg; apply w_mvi; rfl; apply w_mvi; rfl; apply w_gtr; rfl; rfl; apply w_done0; refine w_ifdF rfl (by omega) ?_; apply w_skip; apply w_sq; apply w_reg; apply w_mvi; rfl; apply w_done0; apply w_ret)
    exact finQ rfl
def CmpSOk (P : Program) (f : FuncId) : Prop := ∀ {d : PHeap} {a b : List UInt8}, GPure P f [strV a, strV b] d (.int .i64 (Lib.compareBytes a b))
def g_internal_bytealg_CompareString : GFun :=
 ⟨8, [(.tmp 4)],
 (.seq
 (.reg false (.op false ⟨(some 4), none, (.mv (.const (.int .i64 0)))⟩ .done))
 (.seq
 (.reg false (.op false ⟨(some 5), none, (.mv (.tmp 0))⟩
  (.op false ⟨(some 6), none, (.mv (.tmp 1))⟩
  (.op false ⟨(some 7), none, (.bcmp (.tmp 5) (.tmp 6))⟩
  (.op false ⟨(some 4), none, (.mv (.tmp 7))⟩ .done))))) .ret))⟩

theorem cmps_ok {P : Program} {f : FuncId} (hd : dec P f = some g_internal_bytealg_CompareString) : CmpSOk P f := by
  intro d a b
  refine GPure.of' hd (Nat.le_of_ble_eq_true rfl) ?_
  show gwp P _ _ _ _ _
  (apply w_sq; apply w_reg; apply w_mvi; rfl; apply w_done0; apply w_sq; apply w_reg; apply w_mvt; rfl; apply w_mvt; rfl)
  refine w_bcmpS rfl rfl ?_
  (apply w_mvi; rfl; apply w_done0; apply w_ret)
  exact finQ rfl
def g_strings_Compare (f_internal_bytealg_CompareString : Nat) : GFun :=
 ⟨8, [(.tmp 4)],
 (.seq
 (.reg false (.op false ⟨(some 4), none, (.mv (.const (.int .i64 0)))⟩ .done))
 (.seq
 (.reg false (.op false ⟨(some 5), none, (.mv (.tmp 0))⟩
  (.op false ⟨(some 6), none, (.mv (.tmp 1))⟩
  (.op false ⟨(some 7), none, (.call f_internal_bytealg_CompareString [(.tmp 5), (.tmp 6)])⟩
  (.op false ⟨(some 4), none, (.mv (.tmp 7))⟩ .done))))) .ret))⟩

theorem scmp_ok {P : Program} {f f1 : FuncId} (hd : dec P f = some (g_strings_Compare f1)) (h1 : CmpSOk P f1) : CmpSOk P f := by
  intro d a b
  refine GPure.of' hd (Nat.le_of_ble_eq_true rfl) ?_
  show gwp P _ _ _ _ _
  (apply w_sq; apply w_reg; apply w_mvi; rfl; apply w_done0; apply w_sq; apply w_reg; apply w_mvt; rfl; apply w_mvt; rfl)
  refine w_pure rfl h1 ?_
  (apply w_mvi; rfl; apply w_done0; apply w_ret)
  exact finQ rfl
theorem cmp_three : ∀ a b : List UInt8, Lib.compareBytes a b = if Op.bytesLess a b then -1 else if Op.bytesLess b a then 1 else 0
  | [], [] => by simp [Lib.compareBytes, Op.bytesLess]
  | [], _ :: _ => by simp [Lib.compareBytes, Op.bytesLess]
  | _ :: _, [] => by simp [Lib.compareBytes, Op.bytesLess]
  | a :: l, b :: m => by
    have ih := cmp_three l m
    simp only [Lib.compareBytes, Op.bytesLess]
    by_cases h1 : a < b
    · simp [h1]
    · by_cases h2 : b < a
      · have : ¬ a = b := fun e => by subst e; exact h1 h2
        have h3 : ¬ b = a := fun e => this e.symm
        simp [h1, h2, this, h3]
      · have e : a = b := by
          rw [UInt8.lt_iff_toNat_lt] at h1 h2
          exact UInt8.toNat_inj.1 (by omega)
        subst e
        simp [h1, ih]
def g_thimbleref04_texts : GFun :=
 ⟨11, [(.tmp 4)],
 (.seq
 (.reg false (.op false ⟨(some 4), none, (.mv (.const (.int .i64 0)))⟩ .done))
 (.seq (.seq
 (.reg false (.op false ⟨(some 5), none, (.mv (.tmp 0))⟩
  (.op false ⟨(some 6), none, (.mv (.tmp 1))⟩
  (.op false ⟨(some 7), none, (.bin .lss (.tmp 5) (.tmp 6))⟩ .done)))) (.cond (.tmp 7)
 (.seq
 (.reg false (.op false ⟨(some 4), none, (.mv (.const (.int .i64 (-1))))⟩ .done)) .ret) .skip))
 (.seq (.seq
 (.reg false (.op false ⟨(some 8), none, (.mv (.tmp 0))⟩
  (.op false ⟨(some 9), none, (.mv (.tmp 1))⟩
  (.op false ⟨(some 10), none, (.bin .gtr (.tmp 8) (.tmp 9))⟩ .done)))) (.cond (.tmp 10)
 (.seq
 (.reg false (.op false ⟨(some 4), none, (.mv (.const (.int .i64 1)))⟩ .done)) .ret) .skip))
 (.seq
 (.reg false (.op false ⟨(some 4), none, (.mv (.const (.int .i64 0)))⟩ .done)) .ret))))⟩

theorem texts_ok {P : Program} {f : FuncId} (hd : dec P f = some g_thimbleref04_texts) : CmpSOk P f := by
  intro d a b
  refine GPure.of' hd (Nat.le_of_ble_eq_true rfl) ?_
  show gwp P _ _ _ _ _
  rw [cmp_three]
  have h3 : ∀ h : Op.bytesLess a b = false, (!(Op.bytesLess a b || decide (a = b))) = Op.bytesLess b a := fun h => by
    rcases bl_total a b with q | q | q
    · rw [q] at h; cases h
    · subst q; simp [bl_irrefl]
    · have : a ≠ b := fun e => by subst e; rw [bl_irrefl] at q; cases q
      rw [h, q]; simp [this]
  cases h : Op.bytesLess a b with
  | true =>
    (apply w_sq; apply w_reg; apply w_mvi; rfl; apply w_done0; apply w_sq; apply w_sq; apply w_reg; apply w_mvt; rfl; apply w_mvt; rfl; apply w_slt; rfl; rfl; apply w_done0; apply w_ifbT; rfl; (with_reducible assumption); apply w_sq; apply w_reg; apply w_mvi; rfl; apply w_done0; apply w_ret)
    exact finQ rfl
  | false =>
    have h4 := h3 h
    cases h2 : Op.bytesLess b a with
    | true =>
      rw [h2] at h4
      (apply w_sq; apply w_reg; apply w_mvi; rfl; apply w_done0; apply w_sq; apply w_sq; apply w_reg; apply w_mvt; rfl; apply w_mvt; rfl; apply w_slt; rfl; rfl; apply w_done0; apply w_ifbF; rfl; (with_reducible assumption); apply w_skip; apply w_sq; apply w_sq; apply w_reg; apply w_mvt; rfl; apply w_mvt; rfl; apply w_sgt; rfl; rfl; apply w_done0; apply w_ifbT; rfl; (with_reducible assumption); apply w_sq; apply w_reg; apply w_mvi; rfl; apply w_done0; apply w_ret)
      exact finQ rfl
    | false =>
      rw [h2] at h4
      (apply w_sq; apply w_reg; apply w_mvi; rfl; apply w_done0; apply w_sq; apply w_sq; apply w_reg; apply w_mvt; rfl; apply w_mvt; rfl; apply w_slt; rfl; rfl; apply w_done0; apply w_ifbF; rfl; (with_reducible assumption); apply w_skip; apply w_sq; apply w_sq; apply w_reg; apply w_mvt; rfl; apply w_mvt; rfl; apply w_sgt; rfl; rfl; apply w_done0; apply w_ifbF; rfl; (with_reducible assumption); apply w_skip; apply w_sq; apply w_reg; apply w_mvi; rfl; apply w_done0; apply w_ret)
      exact finQ rfl
def sgn (m : Int) : Int := if m < 0 then -1 else if 0 < m then 1 else 0
def SignOk (P : Program) (f : FuncId) : Prop := ∀ {d : PHeap} {m e : Int}, GPure P f [.agg [.int .i64 m, .int .i64 e].toArray] d (.int .i64 (sgn m))
def g_num_sign : GFun :=
 ⟨11, [(.tmp 2)],
 (.seq
 (.reg false (.op false ⟨(some 1), none, (.box (.tmp 0))⟩
  (.op false ⟨(some 2), none, (.mv (.const (.int .i64 0)))⟩ .done)))
 (.seq (.block 0
 (.seq
 (.reg false (.op false ⟨(some 4), none, (.fld 0 (.tmp 1))⟩
  (.op false ⟨(some 5), none, (.ld none (.tmp 4))⟩
  (.op false ⟨(some 6), none, (.bin .lss (.tmp 5) (.const (.int .i64 0)))⟩
  (.op false ⟨(some 3), none, (.mv (.tmp 6))⟩ .done))))) (.cond (.tmp 3)
 (.seq
 (.reg false (.op false ⟨(some 2), none, (.mv (.const (.int .i64 (-1))))⟩ .done)) .ret)
 (.seq
 (.reg false (.op false ⟨(some 8), none, (.fld 0 (.tmp 1))⟩
  (.op false ⟨(some 9), none, (.ld none (.tmp 8))⟩
  (.op false ⟨(some 10), none, (.bin .gtr (.tmp 9) (.const (.int .i64 0)))⟩
  (.op false ⟨(some 7), none, (.mv (.tmp 10))⟩ .done))))) (.cond (.tmp 7)
 (.seq
 (.reg false (.op false ⟨(some 2), none, (.mv (.const (.int .i64 1)))⟩ .done)) .ret) .skip)))))
 (.seq
 (.reg false (.op false ⟨(some 2), none, (.mv (.const (.int .i64 0)))⟩ .done)) .ret)))⟩

theorem sign_ok {P : Program} {f : FuncId} (hd : dec P f = some g_num_sign) : SignOk P f := by
  intro d m e
  refine GPure.of' hd (Nat.le_of_ble_eq_true rfl) ?_
  show gwp P _ _ _ _ _
  by_cases h : m < 0
  · rw [sgn, if_pos h]
    (apply w_sq; apply w_reg; apply w_boxa; rfl; intro _ _; apply w_mvi; rfl; apply w_done0; apply w_sq; apply w_block; apply w_sq; apply w_reg; apply w_fld; rfl; apply w_ld; rfl; exact hc_i 0 rfl rfl; apply w_lss; rfl; rfl; apply w_mvb; rfl; apply w_done0; refine w_ifdT rfl (by omega) ?_; apply w_sq; apply w_reg; apply w_mvi; rfl; apply w_done0; apply w_ret)
    exact finQ rfl
  by_cases h2 : 0 < m
  · rw [sgn, if_neg h, if_pos h2]
    (apply w_sq; apply w_reg; apply w_boxa; rfl; intro _ _; apply w_mvi; rfl; apply w_done0; apply w_sq; apply w_block; apply w_sq; apply w_reg; apply w_fld; rfl; apply w_ld; rfl; exact hc_i 0 rfl rfl; apply w_lss; rfl; rfl; apply w_mvb; rfl; apply w_done0; refine w_ifdF rfl (by omega) ?_; apply w_sq; apply w_reg; apply w_fld; rfl; apply w_ld; rfl; exact hc_i 0 rfl rfl; apply w_gtr; rfl; rfl; apply w_mvb; rfl; apply w_done0; refine w_ifdT rfl (by omega) ?_; apply w_sq; apply w_reg; apply w_mvi; rfl; apply w_done0; apply w_ret)
    exact finQ rfl
  · rw [sgn, if_neg h, if_neg h2]
    (apply w_sq; apply w_reg; apply w_boxa; rfl; intro _ _; apply w_mvi; rfl; apply w_done0; apply w_sq; apply w_block; apply w_sq; apply w_reg; apply w_fld; rfl; apply w_ld; rfl; exact hc_i 0 rfl rfl; apply w_lss; rfl; rfl; apply w_mvb; rfl; apply w_done0; refine w_ifdF rfl (by omega) ?_; apply w_sq; apply w_reg; apply w_fld; rfl; apply w_ld; rfl; exact hc_i 0 rfl rfl; apply w_gtr; rfl; rfl; apply w_mvb; rfl; apply w_done0; refine w_ifdF rfl (by omega) ?_; apply w_skip; apply w_sq; apply w_reg; apply w_mvi; rfl; apply w_done0; apply w_ret)
    exact finQ rfl
end Go.Gk.Val
end

section
namespace Go.Gk.Val
open Go Go.Gk Go.Gk.Utf Go.Proofs Go.RowKit Go.Shelf
attribute [local irreducible] gwp gws

theorem pure_same {P : Program} {f : FuncId} {args : List Value} {d : PHeap} {v : Value} (hc : Callable P f) (h : ∀ W, Calls P f args.toArray W fun e W' => e = .returned v ∧ W' = W) : GPure P f args d v :=
  ⟨hc, fun F W x => (h W).mono fun e W' ⟨he, hw⟩ => ⟨d, [], by subst hw; exact x, Le.refl d, by subst hw; exact Keep.refl _, by subst he; exact ⟨rfl, rfl, rfl⟩⟩⟩
def Len64Ok (P : Program) (f : FuncId) : Prop := ∀ {d : PHeap} {u : Nat}, u < 18446744073709551616 → GPure P f [.int .u64 u] d (.int .i64 (Lib.bitLen u : Nat))
theorem len64_ok {P : Program} {ρ : Ren} (L : Lays.n129 P ρ) (hc : Callable P (ρ.f 129)) : Len64Ok P (ρ.f 129) := fun {d u} hu =>
  pure_same hc fun W => Any.bits_Len64 L u W (by omega) (by omega)
def Log10Ok (P : Program) (f : FuncId) : Prop := ∀ {d : PHeap} {x : Nat}, x ≤ 64 → GPure P f [.int .i64 x] d (.int .i64 (Lib.l10 x : Nat))
theorem log10_ok {P : Program} {ρ : Ren} (L : Lays.n317 P ρ) (hc : Callable P (ρ.f 317)) : Log10Ok P (ρ.f 317) := fun {d x} hx =>
  pure_same hc fun W => Any.internal_strconv_log10Pow2 L x hx W
def SmallOk (P : Program) (f : FuncId) : Prop := ∀ {d : PHeap} {i : Nat}, i < 100 → GPure P f [.int .i64 i] d (strV (Lib.decDigits i))
theorem small_ok {P : Program} {ρ : Ren} (L : Lays.n283 P ρ) (hc : Callable P (ρ.f 283)) : SmallOk P (ρ.f 283) := fun {d i} hi =>
  pure_same hc fun W => Any.internal_strconv_small L i hi W
def FmtOk (P : Program) (f : FuncId) : Prop := ∀ {d : PHeap} {b : Nat} {T : TypeId} {l : List Value} {c u : Nat}, u < 18446744073709551616 → l.take (Lib.nDigits u) = List.replicate (Lib.nDigits u) (.int .u8 0) →
  GCall P f [.slice (some ⟨b, 0, none⟩) (Lib.nDigits u) c, .int .u64 u] d [bx b T l] (Ret fun r d' L' => d' = d ∧ ∃ l', L' = [bx b T l'] ∧ l'.length = l.length ∧ l'.take (Lib.nDigits u) = (Lib.decDigits u).map byteV)
theorem rowed {hs : List PHeap} {W : World} {b : Nat} {T : TypeId} {l : List Value} {f : Array Value → Array Value} (x : Ok (bx b T l :: hs) W) : Ok (bx b T (f l.toArray).toList :: hs) (Sort.mapBlock W b f) := by
  have hb := x.head b _ (sg_self _ _)
  refine x.write _ ?_
  show W.heap.modify b (Sort.onCells f) = W.heap.setIfInBounds b (.cells (f l.toArray).toList.toArray T (0, 0))
  apply Array.ext_getElem?
  intro i
  rw [Array.getElem?_modify, Array.getElem?_setIfInBounds]
  obtain ⟨hg, hv⟩ := Array.getElem?_eq_some_iff.1 hb
  by_cases e : b = i
  · subst e; simp [hg, hv, Sort.onCells]
  · simp [e]
theorem fmt_ok {P : Program} {ρ : Ren} (L : Lays.n285 P ρ) (hc : Callable P (ρ.f 285)) : FmtOk P (ρ.f 285) := by
  intro d b T l c u hu hz
  generalize hn : Lib.nDigits u = n at *
  have hnl : n ≤ l.length := by
    have := congrArg List.length hz
    rw [List.length_take, List.length_replicate] at this; omega
  have h20 := Lib.nDigits_le20 u hu
  have hlt := Lib.lt_pow_nDigits u
  refine ⟨hc, fun F W hOk => ?_⟩
  have y : Ok (bx b T l :: d :: F) W := hOk.perm (List.Perm.swap _ _ _)
  have hb := y.head b _ (sg_self _ _)
  have hH : Sort.Holds (fun (b : UInt8) => Value.int .u8 (b.toNat : Int)) W b 0 (Array.replicate n (0 : UInt8)) := fun j hj => by
    have hj' : j < n := by simpa using hj
    refine ⟨?_, by simp [World.frozen?, hb]⟩
    have := congrArg (·[j]?) hz
    simp only [List.getElem?_replicate, hj', if_true] at this
    rw [List.getElem?_take_of_lt hj'] at this
    simp only [World.cell?, hb, Nat.zero_add]
    rw [getElem!_pos _ j hj]
    simpa using this
  have hk := Any.internal_strconv_formatBase10 L b 0 c u (Array.replicate n (0 : UInt8)) W hH (by rw [Array.size_replicate, ← hn]; exact hlt) hu (by rw [Array.size_replicate]; omega)
  rw [Array.size_replicate] at hk
  refine hk.mono ?_
  rintro e W' ⟨rfl, m, v', dk, rfl, hinv⟩
  have hdk : dk.size = n := hinv.size
  refine ⟨d, [bx b T (Sort.putCells (fun (b : UInt8) => Value.int .u8 (b.toNat : Int)) 0 dk l.toArray).toList], ?_, Le.refl d, ⟨rfl, rfl, rfl, ?_⟩, rfl, _, rfl, by simp [Sort.putCells], ?_⟩
  · have z := (rowed (f := Sort.putCells (fun (b : UInt8) => Value.int .u8 (b.toNat : Int)) 0 dk) y)
    exact (z.perm (List.Perm.swap _ _ _)).same rfl
  · show W.heap.size ≤ (W.heap.modify b _).size
    simp
  · have hdl := Lib.decDigits_length u
    apply List.ext_getElem?
    intro j
    by_cases hj : j < n
    · have hjd : j < (Lib.decDigits u).length := by rw [hdl, hn]; exact hj
      have hrow := Lib.row_is_numeral (u := u) (v' := v') (dk := dk) (by rw [hn]; exact hinv) j hjd
      have hjl : j < l.length := by omega
      rw [List.getElem?_take_of_lt hj, List.getElem?_map, List.getElem?_eq_getElem hjd, hrow]
      simp [Sort.putCells, hjl, hdk, hj, byteV]
    · rw [List.getElem?_eq_none (by rw [List.length_take]; omega), List.getElem?_eq_none (by rw [List.length_map, hdl]; omega)]
def BoolIOk (P : Program) (f : FuncId) : Prop := ∀ {d : PHeap} {b : Bool}, GPure P f [.bool b] d (.int .i64 (if b then 1 else 0))
def g_internal_strconv_bool2_int : GFun :=
 ⟨4, [(.tmp 2)],
 (.seq
 (.reg false (.op false ⟨(some 2), none, (.mv (.const (.int .i64 0)))⟩ .done))
 (.seq (.seq
 (.reg false (.op false ⟨(some 3), none, (.mv (.tmp 0))⟩ .done)) (.cond (.tmp 3)
 (.seq
 (.reg false (.op false ⟨(some 2), none, (.mv (.const (.int .i64 1)))⟩ .done)) .ret) .skip))
 (.seq
 (.reg false (.op false ⟨(some 2), none, (.mv (.const (.int .i64 0)))⟩ .done)) .ret)))⟩

theorem booli_ok {P : Program} {f : FuncId} (hd : dec P f = some g_internal_strconv_bool2_int) : BoolIOk P f := by
  intro d b
  refine GPure.of' hd (Nat.le_of_ble_eq_true rfl) ?_
  show gwp P _ _ _ _ _
  cases b with
  | true =>
    (apply w_sq; apply w_reg; apply w_mvi; rfl; apply w_done0; apply w_sq; apply w_sq; apply w_reg; apply w_mvb; rfl; apply w_done0; apply w_ifT; rfl; apply w_sq; apply w_reg; apply w_mvi; rfl; apply w_done0; apply w_ret)
    exact finQ rfl
  | false =>
    (apply w_sq; apply w_reg; apply w_mvi; rfl; apply w_done0; apply w_sq; apply w_sq; apply w_reg; apply w_mvb; rfl; apply w_done0; apply w_ifF; rfl; apply w_skip; apply w_sq; apply w_reg; apply w_mvi; rfl; apply w_done0; apply w_ret)
    exact finQ rfl
def NumDOk (T : PHeap → Prop) (P : Program) (f : FuncId) : Prop := ∀ {d : PHeap} {u : Nat}, T d → 1 ≤ u → u < 18446744073709551616 → GPure P f [.int .u64 u] d (.int .i64 (Lib.nDigits u : Nat))
def g_internal_strconv_numDigits (f_math_bits_Len64 f_internal_strconv_log10Pow2 G_internal_strconv_uint64pow10 f_internal_strconv_bool2_int : Nat) : GFun :=
 ⟨15, [(.tmp 2)],
 (.seq
 (.reg false (.op false ⟨(some 2), none, (.mv (.const (.int .i64 0)))⟩ .done))
 (.seq
 (.reg false (.op false ⟨(some 4), none, (.mv (.tmp 0))⟩
  (.op false ⟨(some 5), none, (.call f_math_bits_Len64 [(.tmp 4)])⟩
  (.op false ⟨(some 6), none, (.call f_internal_strconv_log10Pow2 [(.tmp 5)])⟩
  (.op false ⟨(some 3), none, (.mv (.tmp 6))⟩ .done)))))
 (.seq
 (.reg false (.op false ⟨(some 7), none, (.mv (.tmp 3))⟩
  (.op false ⟨(some 8), none, (.mv (.tmp 0))⟩
  (.op false ⟨(some 9), none, (.mv (.tmp 3))⟩
  (.op false ⟨(some 10), none, (.idxa 20 1 (.global G_internal_strconv_uint64pow10) (.tmp 9))⟩
  (.op false ⟨(some 11), none, (.ld none (.tmp 10))⟩
  (.op false ⟨(some 12), none, (.bin .geq (.tmp 8) (.tmp 11))⟩
  (.op false ⟨(some 13), none, (.call f_internal_strconv_bool2_int [(.tmp 12)])⟩
  (.op false ⟨(some 14), none, (.bin .add (.tmp 7) (.tmp 13))⟩
  (.op false ⟨(some 2), none, (.mv (.tmp 14))⟩ .done)))))))))) .ret)))⟩

theorem numd_ok {T : PHeap → Prop} {P : Program} {f f1 f2 g3 f4 : FuncId} (hT : ∀ d, T d → DCs d g3 0 tensV) (hd : dec P f = some (g_internal_strconv_numDigits f1 f2 g3 f4)) (h1 : Len64Ok P f1) (h2 : Log10Ok P f2) (h4 : BoolIOk P f4) : NumDOk T P f := by
  intro d u ht hu1 hu2
  obtain ⟨he, hl⟩ := Lib.numDigits_eq u hu1 hu2
  have hb : Lib.bitLen u ≤ 64 := Lib.bitLen_le u 64 (Nat.le_refl _) hu2
  have htab : DC d g3 (Lib.l10 (Lib.bitLen u)) (.int .u64 ((10 ^ Lib.l10 (Lib.bitLen u) : Nat) : Int)) := by
    have := (hT d ht).at (i := Lib.l10 (Lib.bitLen u)) (by simp [tensV, show Lib.l10 (Lib.bitLen u) < 20 by omega]; rfl)
    rwa [Nat.zero_add] at this
  refine GPure.of' hd (Nat.le_of_ble_eq_true rfl) ?_
  show gwp P _ _ _ _ _
  (apply w_sq; apply w_reg; apply w_mvi; rfl; apply w_done0; apply w_sq; apply w_reg; apply w_mvi; rfl)
  refine w_pure rfl (h1 hu2) ?_
  refine w_pure rfl (h2 hb) ?_
  generalize hlg : Lib.l10 (Lib.bitLen u) = n at *
  (apply w_mvi; rfl; apply w_done0; apply w_sq; apply w_reg; apply w_mvi; rfl; apply w_mvi; rfl; apply w_mvi; rfl)
  refine w_idxa n rfl rfl rfl (by omega) ?_
  refine w_ld rfl (hc_d (by rw [Nat.mul_one, Nat.zero_add]; exact htab)) ?_
  (apply w_geq; rfl; rfl)
  refine w_pure rfl h4 ?_
  have hlen : (if (decide (((10 ^ n : Nat) : Int) ≤ (u : Int))) then (1 : Int) else 0) = ((if 10 ^ n ≤ u then 1 else 0 : Nat) : Int) := by
    by_cases q : 10 ^ n ≤ u
    · have q2 : ((10 ^ n : Nat) : Int) ≤ (u : Int) := by omega
      rw [if_pos q, if_pos (by simpa using q2)]; rfl
    · have q2 : ¬ ((10 ^ n : Nat) : Int) ≤ (u : Int) := by omega
      rw [if_neg q, if_neg (by simpa using q2)]; rfl
  have hnd := Lib.nDigits_le20 u hu2
  rw [hlen]
  clear hlen
  generalize (if 10 ^ n ≤ u then 1 else 0 : Nat) = m at *
  have hm : m ≤ 20 := by omega
  (apply w_add; rfl; rfl; omega; omega; apply w_mvi; rfl; apply w_done0; apply w_ret)
  apply finQi; rfl
  omega
end Go.Gk.Val
end

section
namespace Go.Gk.Val
open Go Go.Gk Go.Gk.Utf
attribute [local irreducible] gwp gws

section
variable {P : Program} {pan : List PanicEntry → Post} {Qn : Env → Post} {Ls L : List PHeap} {ρ : Env} {d : PHeap} {s : GS} {t : Nat} {tk : Bool}
theorem w_sla0 {len n b : Nat} {x y : Operand} (hl : 0 < len) (hn : n ≤ len) (ex : ev ρ x = .pointer (some ⟨b, 0, none⟩)) (ey : ev ρ y = .int .i64 (n : Nat)) (h : gws P pan Qn s Ls (upd ρ t (.slice (some ⟨b, 0, none⟩) n len)) d L) :
    gws P pan Qn (.op tk ⟨some t, none, .sla len 1 x none (some y) none⟩ s) Ls ρ d L := by
  refine w_q rfl ⟨b, 0, 0, n, len, ex, ?_, ?_⟩ h
  · have hb : bnd (.int .i64 (n : Nat)) len = some n := by
      rw [bnd, if_pos (by omega), Int.toNat_natCast]
    simp only [Option.map_some, Option.map_none, ey]
    simp [cutV, cutM, cutH, cutL, hb]
  · rw [if_neg (by omega)]; simp
end
def FmtUOk (T : PHeap → Prop) (P : Program) (f : FuncId) : Prop := ∀ {d : PHeap} {u : Nat}, T d → u < 18446744073709551616 → GPure P f [.int .u64 u, .int .i64 10] d (strV (Lib.decDigits u))
def g_internal_strconv_FormatUint (f_internal_strconv_small f_internal_strconv_numDigits f_internal_strconv_formatBase10 f_internal_strconv_formatBits : Nat) : GFun :=
 ⟨32, [(.tmp 4)],
 (.seq
 (.reg false (.op false ⟨(some 4), none, (.mv (.const (strV [])))⟩ .done))
 (.seq (.seq
 (.reg false (.op false ⟨(some 9), none, (.mv (.tmp 1))⟩
  (.op false ⟨(some 10), none, (.bin .eql (.tmp 9) (.const (.int .i64 10)))⟩ .done))) (.cond (.tmp 10)
 (.seq (.seq
 (.reg false (.op false ⟨(some 11), none, (.mv (.tmp 0))⟩
  (.op false ⟨(some 12), none, (.bin .lss (.tmp 11) (.const (.int .u64 100)))⟩ .done))) (.cond (.tmp 12)
 (.seq
 (.reg false (.op false ⟨(some 13), none, (.mv (.tmp 0))⟩
  (.op false ⟨(some 14), none, (.cvi .i64 (.tmp 13))⟩
  (.op false ⟨(some 15), none, (.call f_internal_strconv_small [(.tmp 14)])⟩
  (.op false ⟨(some 4), none, (.mv (.tmp 15))⟩ .done))))) .ret) .skip))
 (.seq
 (.reg false (.op false ⟨(some 5), none, (.alo (.agg #[(.int .u8 0), (.int .u8 0), (.int .u8 0), (.int .u8 0), (.int .u8 0), (.int .u8 0), (.int .u8 0), (.int .u8 0), (.int .u8 0), (.int .u8 0), (.int .u8 0), (.int .u8 0), (.int .u8 0), (.int .u8 0), (.int .u8 0), (.int .u8 0), (.int .u8 0), (.int .u8 0), (.int .u8 0), (.int .u8 0), (.int .u8 0), (.int .u8 0), (.int .u8 0), (.int .u8 0)]))⟩ .done))
 (.seq
 (.reg false (.op false ⟨(some 16), none, (.mv (.tmp 0))⟩
  (.op false ⟨(some 17), none, (.call f_internal_strconv_numDigits [(.tmp 16)])⟩
  (.op false ⟨(some 6), none, (.mv (.tmp 17))⟩ .done))))
 (.seq
 (.reg false (.op false ⟨(some 18), none, (.mv (.tmp 6))⟩
  (.op false ⟨(some 19), none, (.sla 24 1 (.tmp 5) none (some (.tmp 18)) none)⟩
  (.op false ⟨(some 20), none, (.mv (.tmp 0))⟩
  (.op false ⟨(some 21), none, (.call f_internal_strconv_formatBase10 [(.tmp 19), (.tmp 20)])⟩ .done)))))
 (.seq
 (.reg false (.op false ⟨(some 22), none, (.mv (.tmp 6))⟩
  (.op false ⟨(some 23), none, (.sla 24 1 (.tmp 5) none (some (.tmp 22)) none)⟩
  (.op false ⟨(some 24), none, (.b2s (.tmp 23))⟩
  (.op false ⟨(some 4), none, (.mv (.tmp 24))⟩ .done))))) .ret))))) .skip))
 (.seq
 (.reg false (.op false ⟨(some 26), none, (.mv (.tmp 0))⟩
  (.op false ⟨(some 27), none, (.mv (.tmp 1))⟩
  (.op false ⟨(some 28), none, (.call f_internal_strconv_formatBits [(.const (.slice none 0 0)), (.tmp 26), (.tmp 27), (.const (.bool false)), (.const (.bool false))])⟩
  (.op false ⟨(some 25), none, (.mv (.tmp 28))⟩
  (.op false ⟨(some 29), none, (.ext (.tmp 25) 0)⟩
  (.op false ⟨(some 30), none, (.ext (.tmp 25) 1)⟩
  (.op false ⟨(some 7), none, (.mv (.tmp 29))⟩
  (.op false ⟨(some 8), none, (.mv (.tmp 30))⟩ .done)))))))))
 (.seq
 (.reg false (.op false ⟨(some 31), none, (.mv (.tmp 8))⟩
  (.op false ⟨(some 4), none, (.mv (.tmp 31))⟩ .done))) .ret))))⟩

theorem fmtu_ok {T : PHeap → Prop} {P : Program} {f f1 f2 f3 f4 : FuncId} (hd : dec P f = some (g_internal_strconv_FormatUint f1 f2 f3 f4)) (h1 : SmallOk P f1) (h2 : NumDOk T P f2) (h3 : FmtOk P f3) : FmtUOk T P f := by
  intro d u ht hu
  refine GPure.of' hd (Nat.le_of_ble_eq_true rfl) ?_
  show gwp P _ _ _ _ _
  by_cases hs : (u : Int) < 100
  · (apply w_sq; apply w_reg; apply w_mvt; rfl; apply w_done0; apply w_sq; apply w_sq; apply w_reg; apply w_mvi; rfl; apply w_eql; rfl; rfl; apply w_done0; refine w_ifdT rfl (by omega) ?_; apply w_sq; apply w_sq; apply w_reg; apply w_mvi; rfl; apply w_lss; rfl; rfl; apply w_done0; refine w_ifdT rfl (by omega) ?_; apply w_sq; apply w_reg; apply w_mvi; rfl; apply w_cvi64; rfl; omega; omega)
    refine w_pure rfl (h1 (by omega)) ?_
    (apply w_mvt; rfl; apply w_done0; apply w_ret)
    exact finQ rfl
  have hnd := Lib.nDigits_le20 u hu
  have hdl := Lib.decDigits_length u
  (apply w_sq; apply w_reg; apply w_mvt; rfl; apply w_done0; apply w_sq; apply w_sq; apply w_reg; apply w_mvi; rfl; apply w_eql; rfl; rfl; apply w_done0; refine w_ifdT rfl (by omega) ?_; apply w_sq; apply w_sq; apply w_reg; apply w_mvi; rfl; apply w_lss; rfl; rfl; apply w_done0; refine w_ifdF rfl (by omega) ?_; apply w_skip; apply w_sq; apply w_reg; apply w_alo; intro _ _; apply w_done0; apply w_sq; apply w_reg; apply w_mvi; rfl)
  rename_i b5 T5
  refine w_pure rfl (h2 ht (by omega) hu) ?_
  (apply w_mvi; rfl; apply w_done0; apply w_sq; apply w_reg; apply w_mvi; rfl)
  refine w_sla0 (n := Lib.nDigits u) (by omega) (by omega) rfl rfl ?_
  (apply w_mvi; rfl)
  have hz : (List.replicate 24 (Value.int .u8 0)).take (Lib.nDigits u) = List.replicate (Lib.nDigits u) (.int .u8 0) := by rw [List.take_replicate, Nat.min_eq_left (by omega)]
  refine w_vs d [bx b5 T5 (List.replicate 24 (Value.int .u8 0))] (Vs.refl _ _) ?_
  refine w_callA (A := [bx b5 T5 (List.replicate 24 (Value.int .u8 0))]) (B := []) rfl rfl (h3 (d := d) (b := b5) (T := T5) (c := 24) hu hz) (fun r d6 L6 _ ⟨hdd, l', hL, hll, hlt⟩ => ?_)
  subst hdd; subst hL
  (apply w_done0; apply w_sq; apply w_reg; apply w_mvi; rfl)
  refine w_sla0 (n := Lib.nDigits u) (by omega) (by omega) rfl rfl ?_
  refine w_b2s (b := b5) (o := 0) (l := Lib.decDigits u) rfl hdl.symm (SAd.some _ b5 0) (fun i w hw => ?_) ?_
  · refine hc_i 0 rfl ?_
    have := congrArg (·[i]?) hlt
    have hi : i < Lib.nDigits u := by rw [← hdl]; exact (List.getElem?_eq_some_iff.1 hw).1
    simp only [List.getElem?_map, hw, Option.map_some] at this
    rw [List.getElem?_take_of_lt hi] at this
    rw [Nat.zero_add]; exact this
  (apply w_mvt; rfl; apply w_done0; apply w_ret)
  exact finQ rfl
def g_strconv_FormatUint (f_internal_strconv_FormatUint : Nat) : GFun :=
 ⟨8, [(.tmp 4)],
 (.seq
 (.reg false (.op false ⟨(some 4), none, (.mv (.const (strV [])))⟩ .done))
 (.seq
 (.reg false (.op false ⟨(some 5), none, (.mv (.tmp 0))⟩
  (.op false ⟨(some 6), none, (.mv (.tmp 1))⟩
  (.op false ⟨(some 7), none, (.call f_internal_strconv_FormatUint [(.tmp 5), (.tmp 6)])⟩
  (.op false ⟨(some 4), none, (.mv (.tmp 7))⟩ .done))))) .ret))⟩

theorem fmtuu_ok {T : PHeap → Prop} {P : Program} {f f1 : FuncId} (hd : dec P f = some (g_strconv_FormatUint f1)) (h1 : FmtUOk T P f1) : FmtUOk T P f := by
  intro d u ht hu
  refine GPure.of' hd (Nat.le_of_ble_eq_true rfl) ?_
  show gwp P _ _ _ _ _
  (apply w_sq; apply w_reg; apply w_mvt; rfl; apply w_done0; apply w_sq; apply w_reg; apply w_mvi; rfl; apply w_mvi; rfl)
  refine w_pure rfl (h1 ht hu) ?_
  (apply w_mvt; rfl; apply w_done0; apply w_ret)
  exact finQ rfl
end Go.Gk.Val
end

section
namespace Go.Gk.Utf
open Go Go.Lib

def chsG : Nat → List UInt8 → List (List UInt8)
  | 0, _ => []
  | n + 1, l => if l = [] then [] else l.take (decodeL l).2 :: chsG n (l.drop (decodeL l).2)
def chs (l : List UInt8) : List (List UInt8) := chsG l.length l
def rnsG : Nat → List UInt8 → List Int
  | 0, _ => []
  | n + 1, l => if l = [] then [] else ((decodeL l).1 : Int) :: rnsG n (l.drop (decodeL l).2)
def rns (l : List UInt8) : List Int := rnsG l.length l
theorem chsG_fuel : ∀ (n m : Nat) (l : List UInt8), l.length ≤ n → l.length ≤ m → chsG n l = chsG m l
  | 0, 0, _, _, _ => rfl
  | 0, m + 1, l, h, _ => by
    have : l = [] := List.eq_nil_of_length_eq_zero (by omega)
    simp [chsG, this]
  | n + 1, 0, l, _, h => by
    have : l = [] := List.eq_nil_of_length_eq_zero (by omega)
    simp [chsG, this]
  | n + 1, m + 1, l, h1, h2 => by
    by_cases h : l = []
    · simp [chsG, h]
    · have hw := decodeL_width l
      have hl : 0 < l.length := List.length_pos_iff.2 h
      simp only [chsG, if_neg h]
      rw [chsG_fuel n m _ (by rw [List.length_drop]; omega) (by rw [List.length_drop]; omega)]
theorem chs_nil : chs [] = [] := rfl
theorem chs_step {l : List UInt8} (h : l ≠ []) : chs l = l.take (decodeL l).2 :: chs (l.drop (decodeL l).2) := by
  have hw := decodeL_width l
  have hl : 0 < l.length := List.length_pos_iff.2 h
  obtain ⟨n, hn⟩ : ∃ n, l.length = n + 1 := ⟨l.length - 1, by omega⟩
  unfold chs
  rw [hn]
  simp only [chsG, if_neg h]
  rw [chsG_fuel n (l.drop (decodeL l).2).length _ (by rw [List.length_drop]; omega) (Nat.le_refl _)]
theorem chsG_len : ∀ (n : Nat) (l : List UInt8), (chsG n l).length ≤ l.length
  | 0, _ => Nat.zero_le _
  | n + 1, l => by
    by_cases h : l = []
    · simp [chsG, h]
    · have hw := decodeL_width l
      have hl : 0 < l.length := List.length_pos_iff.2 h
      have := chsG_len n (l.drop (decodeL l).2)
      rw [List.length_drop] at this
      simp only [chsG, if_neg h, List.length_cons]; omega
theorem chs_len (l : List UInt8) : (chs l).length ≤ l.length := chsG_len _ _
theorem rnsG_len : ∀ (n : Nat) (l : List UInt8), (rnsG n l).length = (chsG n l).length
  | 0, _ => rfl
  | n + 1, l => by
    by_cases h : l = []
    · simp [chsG, rnsG, h]
    · simp only [chsG, rnsG, if_neg h, List.length_cons, rnsG_len n]
theorem rns_len (l : List UInt8) : (rns l).length = (chs l).length := rnsG_len _ _
theorem decode_drop (l : List UInt8) (i : Nat) : Utf8.decode ⟨l.toArray⟩ i = decodeL (l.drop i) := by
  have h := tail_decode ⟨l.toArray⟩ i 0
  rw [Nat.add_zero] at h
  rw [← h, decodeL]
  congr 1
  simp [ByteArray.extract, ByteArray.copySlice, ByteArray.size]
  exact List.take_of_length_le (by simp)
theorem enc_eq {r : Int} (h0 : 0 ≤ r) (h : r < 55296 ∨ (57343 < r ∧ r ≤ 1114111)) : encL r = encodeRune r := by
  have hv : Utf8.valid r = true := by simp [Utf8.valid]; omega
  simp only [encL, Utf8.encode, hv, if_true, encodeRune]
  by_cases h1 : r ≤ 127
  · rw [if_pos (by omega), encodeRuneZ_one h0 h1]; rfl
  rw [if_neg (by omega)]
  by_cases h2 : r ≤ 2047
  · rw [if_pos (by omega), encodeRuneZ_two (by omega) h2]
    simp only [List.map_cons, List.map_nil]
    rw [show (192 + r / 64).toNat = 0xC0 + r.toNat / 64 by omega, show (128 + r % 64).toNat = 0x80 + r.toNat % 64 by omega]
  rw [if_neg (by omega)]
  by_cases h3 : r ≤ 65535
  · rw [if_pos (by omega), encodeRuneZ_three (by omega)]
    simp only [List.map_cons, List.map_nil]
    rw [show (224 + r / 4096).toNat = 0xE0 + r.toNat / 4096 by omega, show (128 + r / 64 % 64).toNat = 0x80 + r.toNat / 64 % 64 by omega, show (128 + r % 64).toNat = 0x80 + r.toNat % 64 by omega]
  rw [if_neg (by omega), encodeRuneZ_four (by omega) (by omega)]
  simp only [List.map_cons, List.map_nil]
  rw [show (240 + r / 262144).toNat = 0xF0 + r.toNat / 262144 by omega, show (128 + r / 4096 % 64).toNat = 0x80 + r.toNat / 4096 % 64 by omega, show (128 + r / 64 % 64).toNat = 0x80 + r.toNat / 64 % 64 by omega, show (128 + r % 64).toNat = 0x80 + r.toNat % 64 by omega]
theorem enc_rns : ∀ (n : Nat) (l : List UInt8), validD l = true → (rnsG n l).map encL = chsG n l
  | 0, _, _ => rfl
  | n + 1, l, hv => by
    by_cases h : l = []
    · simp [chsG, rnsG, h]
    · rw [validD_step l h] at hv
      by_cases hb : (decodeL l).1 = 65533 ∧ (decodeL l).2 = 1
      · rw [if_pos hb] at hv; cases hv
      · rw [if_neg hb] at hv
        have hd : (decodeL l).1 < 55296 ∨ (57343 < (decodeL l).1 ∧ (decodeL l).1 ≤ 1114111) := by
          rw [decodeL_N]; exact decodeN_valid _ _ _ _ _ (UInt8.toNat_lt _)
        simp only [chsG, rnsG, if_neg h, List.map_cons]
        rw [enc_eq (by omega) (by omega), encode_decode l h hb, enc_rns n _ hv]
theorem rns_part {l : List UInt8} (hv : validD l = true) (a b : Nat) : (((rns l).drop a).take b).flatMap encL = (((chs l).drop a).take b).flatten := by
  rw [List.flatMap_def, List.map_take, List.map_drop, rns, enc_rns _ _ hv]; rfl
theorem runesFrom_eq (l : List UInt8) : ∀ (n i : Nat) (acc : Array Value), l.length ≤ n + i → (Conv.runesFrom ⟨l.toArray⟩ n i acc).toList = acc.toList ++ (rnsG n (l.drop i)).map (Value.int .i32)
  | 0, i, acc, h => by simp [Conv.runesFrom, rnsG]
  | n + 1, i, acc, h => by
    have hs : (⟨l.toArray⟩ : ByteArray).size = l.length := by simp [ByteArray.size]
    simp only [Conv.runesFrom, hs]
    by_cases hi : i < l.length
    · have hne : l.drop i ≠ [] := by simp; omega
      have hw := decodeL_width (l.drop i)
      rw [if_pos hi, decode_drop, runesFrom_eq l n _ _ (by omega)]
      simp only [rnsG, if_neg hne]
      simp [List.drop_drop]
    · have hne : l.drop i = [] := by simp; omega
      rw [if_neg hi, hne]; simp [rnsG]
theorem runesL_eq (l : List UInt8) : Gk.runesL l = (rns l).map (Value.int .i32) := by
  simp only [Gk.runesL]
  rw [runesFrom_eq l _ 0 _ (by omega)]
  simp [rns]
theorem part_len {l : List UInt8} (a b : Nat) : (((chs l).drop a).take b).flatten.length ≤ l.length := by
  have key : ∀ (n : Nat) (l : List UInt8) (a b : Nat), (((chsG n l).drop a).take b).flatten.length ≤ l.length := by
    intro n
    induction n with
    | zero => intro l a b; simp [chsG]
    | succ n ih =>
      intro l a b
      by_cases h : l = []
      · simp [chsG, h]
      · simp only [chsG, if_neg h]
        have hw := decodeL_width l
        have h2 : (l.take (decodeL l).2).length + (l.drop (decodeL l).2).length = l.length := by rw [← List.length_append, List.take_append_drop]
        cases a with
        | zero =>
          cases b with
          | zero => simp
          | succ b =>
            have := ih (l.drop (decodeL l).2) 0 b
            simp only [List.drop_zero, List.take_succ_cons, List.flatten_cons, List.length_append] at this ⊢
            omega
        | succ a =>
          have := ih (l.drop (decodeL l).2) a b
          simp only [List.drop_succ_cons] at this ⊢
          omega
  exact key _ _ _ _
theorem first_w {l : List UInt8} (hl : l ≠ []) (hv : validD l = true) : (firstF l).2 = ((decodeL l).2 : Int) := by
  rw [first_eq hl]
  by_cases h : decodeL l = (65533, 1)
  · rw [validD_step l hl, h] at hv; simp at hv
  · rw [if_neg h]
theorem valid_rest {l : List UInt8} (hl : l ≠ []) (hv : validD l = true) : validD (l.drop (decodeL l).2) = true := by
  rw [validD_step l hl] at hv
  split at hv
  · cases hv
  · exact hv
theorem decode_take {l : List UInt8} (hne : l ≠ []) (hv : ¬ ((decodeL l).1 = 65533 ∧ (decodeL l).2 = 1)) (t : List UInt8) : decodeL (l.take (decodeL l).2 ++ t) = decodeL l := by
  have hl : 0 < l.length := List.length_pos_iff.2 hne
  have g : ∀ (w i : Nat), i < w → w ≤ l.length → (l.take w ++ t).getD i 0 = l.getD i 0 := by
    intro w i h1 h2
    simp only [List.getD]
    rw [List.getElem?_append_left (by simp; omega), List.getElem?_take_of_lt h1]
  have gl : ∀ w : Nat, w ≤ l.length → w ≤ (l.take w ++ t).length := by intro w h; simp; omega
  rw [decodeL_N (l.take _ ++ t)]
  rw [decodeL_N l] at hv ⊢
  rcases decodeN_shape l.length (l.getD 0 0).toNat (l.getD 1 0).toNat (l.getD 2 0).toNat (l.getD 3 0).toNat with ⟨c, e⟩ | ⟨c1, c2, c3, cv, e⟩ | ⟨c1, c2, c3, c4, cv, cs, e⟩ | ⟨c1, c2, c3, c4, c5, cv, cw, e⟩ | e
  · rw [e]; dsimp only
    rw [g 1 0 (by omega) (by omega), decodeN, if_pos c]
  · rw [e]; dsimp only
    have := gl 2 (by omega)
    rw [g 2 0 (by omega) (by omega), g 2 1 (by omega) (by omega), decodeN, if_neg (by omega), if_pos (by omega), if_pos (by omega)]
  · rw [e]; dsimp only
    have := gl 3 (by omega)
    rw [g 3 0 (by omega) (by omega), g 3 1 (by omega) (by omega), g 3 2 (by omega) (by omega), decodeN, if_neg (by omega), if_neg (by omega), if_pos (by omega), if_pos (by omega)]
  · rw [e]; dsimp only
    have := gl 4 (by omega)
    rw [g 4 0 (by omega) (by omega), g 4 1 (by omega) (by omega), g 4 2 (by omega) (by omega), g 4 3 (by omega) (by omega), decodeN, if_neg (by omega), if_neg (by omega), if_neg (by omega), if_pos (by omega), if_pos (by omega)]
  · rw [e] at hv; simp at hv
theorem part_valid {l : List UInt8} (hv : validD l = true) (a b : Nat) : validD (((chs l).drop a).take b).flatten = true := by
  have key : ∀ (n : Nat) (l : List UInt8) (a b : Nat), validD l = true → validD (((chsG n l).drop a).take b).flatten = true := by
    intro n
    induction n with
    | zero => intro l a b _; simp [chsG, validD_nil]
    | succ n ih =>
      intro l a b hv
      by_cases h : l = []
      · simp [chsG, h, validD_nil]
      · have hr := valid_rest h hv
        simp only [chsG, if_neg h]
        have hw := decodeL_width l
        have hwl := decodeL_le l h
        have hl : 0 < l.length := List.length_pos_iff.2 h
        cases a with
        | zero =>
          cases b with
          | zero => simp [validD_nil]
          | succ b =>
            have hb : ¬ ((decodeL l).1 = 65533 ∧ (decodeL l).2 = 1) := fun hb => by rw [validD_step l h, if_pos hb] at hv; cases hv
            have := ih (l.drop (decodeL l).2) 0 b hr
            simp only [List.drop_zero, List.take_succ_cons, List.flatten_cons] at this ⊢
            rw [validD_step _ (by intro e; have := congrArg List.length e; rw [List.length_append, List.length_take] at this; simp only [List.length_nil] at this; omega), decode_take h hb, if_neg hb]
            have hlen : (l.take (decodeL l).2).length = (decodeL l).2 := by simp; omega
            rw [List.drop_append, List.drop_of_length_le (by omega), hlen, Nat.sub_self, List.drop_zero, List.nil_append]
            exact this
        | succ a => exact ih _ a b hr
  exact key _ _ _ _ hv
end Go.Gk.Utf
end

section
namespace Go.Gk.Val
open Go Go.Gk
attribute [local irreducible] gwp gws

theorem takeWhile_spec {α : Type} {p : α → Bool} : ∀ (l : List α), (∀ i j (hj : j < l.length) (hi : i < j), p l[j] = true → p (l[i]'(by omega)) = true) → ∀ i (hi : i < l.length), p l[i] = true ↔ i < (l.takeWhile p).length
  | [], _, i, hi => absurd hi (Nat.not_lt_zero i)
  | a :: l, h, i, hi => by
    have ih := takeWhile_spec l (fun i j hj hi hp => h (i + 1) (j + 1) (by simp; omega) (by omega) hp)
    by_cases ha : p a = true
    · rw [List.takeWhile_cons_of_pos ha, List.length_cons]
      cases i with
      | zero => simp [ha]
      | succ i => rw [List.getElem_cons_succ, ih i (by simpa using hi)]; omega
    · rw [List.takeWhile_cons_of_neg ha]
      cases i with
      | zero => simp [ha]
      | succ i =>
        constructor
        · intro hp; exact absurd (h 0 (i + 1) hi (by omega) hp) ha
        · intro hlt; simp at hlt
def lowK (ks : List (List UInt8)) (k : List UInt8) : Nat := (ks.takeWhile fun x => Op.bytesLess x k).length
theorem lowK_le (ks : List (List UInt8)) (k : List UInt8) : lowK ks k ≤ ks.length := by
  have := congrArg List.length (List.takeWhile_append_dropWhile (p := fun x => Op.bytesLess x k) (l := ks))
  rw [List.length_append] at this
  simp only [lowK]; omega
theorem rise_step {ks : List (List UInt8)} (h : rising ks = true) {i : Nat} (hi : i + 1 < ks.length) : Op.bytesLess ks[i] ks[i + 1] = true := by
  by_cases hb : rise1 ks (i + 1) = true
  · rw [rise1_s hi, Bool.and_eq_true] at hb; exact hb.2
  · rw [rising, riseN_false (by simpa using hb) hi] at h; cases h
theorem rise_lt {ks : List (List UInt8)} (h : rising ks = true) : ∀ {j i : Nat} (hj : j < ks.length) (hi : i < j), Op.bytesLess (ks[i]'(by omega)) ks[j] = true := by
  intro j
  induction j with
  | zero => intro i _ hi; omega
  | succ j ih =>
    intro i hj hi
    by_cases e : i = j
    · subst e; exact rise_step h hj
    · exact bl_trans (ih (by omega) (by omega)) (rise_step h hj)
theorem low_spec {ks : List (List UInt8)} (h : rising ks = true) (k : List UInt8) (i : Nat) (hi : i < ks.length) : Op.bytesLess ks[i] k = true ↔ i < lowK ks k :=
  takeWhile_spec (p := fun x => Op.bytesLess x k) ks (fun i j hj hi hp => bl_trans (rise_lt h hj hi) hp) i hi
theorem mem_low {ks : List (List UInt8)} (h : rising ks = true) {k : List UInt8} {i : Nat} (hi : i < ks.length) (e : ks[i] = k) : lowK ks k = i := by
  have h1 : ¬ i < lowK ks k := by rw [← low_spec h k i hi, e, bl_irrefl]; simp
  by_cases h2 : lowK ks k < i
  · have h3 := rise_lt h hi h2
    rw [e] at h3
    have := (low_spec h k (lowK ks k) (by omega)).1 h3
    omega
  · omega
theorem mem_iff {ks : List (List UInt8)} (h : rising ks = true) {k : List UInt8} : k ∈ ks ↔ ∃ hi : lowK ks k < ks.length, ks[lowK ks k] = k := by
  constructor
  · intro hm
    obtain ⟨i, hi, e⟩ := List.getElem_of_mem hm
    have := mem_low h hi e
    subst this
    exact ⟨hi, e⟩
  · rintro ⟨hi, e⟩
    rw [← e]; exact List.getElem_mem hi
section
variable {P : Program} {pan : List PanicEntry → Post} {Qn : Env → Post} {Ls L : List PHeap} {ρ : Env} {d : PHeap} {s : GS} {t : Nat} {tk : Bool}
theorem w_half {x y : Operand} {k' : IntKind} {a : Int} (ex : ev ρ x = .int .u64 a) (ey : ev ρ y = .int k' 1) (h0 : 0 ≤ a) (h1 : a ≤ 9223372036854775807) (h : gws P pan Qn s Ls (upd ρ t (.int .u64 (a / 2))) d L) :
    gws P pan Qn (.op tk ⟨some t, none, .bin .shr x y⟩ s) Ls ρ d L := by
  refine w_bin ?_ h
  rw [ex, ey]
  simp [binV, IntKind.bits, Int.fdiv_eq_ediv_of_nonneg]
end
end Go.Gk.Val
end

section
namespace Go.Gk.Val
open Go Go.Gk Go.Gk.Utf

theorem riseN_iff {ks : List (List UInt8)} : ∀ {m : Nat}, riseN ks m = true ↔ ∀ i, i < m → rise1 ks i = true
  | 0 => by simp [riseN]
  | m + 1 => by
    rw [riseN, Bool.and_eq_true, riseN_iff]
    constructor
    · rintro ⟨h1, h2⟩ i hi
      rcases Nat.lt_succ_iff_lt_or_eq.1 hi with h | rfl
      · exact h1 i h
      · exact h2
    · intro h
      exact ⟨fun i hi => h i (by omega), h m (by omega)⟩
abbrev Rise (ks : List (List UInt8)) : Prop := ks.Pairwise fun a b => Op.bytesLess a b = true
theorem rising_iff {ks : List (List UInt8)} : rising ks = true ↔ (∀ k ∈ ks, u8 k = true) ∧ Rise ks := by
  constructor
  · intro h
    refine ⟨fun k hk => ?_, ?_⟩
    · obtain ⟨i, hi, rfl⟩ := List.getElem_of_mem hk
      have := riseN_iff.1 h i hi
      rw [rise1, Bool.and_eq_true] at this
      simpa [List.getD, hi] using this.1
    · rw [Rise, List.pairwise_iff_getElem]
      intro i j hi hj hij
      exact rise_lt h hj hij
  · rintro ⟨h1, h2⟩
    rw [Rise, List.pairwise_iff_getElem] at h2
    refine riseN_iff.2 fun i hi => ?_
    rw [rise1, Bool.and_eq_true]
    refine ⟨by simpa [List.getD, hi] using h1 _ (List.getElem_mem hi), ?_⟩
    cases i with
    | zero => rfl
    | succ i =>
      have := h2 i (i + 1) (by omega) hi (by omega)
      have hi' : i < ks.length := by omega
      simpa [List.getD, hi, hi'] using this
theorem rising_sub {ks ls : List (List UInt8)} (h : rising ks = true) (hs : ls.Sublist ks) : rising ls = true := by
  rw [rising_iff] at h ⊢
  exact ⟨fun k hk => h.1 k (hs.subset hk), h.2.sublist hs⟩
theorem rise_nodup {ks : List (List UInt8)} (h : Rise ks) : ks.Nodup := h.imp fun {a b} hab e => by subst e; rw [bl_irrefl] at hab; cases hab
theorem low_lt : ∀ {ks : List (List UInt8)} {k : List UInt8} {j : Nat} (_ : j < lowK ks k) (hj : j < ks.length), Op.bytesLess ks[j] k = true
  | [], _, _, _, hj => absurd hj (Nat.not_lt_zero _)
  | a :: ks, k, j, h, hj => by
    unfold lowK at h
    rw [List.takeWhile_cons] at h
    by_cases e : Op.bytesLess a k = true
    · rw [if_pos e, List.length_cons] at h
      cases j with
      | zero => exact e
      | succ j => exact low_lt (ks := ks) (by unfold lowK; omega) (by simpa using hj)
    · rw [if_neg e] at h; exact absurd h (Nat.not_lt_zero _)
theorem low_at : ∀ {ks : List (List UInt8)} {k : List UInt8} (hj : lowK ks k < ks.length), Op.bytesLess ks[lowK ks k] k = false
  | [], _, hj => absurd hj (Nat.not_lt_zero _)
  | a :: ks, k, hj => by
    by_cases e : Op.bytesLess a k = true
    · have h0 : lowK (a :: ks) k = lowK ks k + 1 := by unfold lowK; rw [List.takeWhile_cons, if_pos e, List.length_cons]
      have hj' : lowK ks k < ks.length := by rw [h0] at hj; simpa using hj
      have := low_at hj'
      simp only [h0, List.getElem_cons_succ]
      exact this
    · have h0 : lowK (a :: ks) k = 0 := by unfold lowK; rw [List.takeWhile_cons, if_neg e]; rfl
      simp only [h0, List.getElem_cons_zero]
      simpa using e
def insK (o : List (List UInt8) × List V) (k : List UInt8) (x : V) : List (List UInt8) × List V :=
  if o.1[lowK o.1 k]? = some k then (o.1, o.2.set (lowK o.1 k) x)
  else (o.1.take (lowK o.1 k) ++ [k] ++ o.1.drop (lowK o.1 k), (o.2.take (lowK o.1 k) ++ [x] ++ o.2.drop (lowK o.1 k)).set (lowK o.1 k) x)
def makeL (ks : List (List UInt8)) (l : List V) : Nat → List (List UInt8) × List V
  | 0 => ([], [])
  | n + 1 => insK (makeL ks l n) (ks.getD n []) (l.getD n V.zero)
theorem ins_len {o : List (List UInt8) × List V} (h : o.1.length = o.2.length) (k : List UInt8) (x : V) : (insK o k x).1.length = (insK o k x).2.length ∧ (insK o k x).1.length ≤ o.1.length + 1 := by
  have := lowK_le o.1 k
  unfold insK
  split
  · simp [h]
  · simp; omega
theorem make_len (ks : List (List UInt8)) (l : List V) : ∀ n, (makeL ks l n).1.length = (makeL ks l n).2.length ∧ (makeL ks l n).1.length ≤ n
  | 0 => ⟨rfl, Nat.le_refl _⟩
  | n + 1 => by
    have ih := make_len ks l n
    have := ins_len ih.1 (ks.getD n []) (l.getD n V.zero)
    exact ⟨this.1, by have := this.2; have := ih.2; rw [makeL]; omega⟩

theorem may_one {v : V} (h : mayV v = true) : oneB v = true := by rw [mayV_eq, Bool.and_eq_true] at h; exact h.1
theorem may_mem {v x : V} (h : mayV v = true) (hx : x ∈ v.list) : mayV x = true := by rw [mayV_eq, Bool.and_eq_true, List.all_eq_true] at h; exact h.2 x hx
theorem may_list {l : List V} (h : ∀ x ∈ l, mayV x = true) : mayV (.mk 5 0 0 [] l []) = true := by
  rw [mayV_eq, Bool.and_eq_true, List.all_eq_true]
  exact ⟨by simp [oneB, bareB, V.kind, V.m, V.e, V.text, V.list, V.keys, numRight, u8, Lib.validD_nil, rising, riseN], h⟩
theorem may_map {l : List V} {ks : List (List UInt8)} (hr : rising ks = true) (hl : ks.length = l.length) (h : ∀ x ∈ l, mayV x = true) : mayV (.mk 6 0 0 [] l ks) = true := by
  rw [mayV_eq, Bool.and_eq_true, List.all_eq_true]
  refine ⟨?_, h⟩
  simp [oneB, bareB, V.kind, V.m, V.e, V.text, V.list, V.keys, numRight, u8, Lib.validD_nil]
  exact ⟨hr, hl⟩
theorem depth_mk {k m e : Int} {t : List UInt8} {l : List V} {ks : List (List UInt8)} {n : Nat} (h : ∀ x ∈ l, depthV x ≤ n) : depthV (.mk k m e t l ks) ≤ n + 1 := depth_le.2 h
theorem right_iff {v : V} : rightV v = 0 ↔ mayV v = true ∧ depthV v ≤ 48 := by
  unfold rightV
  constructor
  · intro h
    by_cases h1 : depthV v ≤ 48
    · rw [if_pos h1] at h
      by_cases h2 : mayV v = true
      · exact ⟨h2, h1⟩
      · rw [if_neg h2] at h; cases h
    · rw [if_neg h1] at h; cases h
  · rintro ⟨h1, h2⟩
    rw [if_pos h2, if_pos h1]
theorem i64_0 : I64 0 := ⟨by decide, by decide⟩
theorem i64_4 : I64 4 := ⟨by decide, by decide⟩
theorem i64_5 : I64 5 := ⟨by decide, by decide⟩
theorem i64_6 : I64 6 := ⟨by decide, by decide⟩
abbrev zVal : List Value := [.int .i64 0, .int .i64 0, .int .i64 0, strV [], .slice none 0 0, .slice none 0 0]
theorem finVDE {ρ : Env} {d : PHeap} {L : List PHeap} {b t u : Nat} {T : TypeId} {cs : List Value} {w : V} {e : Int} (i : Nat) (e4 : ρ t = .pointer (some ⟨b, 0, none⟩)) (hi : L[i]? = some (bx b T cs)) (e5 : ρ u = .int .i64 e) (hw : RVal d cs w) :
    retPost [.cell t (some 6), .tmp u] (Ret fun r d' L' => L' = [] ∧ ∃ cs', r = .tuple #[.agg cs'.toArray, .int .i64 e] ∧ RVal d' cs' w) ρ d L :=
  finS (L' := []) [.agg cs.toArray, .int .i64 e] ⟨res_cell i e4 hi (RVal.len hw), res_tmp e5, trivial⟩ (List.nil_sublist _) ⟨rfl, cs, rfl, hw⟩
end Go.Gk.Val
end

section
namespace Go.Gk.Val
open Go Go.Gk Go.Gk.Num

theorem cmpI_lt {a b : Int} (h : a < b) : cmpI a b = -1 := if_pos h
theorem cmpI_gt {a b : Int} (h : b < a) : cmpI a b = 1 := by rw [cmpI, if_neg (by omega), if_pos h]
theorem cmpI_eq {a b : Int} (h : a = b) : cmpI a b = 0 := by rw [cmpI, if_neg (by omega), if_neg (by omega)]
theorem cmpI_swap (a b : Int) : cmpI a b = -cmpI b a := by
  rcases Int.lt_trichotomy a b with h | h | h
  · rw [cmpI_lt h, cmpI_gt h]
  · rw [cmpI_eq h, cmpI_eq h.symm]; rfl
  · rw [cmpI_gt h, cmpI_lt h]; rfl
theorem cmpI_zero {a b : Int} : cmpI a b = 0 ↔ a = b := by
  rcases Int.lt_trichotomy a b with h | h | h
  · rw [cmpI_lt h]; simp; omega
  · rw [cmpI_eq h]; simp [h]
  · rw [cmpI_gt h]; simp; omega
theorem cmpI_range (a b : Int) : cmpI a b = -1 ∨ cmpI a b = 0 ∨ cmpI a b = 1 := by
  rcases Int.lt_trichotomy a b with h | h | h
  · exact .inl (cmpI_lt h)
  · exact .inr (.inl (cmpI_eq h))
  · exact .inr (.inr (cmpI_gt h))
theorem cmpI_of {a b c d : Int} (h1 : a < b ↔ c < d) (h2 : b < a ↔ d < c) : cmpI a b = cmpI c d := by
  rcases Int.lt_trichotomy a b with h | h | h
  · rw [cmpI_lt h, cmpI_lt (h1.1 h)]
  · have h3 : ¬ c < d := fun q => by have := h1.2 q; omega
    have h4 : ¬ d < c := fun q => by have := h2.2 q; omega
    rw [cmpI_eq h, cmpI_eq (by omega)]
  · rw [cmpI_gt h, cmpI_gt (h2.1 h)]
theorem cmpI_neg (a b : Int) : cmpI (-a) (-b) = -cmpI a b := by
  rw [← cmpI_swap]
  exact cmpI_of (by omega) (by omega)
theorem cmpI_mul (a b : Int) {n : Nat} (h : 0 < n) : cmpI (a * n) (b * n) = cmpI a b := by
  have hn : (0 : Int) < n := by omega
  have key : ∀ x y : Int, x * n < y * n ↔ x < y := fun x y => ⟨fun q => Int.lt_of_mul_lt_mul_right q (by omega), fun q => Int.mul_lt_mul_of_pos_right q hn⟩
  exact cmpI_of (key _ _) (key _ _)

def numC (m1 e1 m2 e2 : Int) : Int := cmpI (m1 * ((10 ^ (e1 - min e1 e2).toNat : Nat) : Int)) (m2 * ((10 ^ (e2 - min e1 e2).toNat : Nat) : Int))
theorem numC_at (m1 e1 m2 e2 e : Int) (h1 : e ≤ e1) (h2 : e ≤ e2) : cmpI (m1 * ((10 ^ (e1 - e).toNat : Nat) : Int)) (m2 * ((10 ^ (e2 - e).toNat : Nat) : Int)) = numC m1 e1 m2 e2 := by
  obtain ⟨k, hk⟩ : ∃ k : Nat, min e1 e2 - e = k := ⟨(min e1 e2 - e).toNat, by omega⟩
  have f1 : (e1 - e).toNat = (e1 - min e1 e2).toNat + k := by omega
  have f2 : (e2 - e).toNat = (e2 - min e1 e2).toNat + k := by omega
  rw [f1, f2, Nat.pow_add, Nat.pow_add, Int.natCast_mul, Int.natCast_mul, ← Int.mul_assoc, ← Int.mul_assoc, cmpI_mul _ _ (Nat.pow_pos (by omega)), numC]
theorem numC_swap (m1 e1 m2 e2 : Int) : numC m1 e1 m2 e2 = -numC m2 e2 m1 e1 := by
  rw [numC, numC, cmpI_swap, Int.min_comm]

theorem foldl_val (l : List Nat) : ∀ m, l.foldl (fun m d => m * 10 + d) m = m * 10 ^ l.length + val l := by
  induction l with
  | nil => intro m; simp [val]
  | cons a l ih =>
    intro m
    simp only [List.foldl_cons, val, List.length_cons]
    rw [ih, ih (0 * 10 + a), Nat.zero_mul, Nat.zero_add, Nat.pow_succ, Nat.add_mul, Nat.mul_assoc, Nat.mul_comm 10, Nat.add_assoc]
theorem val_cons (a : Nat) (l : List Nat) : val (a :: l) = a * 10 ^ l.length + val l := by
  rw [val, List.foldl_cons, foldl_val]; simp
theorem val_nil : val [] = 0 := rfl
theorem val_bound {l : List Nat} (h : ∀ d ∈ l, d < 10) : val l < 10 ^ l.length := by
  induction l with
  | nil => decide
  | cons a l ih =>
    have := ih (fun d hd => h d (List.mem_cons_of_mem _ hd))
    have ha := h a (List.mem_cons_self ..)
    rw [val_cons, List.length_cons, Nat.pow_succ]
    have : (a + 1) * 10 ^ l.length ≤ 10 * 10 ^ l.length := Nat.mul_le_mul_right _ (by omega)
    rw [Nat.add_mul, Nat.one_mul] at this
    omega
theorem val_pos {l : List Nat} (h : ∃ d ∈ l, d ≠ 0) : 0 < val l := by
  induction l with
  | nil => obtain ⟨d, hd, _⟩ := h; cases hd
  | cons a l ih =>
    rw [val_cons]
    obtain ⟨d, hd, hn⟩ := h
    rcases List.mem_cons.1 hd with rfl | hd
    · have := Nat.mul_pos (Nat.pos_of_ne_zero hn) (Nat.pow_pos (n := l.length) (show 0 < 10 by omega)); omega
    · have := ih ⟨d, hd, hn⟩; omega
theorem val_zero_iff {l : List Nat} : val l = 0 ↔ ∀ d ∈ l, d = 0 := by
  constructor
  · intro h d hd
    apply Classical.byContradiction
    intro hn
    have := val_pos ⟨d, hd, hn⟩; omega
  · intro h
    induction l with
    | nil => rfl
    | cons a l ih =>
      rw [val_cons, ih (fun d hd => h d (List.mem_cons_of_mem _ hd)), h a (List.mem_cons_self ..)]; simp
theorem val_append (a b : List Nat) : val (a ++ b) = val a * 10 ^ b.length + val b := by
  rw [val, List.foldl_append, foldl_val]; rfl
theorem val_zeros (n : Nat) : val (List.replicate n 0) = 0 := val_zero_iff.2 fun d hd => (List.mem_replicate.1 hd).2
theorem digN_low {n : Nat} (h : n ≠ 0) : 10 ^ ((digN n).length - 1) ≤ n := by
  have := (digN_len n ((digN n).length - 1))
  apply Classical.byContradiction
  intro q
  have h2 := this.2 (by omega)
  have : (digN n).length ≠ 0 := by obtain ⟨d, l, e, _⟩ := digN_head h; rw [e]; simp
  omega
def dch (d : Nat) : UInt8 := UInt8.ofNat (48 + d)
theorem dec_digN : ∀ u, u ≠ 0 → Lib.decDigits u = (digN u).map dch := by
  intro u
  induction u using Nat.strongRecOn with
  | _ u ih =>
    intro hu
    rw [Lib.decDigits, digN_pos hu, List.map_append]
    by_cases h : u < 10
    · rw [dif_pos h, show u / 10 = 0 by omega, digN_zero, show u % 10 = u by omega]; rfl
    · rw [dif_neg h, ih (u / 10) (by omega) (by omega)]; rfl
theorem dch_lt {a b : Nat} (ha : a < 10) (hb : b < 10) : dch a < dch b ↔ a < b := by
  rw [UInt8.lt_iff_toNat_lt]
  simp only [dch, UInt8.toNat_ofNat']
  omega
theorem lex_val : ∀ (B A : List Nat) (k : Nat), A.length = B.length + k → (∀ d ∈ A, d < 10) → (∀ d ∈ B, d < 10) → (k ≠ 0 → ∃ d ∈ A.drop B.length, d ≠ 0) →
    Lib.compareBytes (A.map dch) (B.map dch) = cmpI (val A) ((val B * 10 ^ k : Nat) : Int)
  | [], A, k, hl, hA, _, hz => by
    cases A with
    | nil =>
      have : k = 0 := by simpa using hl.symm
      subst this; rfl
    | cons a A =>
      have hk : k ≠ 0 := by simp at hl; omega
      have := val_pos (hz hk)
      simp only [List.length_nil, List.drop_zero] at this
      rw [cmpI_gt (by rw [val_nil]; omega)]; rfl
  | b :: B, [], k, hl, _, _, _ => by simp at hl; omega
  | b :: B, a :: A, k, hl, hA, hB, hz => by
    have hl' : A.length = B.length + k := by simp at hl; omega
    have ha := hA a (List.mem_cons_self ..)
    have hb := hB b (List.mem_cons_self ..)
    have hA' : ∀ d ∈ A, d < 10 := fun d hd => hA d (List.mem_cons_of_mem _ hd)
    have hB' : ∀ d ∈ B, d < 10 := fun d hd => hB d (List.mem_cons_of_mem _ hd)
    have vA := val_bound hA'
    have vB : val B * 10 ^ k < 10 ^ A.length := by
      rw [hl', Nat.pow_add]; exact Nat.mul_lt_mul_of_pos_right (val_bound hB') (Nat.pow_pos (by omega))
    have e : val (b :: B) * 10 ^ k = b * 10 ^ A.length + val B * 10 ^ k := by rw [val_cons, Nat.add_mul, hl', Nat.pow_add, Nat.mul_assoc]
    rw [List.map_cons, List.map_cons, Lib.compareBytes, val_cons, e]
    by_cases h1 : a < b
    · rw [if_pos ((dch_lt ha hb).2 h1), cmpI_lt]
      have : (a + 1) * 10 ^ A.length ≤ b * 10 ^ A.length := Nat.mul_le_mul_right _ h1
      rw [Nat.add_mul, Nat.one_mul] at this; omega
    · rw [if_neg (fun h => h1 ((dch_lt ha hb).1 h))]
      by_cases h2 : b < a
      · rw [if_pos ((dch_lt hb ha).2 h2), cmpI_gt]
        have : (b + 1) * 10 ^ A.length ≤ a * 10 ^ A.length := Nat.mul_le_mul_right _ h2
        rw [Nat.add_mul, Nat.one_mul] at this; omega
      · rw [if_neg (fun h => h2 ((dch_lt hb ha).1 h))]
        obtain rfl : a = b := by omega
        rw [lex_val B A k hl' hA' hB' (fun hk => by simpa using hz hk)]
        exact cmpI_of (by omega) (by omega)
theorem cmpB_swap : ∀ a b : List UInt8, Lib.compareBytes a b = -Lib.compareBytes b a
  | [], [] => rfl
  | [], _ :: _ => rfl
  | _ :: _, [] => rfl
  | a :: l, b :: m => by
    simp only [Lib.compareBytes]
    by_cases h1 : a < b
    · have h2 : ¬ b < a := fun h => by rw [UInt8.lt_iff_toNat_lt] at h h1; omega
      rw [if_pos h1, if_neg h2, if_pos h1]
    · by_cases h2 : b < a
      · rw [if_neg h1, if_pos h2, if_pos h2]; rfl
      · rw [if_neg h1, if_neg h2, if_neg h2, if_neg h1, cmpB_swap l m]
theorem last_drop {n : Nat} (h : n % 10 ≠ 0) {k : Nat} (hk : k < (digN n).length) : ∃ d ∈ (digN n).drop k, d ≠ 0 := by
  have hn : n ≠ 0 := by rintro rfl; simp at h
  refine ⟨n % 10, ?_, h⟩
  rw [digN_pos hn] at hk ⊢
  simp at hk
  rw [List.drop_append_of_le_length (by omega)]
  simp
theorem absC_lt {m1 m2 a b : Nat} (h1 : m1 ≠ 0) (h2 : m2 ≠ 0) (h : (digN m1).length + a < (digN m2).length + b) : m1 * 10 ^ a < m2 * 10 ^ b := by
  have hlow := digN_low h2
  have hhi := (digN_len m1 (digN m1).length).1 (Nat.le_refl _)
  have hpos : (digN m2).length ≠ 0 := by obtain ⟨d, l, e, _⟩ := digN_head h2; rw [e]; simp
  have s1 : m1 * 10 ^ a < 10 ^ (digN m1).length * 10 ^ a := Nat.mul_lt_mul_of_pos_right hhi (Nat.pow_pos (by omega))
  have s2 : 10 ^ ((digN m2).length - 1) * 10 ^ b ≤ m2 * 10 ^ b := Nat.mul_le_mul_right _ hlow
  have s3 : 10 ^ (digN m1).length * 10 ^ a ≤ 10 ^ ((digN m2).length - 1) * 10 ^ b := by
    rw [← Nat.pow_add, ← Nat.pow_add]; exact Nat.pow_le_pow_right (by omega) (by omega)
  omega
theorem absC_eq {m1 m2 a b : Nat} (h1 : m1 % 10 ≠ 0) (h2 : m2 % 10 ≠ 0) (h : (digN m1).length + a = (digN m2).length + b) (hab : a = 0 ∨ b = 0) :
    Lib.compareBytes (Lib.decDigits m1) (Lib.decDigits m2) = cmpI ((m1 * 10 ^ a : Nat) : Int) ((m2 * 10 ^ b : Nat) : Int) := by
  have n1 : m1 ≠ 0 := by rintro rfl; simp at h1
  have n2 : m2 ≠ 0 := by rintro rfl; simp at h2
  have p1 : (digN m1).length ≠ 0 := by obtain ⟨d, l, e, _⟩ := digN_head n1; rw [e]; simp
  have p2 : (digN m2).length ≠ 0 := by obtain ⟨d, l, e, _⟩ := digN_head n2; rw [e]; simp
  rw [dec_digN _ n1, dec_digN _ n2]
  rcases hab with rfl | rfl
  · rw [lex_val (digN m2) (digN m1) b (by omega) (digN_lt _) (digN_lt _) (fun hb => last_drop h1 (by omega)), val_digN, val_digN]; simp
  · rw [cmpB_swap, lex_val (digN m1) (digN m2) a (by omega) (digN_lt _) (digN_lt _) (fun hb => last_drop h2 (by omega)), val_digN, val_digN, ← cmpI_swap]; simp
theorem sgn_neg {m : Int} (h : m < 0) : sgn m = -1 := if_pos h
theorem sgn_pos {m : Int} (h : 0 < m) : sgn m = 1 := by rw [sgn, if_neg (by omega), if_pos h]
theorem sgn_zero : sgn 0 = 0 := rfl
theorem numC_sgn {m1 e1 m2 e2 : Int} (h : sgn m1 ≠ sgn m2 ∨ sgn m1 = 0) : numC m1 e1 m2 e2 = cmpI (sgn m1) (sgn m2) := by
  rw [numC]
  have q1 : (0 : Int) < ((10 ^ (e1 - min e1 e2).toNat : Nat) : Int) := by have := Nat.pow_pos (n := (e1 - min e1 e2).toNat) (show 0 < 10 by omega); omega
  have q2 : (0 : Int) < ((10 ^ (e2 - min e1 e2).toNat : Nat) : Int) := by have := Nat.pow_pos (n := (e2 - min e1 e2).toNat) (show 0 < 10 by omega); omega
  generalize ((10 ^ (e1 - min e1 e2).toNat : Nat) : Int) = x at *
  generalize ((10 ^ (e2 - min e1 e2).toNat : Nat) : Int) = y at *
  have key : ∀ (m : Int) {x : Int}, 0 < x → (m < 0 ∧ m * x < 0 ∧ sgn m = -1) ∨ (m = 0 ∧ m * x = 0 ∧ sgn m = 0) ∨ (0 < m ∧ 0 < m * x ∧ sgn m = 1) := fun m x hx => by
    rcases Int.lt_trichotomy m 0 with h | h | h
    · exact .inl ⟨h, Int.mul_neg_of_neg_of_pos h hx, sgn_neg h⟩
    · subst h; exact .inr (.inl ⟨rfl, by simp, rfl⟩)
    · exact .inr (.inr ⟨h, Int.mul_pos h hx, sgn_pos h⟩)
  rcases key m1 q1 with ⟨a1, a2, a3⟩ | ⟨a1, a2, a3⟩ | ⟨a1, a2, a3⟩ <;> rcases key m2 q2 with ⟨b1, b2, b3⟩ | ⟨b1, b2, b3⟩ | ⟨b1, b2, b3⟩ <;> rw [a3, b3] at h ⊢ <;> first | (exfalso; revert h; decide) | exact cmpI_of (by omega) (by omega)
theorem numC_abs {m1 e1 m2 e2 : Int} (h : sgn m1 = sgn m2) (h0 : sgn m1 ≠ 0) :
    numC m1 e1 m2 e2 = sgn m1 * cmpI ((m1.natAbs * 10 ^ (e1 - min e1 e2).toNat : Nat) : Int) ((m2.natAbs * 10 ^ (e2 - min e1 e2).toNat : Nat) : Int) := by
  rw [numC]
  generalize (10 ^ (e1 - min e1 e2).toNat : Nat) = x at *
  generalize (10 ^ (e2 - min e1 e2).toNat : Nat) = y at *
  rw [Int.natCast_mul, Int.natCast_mul]
  rcases Int.lt_trichotomy m1 0 with q | q | q
  · have q2 : m2 < 0 := by
      rw [sgn_neg q] at h
      rcases Int.lt_trichotomy m2 0 with r | r | r
      · exact r
      · subst r; cases h
      · rw [sgn_pos r] at h; cases h
    rw [sgn_neg q, show m1 = -(m1.natAbs : Int) by omega, show m2 = -(m2.natAbs : Int) by omega, Int.neg_mul, Int.neg_mul, cmpI_neg]
    simp
  · subst q; exact absurd rfl h0
  · have q2 : 0 < m2 := by
      rw [sgn_pos q] at h
      rcases Int.lt_trichotomy m2 0 with r | r | r
      · rw [sgn_neg r] at h; cases h
      · subst r; cases h
      · exact r
    rw [sgn_pos q, show (m1.natAbs : Int) = m1 by omega, show (m2.natAbs : Int) = m2 by omega, Int.one_mul]
theorem numR {m e : Int} (h : numRight m e = true) (h0 : m ≠ 0) : -1000000000000000000 < m ∧ m < 1000000000000000000 ∧ m.natAbs % 10 ≠ 0 ∧ -64 ≤ e ∧ e ≤ 64 := by
  rw [numRight, if_neg h0, decide_eq_true_eq] at h
  omega
theorem numR0 {m e : Int} (h : numRight m e = true) : -1000000000000000000 < m ∧ m < 1000000000000000000 ∧ -64 ≤ e ∧ e ≤ 64 := by
  by_cases h0 : m = 0
  · subst h0; simp [numRight] at h; omega
  · have := numR h h0; omega
theorem numC_place {m1 e1 m2 e2 : Int} (r1 : numRight m1 e1 = true) (r2 : numRight m2 e2 = true) (h : sgn m1 = sgn m2) (h0 : sgn m1 ≠ 0) :
    numC m1 e1 m2 e2 = sgn m1 * (if ((Lib.decDigits m1.natAbs).length : Int) + e1 ≠ (Lib.decDigits m2.natAbs).length + e2 then cmpI ((Lib.decDigits m1.natAbs).length + e1) ((Lib.decDigits m2.natAbs).length + e2) else Lib.compareBytes (Lib.decDigits m1.natAbs) (Lib.decDigits m2.natAbs)) := by
  have z1 : m1 ≠ 0 := by rintro rfl; exact h0 rfl
  have z2 : m2 ≠ 0 := by rintro rfl; exact h0 (h.trans rfl)
  obtain ⟨_, _, d1, _, _⟩ := numR r1 z1
  obtain ⟨_, _, d2, _, _⟩ := numR r2 z2
  rw [numC_abs h h0]
  congr 1
  have n1 : m1.natAbs ≠ 0 := by omega
  have n2 : m2.natAbs ≠ 0 := by omega
  have l1 : (Lib.decDigits m1.natAbs).length = (digN m1.natAbs).length := by rw [dec_digN _ n1, List.length_map]
  have l2 : (Lib.decDigits m2.natAbs).length = (digN m2.natAbs).length := by rw [dec_digN _ n2, List.length_map]
  rw [l1, l2]
  split
  · rename_i hne
    rcases Int.lt_or_gt_of_ne hne with q | q
    · rw [cmpI_lt q, cmpI_lt]
      have := absC_lt (a := (e1 - min e1 e2).toNat) (b := (e2 - min e1 e2).toNat) n1 n2 (by omega)
      omega
    · rw [cmpI_gt q, cmpI_gt]
      have := absC_lt (a := (e2 - min e1 e2).toNat) (b := (e1 - min e1 e2).toNat) n2 n1 (by omega)
      omega
  · rename_i he
    exact (absC_eq d1 d2 (by omega) (by omega)).symm
theorem numC_zero {m1 e1 m2 e2 : Int} (r1 : numRight m1 e1 = true) (r2 : numRight m2 e2 = true) (h : numC m1 e1 m2 e2 = 0) : m1 = m2 ∧ e1 = e2 := by
  by_cases h0 : sgn m1 = sgn m2 ∧ sgn m1 ≠ 0
  · obtain ⟨h1, h2⟩ := h0
    have z1 : m1 ≠ 0 := by rintro rfl; exact h2 rfl
    have z2 : m2 ≠ 0 := by rintro rfl; exact h2 (h1.trans rfl)
    obtain ⟨_, _, d1, _, _⟩ := numR r1 z1
    obtain ⟨_, _, d2, _, _⟩ := numR r2 z2
    rw [numC, cmpI_zero] at h
    have key : ∀ (a b : Int) (k : Nat), a.natAbs % 10 ≠ 0 → a = b * ((10 ^ k : Nat) : Int) → k = 0 := by
      intro a b k ha e
      cases k with
      | zero => rfl
      | succ k =>
        exfalso; apply ha
        rw [e, Int.natAbs_mul, Int.natAbs_natCast, Nat.pow_succ, ← Nat.mul_assoc]; simp
    rcases Int.le_total e1 e2 with q | q
    · rw [show (e1 - min e1 e2).toNat = 0 by omega, Nat.pow_zero, Int.natCast_one, Int.mul_one] at h
      have := key _ _ _ d1 h
      rw [this] at h
      exact ⟨by simpa using h, by omega⟩
    · rw [show (e2 - min e1 e2).toNat = 0 by omega, Nat.pow_zero, Int.natCast_one, Int.mul_one] at h
      have := key _ _ _ d2 h.symm
      rw [this] at h
      exact ⟨by simpa using h, by omega⟩
  · rw [numC_sgn (by
      by_cases q : sgn m1 = sgn m2
      · right; apply Classical.byContradiction; intro r; exact h0 ⟨q, r⟩
      · exact .inl q), cmpI_zero] at h
    have hz : sgn m1 = 0 := by apply Classical.byContradiction; intro r; exact h0 ⟨h, r⟩
    have z : ∀ m : Int, sgn m = 0 → m = 0 := fun m hm => by
      rcases Int.lt_trichotomy m 0 with r | r | r
      · rw [sgn_neg r] at hm; cases hm
      · exact r
      · rw [sgn_pos r] at hm; cases hm
    have a := z m1 hz
    have b := z m2 (h ▸ hz)
    subst a; subst b
    simp [numRight] at r1 r2
    omega
end Go.Gk.Val
end

section
namespace Go.Gk
open Go
section
variable {P : Program} {pan : List PanicEntry → Post} {Qn : Env → Post} {Ls L : List PHeap} {ρ : Env} {d : PHeap} {s : GS} {t : Nat} {tk : Bool}
theorem w_bstF {y : Operand} {l : List UInt8} (ey : ev ρ y = strV l) (h : gws P pan Qn s Ls (upd ρ t (.agg [.int .i64 0, strV l, .int .i64 0, .int .i64 0, .bool false, .bool false].toArray)) d L) :
    gws P pan Qn (.op tk ⟨some t, none, .bld [(0, 1), (1, 1), (2, 1), (3, 1), (4, 1), (5, 1)] [.int .i64 0, strV [], .int .i64 0, .int .i64 0, .bool false, .bool false] [(0, .const (.int .i64 0)), (1, y)]⟩ s) Ls ρ d L :=
  w_bld (cs := [.int .i64 0, strV l, .int .i64 0, .int .i64 0, .bool false, .bool false]) (by have e0 : ev ρ (.const (.int .i64 0)) = .int .i64 0 := rfl; simp [Instr.fill, e0, ey, Value.cells, strV]) h
theorem w_bstI {y : Operand} {a : Int} (ey : ev ρ y = .int .i64 a) (h : gws P pan Qn s Ls (upd ρ t (.agg [.int .i64 1, strV [], .int .i64 a, .int .i64 0, .bool false, .bool false].toArray)) d L) :
    gws P pan Qn (.op tk ⟨some t, none, .bld [(0, 1), (1, 1), (2, 1), (3, 1), (4, 1), (5, 1)] [.int .i64 0, strV [], .int .i64 0, .int .i64 0, .bool false, .bool false] [(0, .const (.int .i64 1)), (2, y)]⟩ s) Ls ρ d L :=
  w_bld (cs := [.int .i64 1, strV [], .int .i64 a, .int .i64 0, .bool false, .bool false]) (by have e0 : ev ρ (.const (.int .i64 1)) = .int .i64 1 := rfl; simp [Instr.fill, e0, ey, Value.cells, strV]) h
end
end Go.Gk
end

section
namespace Go.Gk
open Go
section
variable {P : Program} {pan : List PanicEntry → Post} {Qn : Env → Post} {Ls L : List PHeap} {ρ : Env} {d : PHeap} {s : GS}
theorem w_appGF {α : Type} {sz by_ t : Nat} {R : PHeap → List Value → α → Prop} {z : List Value} {x y : Operand} {v w : Value} {xs ys : List α} {h : PHeap} (hR : Mono R) (ex : ev ρ x = v) (ho : GRow sz R d v xs h)
    (ey : ev ρ y = w) (hs : Src sz R d (Ls ++ (h :: L) ++ (h :: L)) w ys) (hsz : 0 < sz) (hm : xs.length + ys.length ≤ 140737488355328) (hb : (xs.length + ys.length) * by_ ≤ 140737488355328)
    (k : ∀ a c d', Le d d' → RSl sz R d' (.slice a (xs ++ ys).length c) (xs ++ ys) → gws P pan Qn s Ls (upd ρ t (.slice a (xs ++ ys).length c)) d' L) : gws P pan Qn (.op false ⟨some t, none, .app sz by_ z x y⟩ s) Ls ρ d (h :: L) := by
  obtain ⟨cs, h1, h2⟩ := ho
  obtain ⟨news, k1, k2, k3⟩ := hs
  have hl := h1.1
  refine w_appV 0 ex rfl h1 ey k1 k2 hsz hm hb (fun v' h' o => ⟨join d h', L, Vs.freeze, ?_⟩)
  have hg : GRow sz R d v' (xs ++ ys) h' := by
    refine ⟨cs ++ news, by rw [List.length_append]; exact o, fun j hj => ?_⟩
    by_cases e : j < xs.length
    · rw [chunk_app_left hl e, List.getElem_append_left e]; exact h2 j e
    · rw [chunk_app_right hl (by omega), List.getElem_append_right (by omega)]
      exact k3 _ (by simp at hj; omega)
  have hr := hg.rsl hR hsz (Le.join_left d h') (Le.join_right d h')
  obtain ⟨a, c, rfl⟩ := hr.val
  exact k a c _ (Le.join_left d h') hr
theorem w_cat2 {α : Type} {sz by_ t0 t1 t2 : Nat} {R : PHeap → List Value → α → Prop} {z : List Value} {x y : Operand} {vx vy : Value} {xs ys : List α} (hR : Mono R) (hc : Cell1 R) (hsz : 0 < sz) (_ : (t0 == t1) = false)
    (rx : RSl sz R d vx xs) (ry : RSl sz R d vy ys) (ex : ∀ u, ev (upd ρ t0 u) x = vx) (ey : ∀ u w, ev (upd (upd ρ t0 u) t1 w) y = vy) (hb : (xs.length + ys.length) * by_ ≤ 140737488355328) (hm : xs.length + ys.length ≤ 140737488355328)
    (k : ∀ v0 v1 a c d', Le d d' → RSl sz R d' (.slice a (xs ++ ys).length c) (xs ++ ys) → gws P pan Qn s Ls (upd (upd (upd ρ t0 v0) t1 v1) t2 (.slice a (xs ++ ys).length c)) d' L) :
    gws P pan Qn (.op false ⟨some t0, none, .bsl 0 sz z []⟩ (.op false ⟨some t1, none, .app sz by_ z (.tmp t0) x⟩ (.op false ⟨some t2, none, .app sz by_ z (.tmp t1) y⟩ s))) Ls ρ d L := by
  have up : ∀ (ρ : Env) (t : Nat) (v : Value), ev (upd ρ t v) (.tmp t) = v := fun ρ t v => by simp [ev, upd]
  refine w_bsl (cs := []) (by simp) (by simp [Instr.fill, zrow]) (fun b T => ?_)
  have hm1 : xs.length * by_ ≤ 140737488355328 := Nat.le_trans (Nat.mul_le_mul_right _ (by omega)) hb
  refine w_appG (R := R) 0 (up _ _ _) rfl (GRow.lit0 (R := R) (sz := sz)) (ex _) (rx.src hc hsz _) hsz (by simp; omega) (by simpa using hm1) (fun v1 h1 o1 => ?_)
  rw [List.nil_append] at o1
  exact w_appGF (R := R) hR (up _ _ _) o1 (ey _ _) (ry.src hc hsz _) hsz hm hb (fun a c d' hl hr => k _ _ a c d' hl hr)
theorem w_cat1 {α : Type} {sz by_ t0 t1 : Nat} {R : PHeap → List Value → α → Prop} {z : List Value} {x : Operand} {vx : Value} {xs : List α} (_ : Mono R) (hc : Cell1 R) (hsz : 0 < sz)
    (rx : RSl sz R d vx xs) (ex : ∀ u, ev (upd ρ t0 u) x = vx) (hb : xs.length * by_ ≤ 140737488355328) (hm : xs.length ≤ 140737488355328)
    (k : ∀ v0 v1 h1, GRow sz R d v1 xs h1 → gws P pan Qn s Ls (upd (upd ρ t0 v0) t1 v1) d (h1 :: L)) :
    gws P pan Qn (.op false ⟨some t0, none, .bsl 0 sz z []⟩ (.op false ⟨some t1, none, .app sz by_ z (.tmp t0) x⟩ s)) Ls ρ d L := by
  have up : ∀ (ρ : Env) (t : Nat) (v : Value), ev (upd ρ t v) (.tmp t) = v := fun ρ t v => by simp [ev, upd]
  refine w_bsl (cs := []) (by simp) (by simp [Instr.fill, zrow]) (fun b T => ?_)
  refine w_appG (R := R) 0 (up _ _ _) rfl (GRow.lit0 (R := R) (sz := sz)) (ex _) (rx.src hc hsz _) hsz (by simp; omega) (by simpa using hb) (fun v1 h1 o1 => ?_)
  rw [List.nil_append] at o1
  exact k _ _ _ o1
theorem w_app2 {α : Type} {sz by_ t1 t2 : Nat} {R : PHeap → List Value → α → Prop} {z : List Value} {x0 x y : Operand} {v0 vx vy : Value} {ws xs ys : List α} {h : PHeap} (hR : Mono R) (hc : Cell1 R) (hsz : 0 < sz)
    (ho : GRow sz R d v0 ws h) (rx : RSl sz R d vx xs) (ry : RSl sz R d vy ys) (e0 : ev ρ x0 = v0) (ex : ev ρ x = vx) (ey : ∀ u, ev (upd ρ t1 u) y = vy) (hb : (ws.length + xs.length + ys.length) * by_ ≤ 140737488355328) (hm : ws.length + xs.length + ys.length ≤ 140737488355328)
    (k : ∀ v1 a c d', Le d d' → RSl sz R d' (.slice a (ws ++ xs ++ ys).length c) (ws ++ xs ++ ys) → gws P pan Qn s Ls (upd (upd ρ t1 v1) t2 (.slice a (ws ++ xs ++ ys).length c)) d' L) :
    gws P pan Qn (.op false ⟨some t1, none, .app sz by_ z x0 x⟩ (.op false ⟨some t2, none, .app sz by_ z (.tmp t1) y⟩ s)) Ls ρ d (h :: L) := by
  have up : ∀ (ρ : Env) (t : Nat) (v : Value), ev (upd ρ t v) (.tmp t) = v := fun ρ t v => by simp [ev, upd]
  have hm1 : (ws.length + xs.length) * by_ ≤ 140737488355328 := Nat.le_trans (Nat.mul_le_mul_right _ (by omega)) hb
  refine w_appG (R := R) 0 e0 rfl ho ex (rx.src hc hsz _) hsz (by omega) hm1 (fun v1 h1 o1 => ?_)
  exact w_appGF (R := R) hR (up _ _ _) o1 (ey _) (ry.src hc hsz _) hsz (by rw [List.length_append]; exact hm) (by rw [List.length_append]; exact hb) (fun a c d' hl hr => k _ a c d' hl hr)
end
end Go.Gk
namespace Go.Gk
open Go
section
variable {P : Program} {pan : List PanicEntry → Post} {Qn : Env → Post} {Ls L : List PHeap} {ρ : Env} {d : PHeap} {s : GS} {t : Nat} {tk : Bool}
theorem w_addn {x y : Operand} {a b : Int} (ex : ev ρ x = .int .i64 a) (ey : ev ρ y = .int .i64 b) (h : ∀ u, (-9223372036854775808 ≤ a + b → a + b ≤ 9223372036854775807 → u = a + b) → gws P pan Qn s Ls (upd ρ t (.int .i64 u)) d L) :
    gws P pan Qn (.op tk ⟨some t, none, .bin .add x y⟩ s) Ls ρ d L :=
  w_bin (by rw [ex, ey]; simp [binV]) (h (IntKind.i64.wrap (a + b)) (fun h1 h2 => wrap64_eq h1 h2))
end
end Go.Gk
namespace Go.Gk
open Go
theorem get_patch {l vs : List Value} {o k : Nat} (h : o + vs.length ≤ l.length) : (patch l o vs)[k]? = if o ≤ k ∧ k < o + vs.length then vs[k - o]? else l[k]? := by
  unfold patch
  have hl : (l.take o).length = o := by rw [List.length_take]; omega
  by_cases h1 : k < o
  · rw [if_neg (by omega), List.append_assoc, List.getElem?_append_left (by omega), List.getElem?_take_of_lt h1]
  by_cases h2 : k < o + vs.length
  · rw [if_pos ⟨by omega, h2⟩, List.getElem?_append_left (by rw [List.length_append]; omega), List.getElem?_append_right (by omega), hl]
  · rw [if_neg (by omega), List.getElem?_append_right (by rw [List.length_append]; omega), List.getElem?_drop, List.length_append, hl]
    congr 1; omega
theorem patch_len {l vs : List Value} {o : Nat} (h : o + vs.length ≤ l.length) : (patch l o vs).length = l.length := by
  unfold patch; simp only [List.length_append, List.length_take, List.length_drop]; omega
theorem take_patch {l vs : List Value} {o n : Nat} (h : o + vs.length ≤ n) (hn : n ≤ l.length) : (patch l o vs).take n = patch (l.take n) o vs := by
  refine List.ext_getElem? fun k => ?_
  have hl : (l.take n).length = n := by rw [List.length_take]; omega
  rw [get_patch (by omega)]
  by_cases hk : k < n
  · rw [List.getElem?_take_of_lt hk, List.getElem?_take_of_lt hk, get_patch (by omega)]
  · rw [if_neg (by omega), List.getElem?_eq_none (by rw [List.length_take]; omega), List.getElem?_eq_none (by omega)]
theorem get_chunk {cs : List Value} {i sz k : Nat} : (chunk cs i sz)[k]? = if k < sz then cs[i * sz + k]? else none := by
  unfold chunk
  by_cases h : k < sz
  · rw [List.getElem?_take_of_lt h, List.getElem?_drop, if_pos h]
  · rw [if_neg h, List.getElem?_eq_none (by rw [List.length_take]; omega)]
theorem chunk_patch {cs vs : List Value} {i m sz n : Nat} (hl : cs.length = n * sz) (hv : vs.length = sz) (hm : m < n) : chunk (patch cs (m * sz) vs) i sz = if i = m then vs else chunk cs i sz := by
  have h1 : m * sz + sz ≤ n * sz := by have := Nat.mul_le_mul_right sz (show m + 1 ≤ n from hm); rwa [Nat.add_mul, Nat.one_mul] at this
  refine List.ext_getElem? fun k => ?_
  rw [get_chunk]
  by_cases e : i = m
  · subst e
    rw [if_pos rfl]
    by_cases hk : k < sz
    · rw [if_pos hk, get_patch (by omega), if_pos (by omega)]
      congr 1; omega
    · rw [if_neg hk, List.getElem?_eq_none (by omega)]
  · rw [if_neg e, get_chunk]
    by_cases hk : k < sz
    · rw [if_pos hk, if_pos hk, get_patch (by omega), if_neg]
      rintro ⟨a, b⟩
      rcases Nat.lt_or_gt_of_ne e with q | q
      · have := Nat.mul_le_mul_right sz (show i + 1 ≤ m from q); rw [Nat.add_mul, Nat.one_mul] at this; omega
      · have := Nat.mul_le_mul_right sz (show m + 1 ≤ i from q); rw [Nat.add_mul, Nat.one_mul] at this; omega
    · rw [if_neg hk, if_neg hk]
theorem w_doneF {P : Program} {pan : List PanicEntry → Post} {Qn : Env → Post} {Ls : List PHeap} {ρ : Env} {d g : PHeap} (h : ∀ d', Le d d' → Le g d' → Qn ρ d' Ls) : gws P pan Qn .done Ls ρ d [g] :=
  ⟨join d g, Ls, (Vs.perm List.perm_append_comm : Vs d (Ls ++ [g]) d ([g] ++ Ls)).trans Vs.freeze, h _ (Le.join_left _ _) (Le.join_right _ _)⟩
theorem GRow.openV {α : Type} {sz : Nat} {R : PHeap → List Value → α → Prop} {d : PHeap} {v : Value} {xs : List α} {h : PHeap} (_ : 0 < sz) (o : GRow sz R d v xs h) {m : Nat} (hm : m < xs.length) :
    ∃ b T l c, v = .slice (some ⟨b, 0, none⟩) xs.length c ∧ h = bx b T l ∧ m * sz + sz ≤ l.length ∧ ∀ cs' x, cs'.length = sz → R d cs' x → GRow sz R d v (xs.set m x) (bx b T (patch l (m * sz) cs')) := by
  obtain ⟨cs, ⟨h1, h2, ⟨rfl, h0, rfl⟩ | ⟨b, T, l, c, rfl, rfl, h3, h4, h5, h6⟩⟩, hr⟩ := o
  · omega
  · have hmz : m * sz + sz ≤ xs.length * sz := by have := Nat.mul_le_mul_right sz (show m + 1 ≤ xs.length from hm); rwa [Nat.add_mul, Nat.one_mul] at this
    have hcz : xs.length * sz ≤ c * sz := Nat.mul_le_mul_right sz h3
    refine ⟨b, T, l, c, rfl, rfl, by omega, fun cs' x hl hx => ⟨patch cs (m * sz) cs', ?_, fun i hi => ?_⟩⟩
    · have hp : (patch cs (m * sz) cs').length = cs.length := patch_len (by omega)
      refine ⟨by rw [hp, List.length_set, h1], by rw [List.length_set]; exact h2, .inr ⟨b, T, _, c, by rw [List.length_set], rfl, by rw [List.length_set]; exact h3, h4, by rw [patch_len (by omega)]; exact h5, ?_⟩⟩
      rw [hp, take_patch (by omega) (by omega), h6]
    · rw [chunk_patch h1 hl hm]
      rw [List.length_set] at hi
      by_cases e : i = m
      · subst e
        rw [if_pos rfl, List.getElem_set_self]; exact hx
      · rw [if_neg e, List.getElem_set_ne (fun q => e q.symm)]; exact hr i hi
end Go.Gk
end

section
namespace Go.Gk.Val
open Go Go.Gk Go.Gk.Num
attribute [local irreducible] gwp gws

def LeastIOk (P : Program) (f : FuncId) : Prop := ∀ {d : PHeap} {a b : Int}, GPure P f [.int .i64 a, .int .i64 b] d (.int .i64 (min a b))
def g_thimbleref01_least : GFun :=
 ⟨10, [(.tmp 4)],
 (.seq
 (.reg false (.op false ⟨(some 4), none, (.mv (.const (.int .i64 0)))⟩ .done))
 (.seq (.seq
 (.reg false (.op false ⟨(some 5), none, (.mv (.tmp 0))⟩
  (.op false ⟨(some 6), none, (.mv (.tmp 1))⟩
  (.op false ⟨(some 7), none, (.bin .lss (.tmp 5) (.tmp 6))⟩ .done)))) (.cond (.tmp 7)
 (.seq
 (.reg false (.op false ⟨(some 8), none, (.mv (.tmp 0))⟩
  (.op false ⟨(some 4), none, (.mv (.tmp 8))⟩ .done))) .ret) .skip))
 (.seq
 (.reg false (.op false ⟨(some 9), none, (.mv (.tmp 1))⟩
  (.op false ⟨(some 4), none, (.mv (.tmp 9))⟩ .done))) .ret)))⟩

theorem leasti_ok {P : Program} {f : FuncId} (hd : dec P f = some g_thimbleref01_least) : LeastIOk P f := by
  intro d a b
  refine GPure.of' hd (Nat.le_of_ble_eq_true rfl) ?_
  show gwp P _ _ _ _ _
  by_cases h : a < b
  · (apply w_sq; apply w_reg; apply w_mvi; rfl; apply w_done0; apply w_sq; apply w_sq; apply w_reg; apply w_mvi; rfl; apply w_mvi; rfl; apply w_lss; rfl; rfl; apply w_done0; refine w_ifdT rfl (by omega) ?_; apply w_sq; apply w_reg; apply w_mvi; rfl; apply w_mvi; rfl; apply w_done0; apply w_ret)
    apply finQi; rfl
    omega
  · (apply w_sq; apply w_reg; apply w_mvi; rfl; apply w_done0; apply w_sq; apply w_sq; apply w_reg; apply w_mvi; rfl; apply w_mvi; rfl; apply w_lss; rfl; rfl; apply w_done0; refine w_ifdF rfl (by omega) ?_; apply w_skip; apply w_sq; apply w_reg; apply w_mvi; rfl; apply w_mvi; rfl; apply w_done0; apply w_ret)
    apply finQi; rfl
    omega
theorem above_at {A B : List Nat} {i : Nat} (hl : A.length = B.length) (hA : ∀ d ∈ A, d < 10) (hB : ∀ d ∈ B, d < 10) (hi : i < A.length) (ht : A.take i = B.take i) (hne : A[i] ≠ B[i]'(by omega)) : val B < val A ↔ B[i]'(by omega) < A[i] := by
  have hi' : i < B.length := by omega
  have eA : A = A.take i ++ A[i] :: A.drop (i + 1) := by rw [← List.drop_eq_getElem_cons hi, List.take_append_drop]
  have eB : B = A.take i ++ B[i] :: B.drop (i + 1) := by rw [ht, ← List.drop_eq_getElem_cons hi', List.take_append_drop]
  have hld : (A.drop (i + 1)).length = (B.drop (i + 1)).length := by simp [hl]
  have vA := val_bound (l := A.drop (i + 1)) (fun d hd => hA d (List.mem_of_mem_drop hd))
  have vB := val_bound (l := B.drop (i + 1)) (fun d hd => hB d (List.mem_of_mem_drop hd))
  have wA : val A = val (A.take i) * 10 ^ ((A.drop (i + 1)).length + 1) + (A[i] * 10 ^ (A.drop (i + 1)).length + val (A.drop (i + 1))) := by
    conv => lhs; rw [eA]
    rw [val_append, val_cons, List.length_cons]
  have wB : val B = val (A.take i) * 10 ^ ((A.drop (i + 1)).length + 1) + (B[i] * 10 ^ (A.drop (i + 1)).length + val (B.drop (i + 1))) := by
    conv => lhs; rw [eB]
    rw [val_append, val_cons, List.length_cons, hld]
  rw [← hld] at vB
  generalize A[i] = x at *
  generalize B[i] = y at *
  constructor
  · intro h
    apply Classical.byContradiction
    intro q
    have : (x + 1) * 10 ^ (A.drop (i + 1)).length ≤ y * 10 ^ (A.drop (i + 1)).length := Nat.mul_le_mul_right _ (by omega)
    rw [Nat.add_mul, Nat.one_mul] at this; omega
  · intro h
    have : (y + 1) * 10 ^ (A.drop (i + 1)).length ≤ x * 10 ^ (A.drop (i + 1)).length := Nat.mul_le_mul_right _ (by omega)
    rw [Nat.add_mul, Nat.one_mul] at this; omega
def AboveOk (P : Program) (f : FuncId) : Prop := ∀ {d : PHeap} {v w : Value} {A B : List Nat}, RInts d v (ints A) → RInts d w (ints B) → A.length = B.length → (∀ x ∈ A, x < 10) → (∀ x ∈ B, x < 10) → A.length ≤ 1000000 → GPure P f [v, w] d (.bool (decide (val B < val A)))
def g_thimbleref01_above : GFun :=
 ⟨30, [(.tmp 4)],
 (.seq
 (.reg false (.op false ⟨(some 4), none, (.mv (.const (.bool false)))⟩ .done))
 (.seq (.seq
 (.reg false (.op false ⟨(some 5), none, (.mv (.const (.int .i64 0)))⟩ .done)) (.block 0 (.loop
 (.seq (.seq
 (.reg false (.op false ⟨(some 6), none, (.mv (.tmp 5))⟩
  (.op false ⟨(some 7), none, (.mv (.tmp 0))⟩
  (.op false ⟨(some 8), none, (.len (.tmp 7))⟩
  (.op false ⟨(some 9), none, (.bin .lss (.tmp 6) (.tmp 8))⟩ .done))))) (.cond (.tmp 9) .skip (.exit 0)))
 (.seq (.block 1
 (.seq
 (.reg true (.op true ⟨(some 12), none, (.mv (.tmp 0))⟩
  (.op true ⟨(some 13), none, (.mv (.tmp 5))⟩
  (.op true ⟨(some 14), none, (.idx 1 (.tmp 12) (.tmp 13))⟩
  (.op true ⟨(some 15), none, (.ld none (.tmp 14))⟩
  (.op true ⟨(some 16), none, (.mv (.tmp 1))⟩
  (.op true ⟨(some 17), none, (.mv (.tmp 5))⟩
  (.op true ⟨(some 18), none, (.idx 1 (.tmp 16) (.tmp 17))⟩
  (.op true ⟨(some 19), none, (.ld none (.tmp 18))⟩
  (.op true ⟨(some 20), none, (.bin .neq (.tmp 15) (.tmp 19))⟩ .done)))))))))) (.cond (.tmp 20)
 (.seq
 (.reg true (.op true ⟨(some 21), none, (.mv (.tmp 0))⟩
  (.op true ⟨(some 22), none, (.mv (.tmp 5))⟩
  (.op true ⟨(some 23), none, (.idx 1 (.tmp 21) (.tmp 22))⟩
  (.op true ⟨(some 24), none, (.ld none (.tmp 23))⟩
  (.op true ⟨(some 25), none, (.mv (.tmp 1))⟩
  (.op true ⟨(some 26), none, (.mv (.tmp 5))⟩
  (.op true ⟨(some 27), none, (.idx 1 (.tmp 25) (.tmp 26))⟩
  (.op true ⟨(some 28), none, (.ld none (.tmp 27))⟩
  (.op true ⟨(some 29), none, (.bin .gtr (.tmp 24) (.tmp 28))⟩
  (.bar (.op true ⟨(some 4), none, (.mv (.tmp 29))⟩ .done)))))))))))) .ret) .skip)))
 (.reg false (.op false ⟨(some 10), none, (.mv (.tmp 5))⟩
  (.op false ⟨(some 11), none, (.bin .add (.tmp 10) (.const (.int .i64 1)))⟩
  (.op false ⟨(some 5), none, (.mv (.tmp 11))⟩ .done)))))))))
 (.seq
 (.reg false (.op false ⟨(some 4), none, (.mv (.const (.bool false)))⟩ .done)) .ret)))⟩

theorem above_ok {P : Program} {f : FuncId} (hd : dec P f = some g_thimbleref01_above) : AboveOk P f := by
  intro d v w A B hv hw hl hA hB hn
  refine GPure.of' hd (Nat.le_of_ble_eq_true rfl) ?_
  obtain ⟨a, c, rfl⟩ := RSl.val hv
  obtain ⟨a', c', rfl⟩ := RSl.val hw
  rw [ints_len] at hv hw
  rw [ints_len, ints_len]
  have q1 : RSl 1 RInt d (.slice a A.length c) (ints A) := hv
  have q2 : RSl 1 RInt d (.slice a' B.length c') (ints B) := hw
  have n1 := ints_len A
  have n2 := ints_len B
  show gwp P _ _ _ _ _
  (apply w_sq; apply w_reg; apply w_mvb; rfl; apply w_done0; apply w_sq; apply w_sq; apply w_reg; apply w_mvi; rfl; apply w_done0; apply w_block)
  refine w_loopN (α := Nat) (fun i => [(0, .slice a A.length c), (1, .slice a' B.length c'), (5, .int .i64 i)]) (fun _ => []) (fun i => i ≤ A.length ∧ A.take i = B.take i) (fun i => A.length - i) 0 ⟨rfl, rfl, rfl, trivial⟩ rfl ⟨Nat.zero_le _, by simp⟩ ?_
  rintro i ρ ⟨hi, ht⟩
  by_cases hc : i < A.length
  · have hc' : i < B.length := by omega
    have e1 := ints_at A (i := i) (by omega)
    have e2 := ints_at B (i := i) (by omega)
    by_cases h : (ints A)[i]'(by omega) = (ints B)[i]'(by omega)
    · (apply w_sq; apply w_sq; apply w_reg; apply w_mvi; rfl; apply w_mvs; rfl; apply w_len; rfl; apply w_lss; rfl; rfl; apply w_done0; refine w_ifdT rfl (by omega) ?_; apply w_skip; apply w_sq; apply w_block; apply w_sq; apply w_drawn; apply w_mvs; rfl; apply w_mvi; rfl; refine w_idxR (sz := 1) (R := RInt) (by rfl) (by assumption) (by rfl) rfl (by omega) ?_; rintro _ _ _ _ _ ⟨rfl, _, _⟩; apply w_ld; rfl; exact hc_ds0 (by assumption) rfl; apply w_mvs; rfl; apply w_mvi; rfl; refine w_idxR (sz := 1) (R := RInt) (by rfl) (by assumption) (by rfl) rfl (by omega) ?_; rintro _ _ _ _ _ ⟨rfl, _, _⟩; apply w_ld; rfl; exact hc_ds0 (by assumption) rfl; apply w_neq; rfl; rfl; apply w_done0; refine w_ifdF rfl (by omega) ?_; apply w_skip; apply w_reg; apply w_mvi; rfl; apply w_add; rfl; rfl; omega; omega; apply w_mvi; rfl; apply w_done0)
      refine ⟨i + 1, by omega, ⟨rfl, rfl, int_eq (by omega), trivial⟩, rfl, rfl, hc, ?_⟩
      rw [List.take_succ_eq_append_getElem hc, List.take_succ_eq_append_getElem hc', ht, show A[i] = B[i] by omega]
    · have hk := above_at hl hA hB hc ht (by omega)
      (apply w_sq; apply w_sq; apply w_reg; apply w_mvi; rfl; apply w_mvs; rfl; apply w_len; rfl; apply w_lss; rfl; rfl; apply w_done0; refine w_ifdT rfl (by omega) ?_; apply w_skip; apply w_sq; apply w_block; apply w_sq; apply w_drawn; apply w_mvs; rfl; apply w_mvi; rfl; refine w_idxR (sz := 1) (R := RInt) (by rfl) (by assumption) (by rfl) rfl (by omega) ?_; rintro _ _ _ _ _ ⟨rfl, _, _⟩; apply w_ld; rfl; exact hc_ds0 (by assumption) rfl; apply w_mvs; rfl; apply w_mvi; rfl; refine w_idxR (sz := 1) (R := RInt) (by rfl) (by assumption) (by rfl) rfl (by omega) ?_; rintro _ _ _ _ _ ⟨rfl, _, _⟩; apply w_ld; rfl; exact hc_ds0 (by assumption) rfl; apply w_neq; rfl; rfl; apply w_done0; refine w_ifdT rfl (by omega) ?_; apply w_sq; apply w_drawn; apply w_mvs; rfl; apply w_mvi; rfl; refine w_idxR (sz := 1) (R := RInt) (by rfl) (by assumption) (by rfl) rfl (by omega) ?_; rintro _ _ _ _ _ ⟨rfl, _, _⟩; apply w_ld; rfl; exact hc_ds0 (by assumption) rfl; apply w_mvs; rfl; apply w_mvi; rfl; refine w_idxR (sz := 1) (R := RInt) (by rfl) (by assumption) (by rfl) rfl (by omega) ?_; rintro _ _ _ _ _ ⟨rfl, _, _⟩; apply w_ld; rfl; exact hc_ds0 (by assumption) rfl; apply w_gtr; rfl; rfl; apply w_bar; apply w_mvb; rfl; apply w_done0; apply w_ret)
      apply finQb; rfl
      simp only [decide_eq_decide]
      rw [hk, e1, e2]; omega
  obtain rfl : i = A.length := by omega
  have e : A = B := by
    rw [List.take_length] at ht
    rw [ht]; exact List.take_of_length_le (by omega)
  (apply w_sq; apply w_sq; apply w_reg; apply w_mvi; rfl; apply w_mvs; rfl; apply w_len; rfl; apply w_lss; rfl; rfl; apply w_done0; refine w_ifdF rfl (by omega) ?_; apply w_exit; apply w_sq; apply w_reg; apply w_mvb; rfl; apply w_done0; apply w_ret)
  apply finQb; rfl
  rw [e]; simp
end Go.Gk.Val
end

section
namespace Go.Gk.Val
open Go Go.Gk Go.Gk.Num
attribute [local irreducible] gwp gws

theorem ints_app (a b : List Nat) : ints (a ++ b) = ints a ++ ints b := List.map_append ..
def wideF (D : List Nat) (xe e many : Int) : List Nat :=
  List.replicate (many.toNat - (D ++ List.replicate (xe - e).toNat 0).length) 0 ++ (D ++ List.replicate (xe - e).toNat 0)
def RL (P : Program) (f : FuncId) (args : List Value) (d : PHeap) (l : List Nat) : Prop := GCall P f args d [] (Ret fun r d' L' => L' = [] ∧ RInts d' r (ints l))
def WideOk (P : Program) (f : FuncId) : Prop := ∀ {d : PHeap} {neg : Bool} {dv : Value} {D : List Nat} {xe e many : Int}, RInts d dv (ints D) → D.length ≤ 1000 → -1000 ≤ xe → xe ≤ 1000 → -1000 ≤ e → e ≤ 1000 → 0 ≤ many → many ≤ 10000 →
  RL P f [.agg [.bool neg, dv, .int .i64 xe].toArray, .int .i64 e, .int .i64 many] d (wideF D xe e many)
def g_thimbleref01_wide : GFun :=
 ⟨31, [(.tmp 6)],
 (.seq
 (.reg false (.op false ⟨(some 3), none, (.box (.tmp 0))⟩
  (.op false ⟨(some 6), none, (.mv (.const (.slice none 0 0)))⟩ .done)))
 (.seq
 (.reg false (.op false ⟨(some 9), none, (.bsl 0 1 [(.int .i64 0)] [])⟩
  (.op false ⟨(some 10), none, (.fld 1 (.tmp 3))⟩
  (.op false ⟨(some 11), none, (.ld none (.tmp 10))⟩
  (.op false ⟨(some 12), none, (.app 1 8 [(.int .i64 0)] (.tmp 9) (.tmp 11))⟩
  (.op false ⟨(some 7), none, (.mv (.tmp 12))⟩ .done))))))
 (.seq (.seq
 (.reg false (.op false ⟨(some 13), none, (.mv (.tmp 1))⟩
  (.op false ⟨(some 8), none, (.mv (.tmp 13))⟩ .done))) (.block 0 (.loop
 (.seq (.seq
 (.reg false (.op false ⟨(some 14), none, (.mv (.tmp 8))⟩
  (.op false ⟨(some 15), none, (.fld 2 (.tmp 3))⟩
  (.op false ⟨(some 16), none, (.ld none (.tmp 15))⟩
  (.op false ⟨(some 17), none, (.bin .lss (.tmp 14) (.tmp 16))⟩ .done))))) (.cond (.tmp 17) .skip (.exit 0)))
 (.seq (.block 1
 (.reg false (.op false ⟨(some 20), none, (.mv (.tmp 7))⟩
  (.op false ⟨(some 21), none, (.bsl 1 1 [(.int .i64 0)] [(0, (.const (.int .i64 0)))])⟩
  (.op false ⟨(some 22), none, (.app 1 8 [(.int .i64 0)] (.tmp 20) (.tmp 21))⟩
  (.op false ⟨(some 7), none, (.mv (.tmp 22))⟩ .done))))))
 (.reg false (.op false ⟨(some 18), none, (.mv (.tmp 8))⟩
  (.op false ⟨(some 19), none, (.bin .add (.tmp 18) (.const (.int .i64 1)))⟩
  (.op false ⟨(some 8), none, (.mv (.tmp 19))⟩ .done)))))))))
 (.seq (.block 2 (.loop
 (.seq (.seq
 (.reg false (.op false ⟨(some 23), none, (.mv (.tmp 7))⟩
  (.op false ⟨(some 24), none, (.len (.tmp 23))⟩
  (.op false ⟨(some 25), none, (.mv (.tmp 2))⟩
  (.op false ⟨(some 26), none, (.bin .lss (.tmp 24) (.tmp 25))⟩ .done))))) (.cond (.tmp 26) .skip (.exit 2))) (.block 3
 (.reg false (.op false ⟨(some 27), none, (.bsl 1 1 [(.int .i64 0)] [(0, (.const (.int .i64 0)))])⟩
  (.op false ⟨(some 28), none, (.mv (.tmp 7))⟩
  (.op false ⟨(some 29), none, (.app 1 8 [(.int .i64 0)] (.tmp 27) (.tmp 28))⟩
  (.op false ⟨(some 7), none, (.mv (.tmp 29))⟩ .done)))))))))
 (.seq
 (.reg false (.op false ⟨(some 30), none, (.mv (.tmp 7))⟩
  (.op false ⟨(some 6), none, (.mv (.tmp 30))⟩ .done))) .ret)))))⟩

set_option maxHeartbeats 1000000 in
theorem wide_ok {P : Program} {f : FuncId} (hd : dec P f = some g_thimbleref01_wide) : WideOk P f := by
  intro d neg dv D xe e many hv hD hx1 hx2 he1 he2 hm1 hm2
  refine GCall_of hd (Nat.le_of_ble_eq_true rfl) ?_
  obtain ⟨a, c, rfl⟩ := RSl.val hv
  have n1 := ints_len D
  show gwp P _ _ _ _ _
  apply w_sq; apply w_reg
  refine w_boxa (l := [.bool neg, .slice a (ints D).length c, .int .i64 xe]) rfl (fun b3 T3 => ?_)
  (apply w_mvs; rfl; apply w_done0; apply w_sq; apply w_reg)
  refine w_bsl (cs := []) (by omega) rfl (fun b9 T9 => ?_)
  (apply w_fld; rfl; apply w_ld; rfl; exact hc_i 1 rfl rfl)
  refine w_appG (xs := []) (ys := ints D) 0 rfl rfl (GRow.lit0 (R := RInt) (sz := 1)) rfl (RSl.src (R := RInt) (xs := ints D) hv cell1_int (by omega) _) (by omega) (by simp; omega) (by simp; omega) (fun v7 h7 o7 => ?_)
  rw [List.nil_append] at o7
  (apply w_mv; apply w_done0; apply w_sq; apply w_sq; apply w_reg; apply w_mvi; rfl; apply w_mvi; rfl; apply w_done0; apply w_block)
  refine w_loopV (α := Nat) (fun k v => [(2, .int .i64 many), (3, .pointer (some ⟨b3, 0, none⟩)), (7, v), (8, .int .i64 (e + k))]) (fun k v h d' L' => d' = d ∧ k ≤ (xe - e).toNat ∧ GRow 1 RInt d v (ints (D ++ List.replicate k 0)) h ∧ L' = [h, bx b3 T3 [.bool neg, .slice a (ints D).length c, .int .i64 xe]])
      (fun k => (xe - e).toNat - k) 0 v7 h7 ⟨rfl, rfl, rfl, int_eq (by omega), trivial⟩ ⟨rfl, Nat.zero_le _, by simpa using o7, rfl⟩ ?_
  clear o7
  rintro k v h ρ d' L' ⟨hdd, hk, o, hL⟩
  subst hdd; subst hL
  have hkl : (ints (D ++ List.replicate k 0)).length = D.length + k := by rw [ints_len]; simp
  by_cases hc : e + k < xe
  · (apply w_sq; apply w_sq; apply w_reg; apply w_mvi; rfl; apply w_fld; rfl; apply w_ld; rfl; exact hc_i 1 rfl rfl; apply w_lss; rfl; rfl; apply w_done0; refine w_ifdT rfl (by omega) ?_; apply w_skip; apply w_sq; apply w_block; apply w_reg; apply w_mv)
    refine w_bs1 (v0 := .int .i64 0) rfl rfl (fun b21 T21 => ?_)
    refine w_appL (R := RInt) 0 rfl rfl o rfl (GRow.lit1 (R := RInt) (x := 0) rfl ⟨rfl, by omega, by omega⟩) cell1_int (by omega) (by simp; omega) (by simp; omega) (fun v22 h22 o22 => ?_)
    (apply w_mv; apply w_done0; apply w_reg; apply w_mvi; rfl; apply w_add; rfl; rfl; omega; omega; apply w_mvi; rfl; apply w_done0)
    refine ⟨k + 1, v22, h22, by omega, ⟨rfl, rfl, rfl, int_eq (by omega), trivial⟩, rfl, by omega, ?_, rfl⟩
    rw [List.replicate_succ', ← List.append_assoc, ints_app]; exact o22
  obtain rfl : k = (xe - e).toNat := by omega
  have wf : wideF D xe e many = List.replicate (many.toNat - (D ++ List.replicate (xe - e).toNat 0).length) 0 ++ (D ++ List.replicate (xe - e).toNat 0) := rfl
  rw [wf]
  generalize hE : D ++ List.replicate (xe - e).toNat 0 = E at *
  have hEl : E.length ≤ 4000 := by rw [← hE]; simp; omega
  clear wf hE hv
  (apply w_sq; apply w_sq; apply w_reg; apply w_mvi; rfl; apply w_fld; rfl; apply w_ld; rfl; exact hc_i 1 rfl rfl; apply w_lss; rfl; rfl; apply w_done0; refine w_ifdF rfl (by omega) ?_; apply w_exit; apply w_sq; apply w_block)
  refine w_loopV (α := Nat) (fun k v => [(2, .int .i64 many), (7, v)]) (fun k v h d2 L' => k ≤ many.toNat - E.length ∧ GRow 1 RInt d2 v (ints (List.replicate k 0 ++ E)) h ∧ L' = [h, bx b3 T3 [.bool neg, .slice a (ints D).length c, .int .i64 xe]]) (fun k => many.toNat - E.length - k) 0 v h ⟨rfl, rfl, trivial⟩ ⟨Nat.zero_le _, o, rfl⟩ ?_
  clear o hkl hk
  rintro k v h ρ d' L' ⟨hk, o, hL⟩
  subst hL
  obtain ⟨a7, c7, rfl⟩ := o.val
  have hkl : (ints (List.replicate k 0 ++ E)).length = k + E.length := by rw [ints_len]; simp
  by_cases hc : ((ints (List.replicate k 0 ++ E)).length : Int) < many
  · (apply w_sq; apply w_sq; apply w_reg; apply w_mvs; rfl; apply w_len; rfl; apply w_mvi; rfl; apply w_lss; rfl; rfl; apply w_done0; refine w_ifdT rfl (by omega) ?_; apply w_skip; apply w_block; apply w_reg)
    refine w_bs1 (v0 := .int .i64 0) rfl rfl (fun b21 T21 => ?_)
    (apply w_mvs; rfl)
    refine w_pick [1, 0, 2] rfl ?_
    refine w_frz (fun d2 hl2 hg2 => ?_)
    have r2 := o.rsl mono_int (by omega) hl2 hg2
    refine w_appG (R := RInt) (xs := [0]) (ys := ints (List.replicate k 0 ++ E)) 0 rfl rfl (GRow.lit1 (R := RInt) (x := 0) rfl ⟨rfl, by omega, by omega⟩) rfl (RSl.src r2 cell1_int (by omega) _) (by omega) (by simp; omega) (by simp; omega) (fun v22 h22 o22 => ?_)
    (apply w_mv; apply w_done0)
    exact ⟨k + 1, v22, h22, by omega, ⟨rfl, rfl, trivial⟩, by omega, o22, rfl⟩
  obtain rfl : k = many.toNat - E.length := by omega
  (apply w_sq; apply w_sq; apply w_reg; apply w_mvs; rfl; apply w_len; rfl; apply w_mvi; rfl; apply w_lss; rfl; rfl; apply w_done0; refine w_ifdF rfl (by omega) ?_; apply w_exit; apply w_sq; apply w_reg; apply w_mvs; rfl; apply w_mvs; rfl; apply w_done0; apply w_ret)
  refine finF [_] ⟨rfl, trivial⟩ (fun d2 hl2 hg2 => ⟨rfl, o.rsl mono_int (by omega) hl2 (hg2 _ (List.mem_cons_self ..))⟩)
theorem wide_val {D : List Nat} {xe e many : Int} : val (wideF D xe e many) = val D * 10 ^ (xe - e).toNat := by
  rw [wideF, val_append, val_zeros, val_append, val_zeros, List.length_replicate]; simp
theorem wide_lt {D : List Nat} {xe e many : Int} (h : ∀ d ∈ D, d < 10) : ∀ d ∈ wideF D xe e many, d < 10 := by
  intro d hd
  simp only [wideF, List.mem_append, List.mem_replicate] at hd
  rcases hd with hd | hd | hd
  · omega
  · exact h d hd
  · omega
theorem wide_len {D : List Nat} {xe e many : Int} (h : D.length + (xe - e).toNat ≤ many.toNat) : (wideF D xe e many).length = many.toNat := by
  simp [wideF]; omega

def carryOf (s : Int) : Int := if s > 9 then 1 else if s < 0 then -1 else 0
def digitOf (s : Int) : Nat := (if s > 9 then s - 10 else if s < 0 then s + 10 else s).toNat
def totS (mi : Bool) (a b : Nat) (c : Int) : Int := (if mi then (a : Int) - b else a + b) + c
def totF (mi : Bool) : List Nat → List Nat → List Nat × Int
  | a :: A, b :: B => (digitOf (totS mi a b (totF mi A B).2) :: (totF mi A B).1, carryOf (totS mi a b (totF mi A B).2))
  | _, _ => ([], 0)
theorem tot_carry (mi : Bool) : ∀ A B, (totF mi A B).2 = -1 ∨ (totF mi A B).2 = 0 ∨ (totF mi A B).2 = 1
  | a :: A, b :: B => by simp only [totF, carryOf]; split <;> (try split) <;> simp
  | [], _ => by simp [totF]
  | _ :: _, [] => by simp [totF]
theorem tot_len (mi : Bool) : ∀ A B, A.length = B.length → (totF mi A B).1.length = A.length
  | a :: A, b :: B, h => by simp only [totF, List.length_cons]; rw [tot_len mi A B (by simpa using h)]
  | [], _, _ => by simp [totF]
  | _ :: _, [], h => by simp at h
theorem tot_lt (mi : Bool) : ∀ A B, (∀ x ∈ A, x < 10) → (∀ x ∈ B, x < 10) → ∀ x ∈ (totF mi A B).1, x < 10
  | a :: A, b :: B, hA, hB => by
    intro x hx
    simp only [totF, List.mem_cons] at hx
    rcases hx with rfl | hx
    · have h1 := hA a (List.mem_cons_self ..)
      have h2 := hB b (List.mem_cons_self ..)
      have h3 := tot_carry mi A B
      simp only [digitOf, totS]
      split <;> split <;> (try split) <;> omega
    · exact tot_lt mi A B (fun x hx => hA x (List.mem_cons_of_mem _ hx)) (fun x hx => hB x (List.mem_cons_of_mem _ hx)) x hx
  | [], _, _, _ => by simp [totF]
  | _ :: _, [], _, _ => by simp [totF]
theorem tot_val (mi : Bool) : ∀ A B, A.length = B.length → (∀ x ∈ A, x < 10) → (∀ x ∈ B, x < 10) →
    (val (totF mi A B).1 : Int) + (totF mi A B).2 * (10 ^ A.length : Nat) = if mi then (val A : Int) - val B else val A + val B
  | a :: A, b :: B, h, hA, hB => by
    have hl : A.length = B.length := by simpa using h
    have ih := tot_val mi A B hl (fun x hx => hA x (List.mem_cons_of_mem _ hx)) (fun x hx => hB x (List.mem_cons_of_mem _ hx))
    have h1 := hA a (List.mem_cons_self ..)
    have h2 := hB b (List.mem_cons_self ..)
    have h3 := tot_carry mi A B
    have hdc : (digitOf (totS mi a b (totF mi A B).2) : Int) + 10 * carryOf (totS mi a b (totF mi A B).2) = totS mi a b (totF mi A B).2 := by
      simp only [digitOf, carryOf, totS]
      split <;> split <;> (try split) <;> omega
    simp only [totF, List.length_cons]
    rw [val_cons, val_cons, val_cons, tot_len mi A B hl, ← hl, Nat.pow_succ]
    generalize (totF mi A B).2 = c at *
    generalize val (totF mi A B).1 = w at *
    generalize digitOf (totS mi a b c) = g at *
    generalize carryOf (totS mi a b c) = k at *
    generalize (10 ^ A.length : Nat) = p at *
    simp only [Int.natCast_add, Int.natCast_mul, totS] at *
    have e1 : (g : Int) * p + 10 * (k * p) = (if mi then (a : Int) * p - b * p else a * p + b * p) + c * p := by
      have := congrArg (· * (p : Int)) hdc
      simp only [Int.add_mul, Int.mul_assoc] at this
      rw [this]
      cases mi <;> simp [Int.sub_mul, Int.add_mul]
    have e2 : k * ((p : Int) * ((10 : Nat) : Int)) = 10 * (k * p) := by rw [Int.mul_comm (p : Int), Int.mul_left_comm]; rfl
    rw [e2]
    cases mi <;> simp only [Bool.false_eq_true, if_false, if_true] at ih e1 ⊢ <;> omega
  | [], [], _, _, _ => by cases mi <;> simp [totF, val]
  | [], _ :: _, h, _, _ => by simp at h
  | _ :: _, [], h, _, _ => by simp at h
end Go.Gk.Val
end

section
namespace Go.Gk.Val
open Go Go.Gk Go.Gk.Num
attribute [local irreducible] gwp gws

def intVs (l : List Nat) : List Value := l.map fun (n : Nat) => .int .i64 n
theorem intVs_ints (l : List Nat) : intVs l = (ints l).map (Value.int .i64) := by simp [intVs, ints]
theorem zrow_int (n : Nat) : zrow [.int .i64 0] (n * 1) = intVs (List.replicate n 0) := by
  rw [Nat.mul_one, zrow, intVs]
  apply List.ext_getElem
  · simp
  · intro i h1 h2; simp [Nat.mod_one]
theorem patch_mid {α : Type} (l m : List Value) (x v : Value) : patch (l ++ x :: m) l.length [v] = l ++ v :: m := by
  simp [patch, List.drop_append]
theorem patch_int {k : Nat} {l : List Nat} {n : Nat} : patch (intVs (List.replicate (k + 1) 0 ++ l)) k [.int .i64 n] = intVs (List.replicate k 0 ++ n :: l) := by
  rw [List.replicate_succ', List.append_assoc, intVs, intVs, List.map_append, List.map_append]
  have := patch_mid (α := Unit) ((List.replicate k 0).map fun (n : Nat) => Value.int .i64 n) (l.map fun (n : Nat) => Value.int .i64 n) (.int .i64 (0 : Nat)) (.int .i64 n)
  simpa using this
theorem digit_hi {s x : Int} (e : s = x) (h : x > 9) : x - 10 = (digitOf s : Nat) ∧ carryOf s = 1 := by subst e; rw [digitOf, carryOf, if_pos h, if_pos h]; omega
theorem digit_lo {s x : Int} (e : s = x) (h : x < 0) (h2 : -10 ≤ x) : x + 10 = (digitOf s : Nat) ∧ carryOf s = -1 := by subst e; rw [digitOf, carryOf, if_neg (by omega), if_pos h, if_neg (by omega), if_pos h]; omega
theorem digit_mid {s x : Int} (e : s = x) (h : ¬ x > 9) (h2 : ¬ x < 0) : x = (digitOf s : Nat) ∧ carryOf s = 0 := by subst e; rw [digitOf, carryOf, if_neg h, if_neg h2, if_neg h, if_neg h2]; omega
def TotalOk (P : Program) (f : FuncId) : Prop := ∀ {d : PHeap} {v w : Value} {A B : List Nat} {mi : Bool}, RInts d v (ints A) → RInts d w (ints B) → A.length = B.length → (∀ x ∈ A, x < 10) → (∀ x ∈ B, x < 10) → A.length ≤ 1000000 → RL P f [v, w, .bool mi] d (totF mi A B).1
def g_thimbleref01_total : GFun :=
 ⟨57, [(.tmp 6)],
 (.seq
 (.reg false (.op false ⟨(some 6), none, (.mv (.const (.slice none 0 0)))⟩ .done))
 (.seq
 (.reg false (.op false ⟨(some 11), none, (.mv (.tmp 0))⟩
  (.op false ⟨(some 12), none, (.len (.tmp 11))⟩
  (.op false ⟨(some 13), none, (.mks 1 8 [(.int .i64 0)] (.tmp 12) (.tmp 12))⟩
  (.op false ⟨(some 7), none, (.mv (.tmp 13))⟩ .done)))))
 (.seq
 (.reg false (.op false ⟨(some 8), none, (.mv (.const (.int .i64 0)))⟩ .done))
 (.seq (.seq
 (.reg false (.op false ⟨(some 14), none, (.mv (.tmp 0))⟩
  (.op false ⟨(some 15), none, (.len (.tmp 14))⟩
  (.op false ⟨(some 16), none, (.bin .sub (.tmp 15) (.const (.int .i64 1)))⟩
  (.op false ⟨(some 9), none, (.mv (.tmp 16))⟩ .done))))) (.block 0 (.loop
 (.seq (.seq
 (.reg false (.op false ⟨(some 17), none, (.mv (.tmp 9))⟩
  (.op false ⟨(some 18), none, (.bin .geq (.tmp 17) (.const (.int .i64 0)))⟩ .done))) (.cond (.tmp 18) .skip (.exit 0)))
 (.seq (.block 1
 (.seq
 (.reg true (.op true ⟨(some 21), none, (.mv (.tmp 0))⟩
  (.op true ⟨(some 22), none, (.mv (.tmp 9))⟩
  (.op true ⟨(some 23), none, (.idx 1 (.tmp 21) (.tmp 22))⟩
  (.op true ⟨(some 24), none, (.ld none (.tmp 23))⟩
  (.op true ⟨(some 25), none, (.mv (.tmp 1))⟩
  (.op true ⟨(some 26), none, (.mv (.tmp 9))⟩
  (.op true ⟨(some 27), none, (.idx 1 (.tmp 25) (.tmp 26))⟩
  (.op true ⟨(some 28), none, (.ld none (.tmp 27))⟩
  (.op true ⟨(some 29), none, (.bin .add (.tmp 24) (.tmp 28))⟩
  (.op true ⟨(some 30), none, (.mv (.tmp 8))⟩
  (.op true ⟨(some 31), none, (.bin .add (.tmp 29) (.tmp 30))⟩
  (.bar (.op true ⟨(some 10), none, (.mv (.tmp 31))⟩ .done))))))))))))))
 (.seq (.seq
 (.reg false (.op false ⟨(some 32), none, (.mv (.tmp 2))⟩ .done)) (.cond (.tmp 32)
 (.reg true (.op true ⟨(some 33), none, (.mv (.tmp 0))⟩
  (.op true ⟨(some 34), none, (.mv (.tmp 9))⟩
  (.op true ⟨(some 35), none, (.idx 1 (.tmp 33) (.tmp 34))⟩
  (.op true ⟨(some 36), none, (.ld none (.tmp 35))⟩
  (.op true ⟨(some 37), none, (.mv (.tmp 1))⟩
  (.op true ⟨(some 38), none, (.mv (.tmp 9))⟩
  (.op true ⟨(some 39), none, (.idx 1 (.tmp 37) (.tmp 38))⟩
  (.op true ⟨(some 40), none, (.ld none (.tmp 39))⟩
  (.op true ⟨(some 41), none, (.bin .sub (.tmp 36) (.tmp 40))⟩
  (.op true ⟨(some 42), none, (.mv (.tmp 8))⟩
  (.op true ⟨(some 43), none, (.bin .add (.tmp 41) (.tmp 42))⟩
  (.bar (.op true ⟨(some 10), none, (.mv (.tmp 43))⟩ .done)))))))))))))) .skip))
 (.seq
 (.reg false (.op false ⟨(some 8), none, (.mv (.const (.int .i64 0)))⟩ .done))
 (.seq (.seq
 (.reg false (.op false ⟨(some 44), none, (.mv (.tmp 10))⟩
  (.op false ⟨(some 45), none, (.bin .gtr (.tmp 44) (.const (.int .i64 9)))⟩ .done))) (.cond (.tmp 45)
 (.seq
 (.reg false (.op false ⟨(some 46), none, (.mv (.tmp 10))⟩
  (.op false ⟨(some 47), none, (.bin .sub (.tmp 46) (.const (.int .i64 10)))⟩
  (.op false ⟨(some 10), none, (.mv (.tmp 47))⟩ .done))))
 (.reg false (.op false ⟨(some 8), none, (.mv (.const (.int .i64 1)))⟩ .done))) .skip))
 (.seq (.seq
 (.reg false (.op false ⟨(some 48), none, (.mv (.tmp 10))⟩
  (.op false ⟨(some 49), none, (.bin .lss (.tmp 48) (.const (.int .i64 0)))⟩ .done))) (.cond (.tmp 49)
 (.seq
 (.reg false (.op false ⟨(some 50), none, (.mv (.tmp 10))⟩
  (.op false ⟨(some 51), none, (.bin .add (.tmp 50) (.const (.int .i64 10)))⟩
  (.op false ⟨(some 10), none, (.mv (.tmp 51))⟩ .done))))
 (.reg false (.op false ⟨(some 8), none, (.mv (.const (.int .i64 (-1))))⟩ .done))) .skip))
 (.reg false (.op false ⟨(some 52), none, (.mv (.tmp 7))⟩
  (.op false ⟨(some 53), none, (.mv (.tmp 9))⟩
  (.op false ⟨(some 54), none, (.mv (.tmp 10))⟩
  (.op false ⟨(some 55), none, (.idx 1 (.tmp 52) (.tmp 53))⟩
  (.op false ⟨none, none, (.st 1 (.tmp 55) (.tmp 54))⟩ .done))))))))))))
 (.reg false (.op false ⟨(some 19), none, (.mv (.tmp 9))⟩
  (.op false ⟨(some 20), none, (.bin .sub (.tmp 19) (.const (.int .i64 1)))⟩
  (.op false ⟨(some 9), none, (.mv (.tmp 20))⟩ .done)))))))))
 (.seq
 (.reg false (.op false ⟨(some 56), none, (.mv (.tmp 7))⟩
  (.op false ⟨(some 6), none, (.mv (.tmp 56))⟩ .done))) .ret)))))⟩

set_option maxHeartbeats 1000000 in
theorem total_ok {P : Program} {f : FuncId} (hd : dec P f = some g_thimbleref01_total) : TotalOk P f := by
  intro d v w A B mi hv hw hl hA hB hn
  refine GCall_of hd (Nat.le_of_ble_eq_true rfl) ?_
  obtain ⟨a, c, rfl⟩ := RSl.val hv
  obtain ⟨a', c', rfl⟩ := RSl.val hw
  rw [ints_len] at hv hw
  rw [ints_len, ints_len]
  have q1 : RSl 1 RInt d (.slice a A.length c) (ints A) := hv
  have q2 : RSl 1 RInt d (.slice a' B.length c') (ints B) := hw
  have n1 := ints_len A
  have n2 := ints_len B
  show gwp P _ _ _ _ _
  (apply w_sq; apply w_reg; apply w_mvs; rfl; apply w_done0; apply w_sq; apply w_reg; apply w_mvs; rfl; apply w_len; rfl)
  refine w_mks (n := A.length) (c := A.length) rfl rfl (Nat.le_refl _) (by omega) (by omega) (fun b7 T7 => ?_)
  rw [zrow_int]
  (apply w_mvs; rfl; apply w_done0; apply w_sq; apply w_reg; apply w_mvi; rfl; apply w_done0; apply w_sq; apply w_sq; apply w_reg; apply w_mvs; rfl; apply w_len; rfl; apply w_sub; rfl; rfl; omega; omega; apply w_mvi; rfl; apply w_done0; apply w_block)
  refine w_loopS (α := Nat) (fun k => [(0, .slice a A.length c), (1, .slice a' B.length c'), (2, .bool mi), (7, .slice (some ⟨b7, 0, none⟩) A.length A.length), (8, .int .i64 (totF mi (A.drop k) (B.drop k)).2), (9, .int .i64 ((k : Int) - 1))])
    (fun k d' L' => d' = d ∧ k ≤ A.length ∧ L' = [bx b7 T7 (intVs (List.replicate k 0 ++ (totF mi (A.drop k) (B.drop k)).1))]) (fun k => k) A.length
    ⟨rfl, rfl, rfl, rfl, by rw [List.drop_length]; rfl, rfl, trivial⟩ ⟨rfl, Nat.le_refl _, by rw [List.drop_length]; simp [totF]⟩ ?_
  rintro k ρ d' L' ⟨hdd, hk, hL⟩
  subst hdd; subst hL
  cases k with
  | zero =>
    (apply w_sq; apply w_sq; apply w_reg; apply w_mvi; rfl; apply w_geq; rfl; rfl; apply w_done0; refine w_ifdF rfl (by omega) ?_; apply w_exit; apply w_sq; apply w_reg; apply w_mvs; rfl; apply w_mvs; rfl; apply w_done0; apply w_ret)
    have hfin : (totF mi A B).1.length = A.length := tot_len mi A B hl
    refine finF [_] ⟨rfl, trivial⟩ (fun d2 hl2 hg2 => ⟨rfl, ?_⟩)
    have hlt := tot_lt mi A B hA hB
    have o : GRow 1 RInt d2 (.slice (some ⟨b7, 0, none⟩) A.length A.length) (ints (totF mi A B).1) (bx b7 T7 (intVs (totF mi A B).1)) := GRow.litI (intVs_ints _) (fun x hx => by
      obtain ⟨y, hy, rfl⟩ := List.mem_map.1 hx
      have := hlt y hy
      show -9223372036854775808 ≤ (y : Int) ∧ (y : Int) ≤ 9223372036854775807
      omega) (by rw [ints_len, hfin]) (by rw [ints_len, hfin]; omega)
    exact o.rsl mono_int (by omega) (Le.refl _) (hg2 _ (List.mem_cons_self ..))
  | succ k =>
    have hk1 : k < A.length := by omega
    have hk2 : k < B.length := by omega
    have e1 := ints_at A (i := k) (by omega)
    have e2 := ints_at B (i := k) (by omega)
    have a1 := hA _ (List.getElem_mem hk1)
    have a2 := hB _ (List.getElem_mem hk2)
    have hcr := tot_carry mi (A.drop (k + 1)) (B.drop (k + 1))
    have hst : totF mi (A.drop k) (B.drop k) = (digitOf (totS mi A[k] B[k] (totF mi (A.drop (k + 1)) (B.drop (k + 1))).2) :: (totF mi (A.drop (k + 1)) (B.drop (k + 1))).1, carryOf (totS mi A[k] B[k] (totF mi (A.drop (k + 1)) (B.drop (k + 1))).2)) := by
      rw [List.drop_eq_getElem_cons hk1, List.drop_eq_getElem_cons hk2]; rfl
    have hT : ∀ x, totF mi (A.drop (k + 1)) (B.drop (k + 1)) = x → True := fun _ _ => trivial
    generalize hTT : totF mi (A.drop (k + 1)) (B.drop (k + 1)) = T at *
    obtain ⟨Tl, Tc⟩ := T
    simp only at hcr hst ⊢
    have hbl : (intVs (List.replicate (k + 1) 0 ++ Tl)).length = k + 1 + Tl.length := by simp [intVs]
    have hk9 : ((k + 1 : Nat) : Int) - 1 = (k : Int) := by omega
    rw [hk9]
    cases mi with
    | false =>
      by_cases h9 : (ints A)[k]'(by omega) + (ints B)[k]'(by omega) + Tc > 9
      · obtain ⟨hdg, hcg⟩ := digit_hi (show totS false A[k] B[k] Tc = (ints A)[k]'(by omega) + (ints B)[k]'(by omega) + Tc from by rw [e1, e2]; rfl) h9
        (apply w_sq; apply w_sq; apply w_reg; apply w_mvi; rfl; apply w_geq; rfl; rfl; apply w_done0; refine w_ifdT rfl (by omega) ?_; apply w_skip; apply w_sq; apply w_block; apply w_sq; apply w_drawn; apply w_mvs; rfl; apply w_mvi; rfl; refine w_idxR (sz := 1) (R := RInt) (by rfl) (by assumption) (by rfl) rfl (by omega) ?_; rintro _ _ _ _ _ ⟨rfl, _, _⟩; apply w_ld; rfl; exact hc_ds0 (by assumption) rfl; apply w_mvs; rfl; apply w_mvi; rfl; refine w_idxR (sz := 1) (R := RInt) (by rfl) (by assumption) (by rfl) rfl (by omega) ?_; rintro _ _ _ _ _ ⟨rfl, _, _⟩; apply w_ld; rfl; exact hc_ds0 (by assumption) rfl; apply w_add; rfl; rfl; omega; omega; apply w_mvi; rfl; apply w_add; rfl; rfl; omega; omega; apply w_bar; apply w_mvi; rfl; apply w_done0; apply w_sq; apply w_sq; apply w_reg; apply w_mvb; rfl; apply w_done0; apply w_ifF; rfl; apply w_skip; apply w_sq; apply w_reg; apply w_mvi; rfl; apply w_done0; apply w_sq; apply w_sq; apply w_reg; apply w_mvi; rfl; apply w_gtr; rfl; rfl; apply w_done0; refine w_ifdT rfl (by omega) ?_; apply w_sq; apply w_reg; apply w_mvi; rfl; apply w_sub; rfl; rfl; omega; omega; apply w_mvi; rfl; apply w_done0; apply w_reg; apply w_mvi; rfl; apply w_done0; apply w_sq; apply w_sq; apply w_reg; apply w_mvi; rfl; apply w_lss; rfl; rfl; apply w_done0; refine w_ifdF rfl (by omega) ?_; apply w_skip; apply w_reg; apply w_mvs; rfl; apply w_mvi; rfl; apply w_mvi; rfl)
        refine w_idx1 k rfl rfl (by omega) hk1 ?_
        refine w_stE 0 (intVs (List.replicate k 0 ++ digitOf (totS false A[k] B[k] Tc) :: Tl)) rfl rfl rfl rfl (by rw [hbl]; show k + 1 ≤ _; omega) rfl ?_ ?_
        · rw [← patch_int]
          show patch _ k [_] = _
          congr 3; exact congrArg _ hdg
        (apply w_done0; apply w_reg; apply w_mvi; rfl; apply w_sub; rfl; rfl; omega; omega; apply w_mvi; rfl; apply w_done0)
        refine ⟨k, by omega, ⟨rfl, rfl, rfl, rfl, ?_, int_eq (by omega), trivial⟩, rfl, by omega, ?_⟩
        · rw [hst]; exact int_eq hcg.symm
        · rw [hst]; rfl
      by_cases h0 : (ints A)[k]'(by omega) + (ints B)[k]'(by omega) + Tc < 0
      · obtain ⟨hdg, hcg⟩ := digit_lo (show totS false A[k] B[k] Tc = (ints A)[k]'(by omega) + (ints B)[k]'(by omega) + Tc from by rw [e1, e2]; rfl) h0 (by omega)
        (apply w_sq; apply w_sq; apply w_reg; apply w_mvi; rfl; apply w_geq; rfl; rfl; apply w_done0; refine w_ifdT rfl (by omega) ?_; apply w_skip; apply w_sq; apply w_block; apply w_sq; apply w_drawn; apply w_mvs; rfl; apply w_mvi; rfl; refine w_idxR (sz := 1) (R := RInt) (by rfl) (by assumption) (by rfl) rfl (by omega) ?_; rintro _ _ _ _ _ ⟨rfl, _, _⟩; apply w_ld; rfl; exact hc_ds0 (by assumption) rfl; apply w_mvs; rfl; apply w_mvi; rfl; refine w_idxR (sz := 1) (R := RInt) (by rfl) (by assumption) (by rfl) rfl (by omega) ?_; rintro _ _ _ _ _ ⟨rfl, _, _⟩; apply w_ld; rfl; exact hc_ds0 (by assumption) rfl; apply w_add; rfl; rfl; omega; omega; apply w_mvi; rfl; apply w_add; rfl; rfl; omega; omega; apply w_bar; apply w_mvi; rfl; apply w_done0; apply w_sq; apply w_sq; apply w_reg; apply w_mvb; rfl; apply w_done0; apply w_ifF; rfl; apply w_skip; apply w_sq; apply w_reg; apply w_mvi; rfl; apply w_done0; apply w_sq; apply w_sq; apply w_reg; apply w_mvi; rfl; apply w_gtr; rfl; rfl; apply w_done0; refine w_ifdF rfl (by omega) ?_; apply w_skip; apply w_sq; apply w_sq; apply w_reg; apply w_mvi; rfl; apply w_lss; rfl; rfl; apply w_done0; refine w_ifdT rfl (by omega) ?_; apply w_sq; apply w_reg; apply w_mvi; rfl; apply w_add; rfl; rfl; omega; omega; apply w_mvi; rfl; apply w_done0; apply w_reg; apply w_mvi; rfl; apply w_done0; apply w_reg; apply w_mvs; rfl; apply w_mvi; rfl; apply w_mvi; rfl)
        refine w_idx1 k rfl rfl (by omega) hk1 ?_
        refine w_stE 0 (intVs (List.replicate k 0 ++ digitOf (totS false A[k] B[k] Tc) :: Tl)) rfl rfl rfl rfl (by rw [hbl]; show k + 1 ≤ _; omega) rfl ?_ ?_
        · rw [← patch_int]
          show patch _ k [_] = _
          congr 3; exact congrArg _ hdg
        (apply w_done0; apply w_reg; apply w_mvi; rfl; apply w_sub; rfl; rfl; omega; omega; apply w_mvi; rfl; apply w_done0)
        refine ⟨k, by omega, ⟨rfl, rfl, rfl, rfl, ?_, int_eq (by omega), trivial⟩, rfl, by omega, ?_⟩
        · rw [hst]; exact int_eq hcg.symm
        · rw [hst]; rfl
      · obtain ⟨hdg, hcg⟩ := digit_mid (show totS false A[k] B[k] Tc = (ints A)[k]'(by omega) + (ints B)[k]'(by omega) + Tc from by rw [e1, e2]; rfl) h9 h0
        (apply w_sq; apply w_sq; apply w_reg; apply w_mvi; rfl; apply w_geq; rfl; rfl; apply w_done0; refine w_ifdT rfl (by omega) ?_; apply w_skip; apply w_sq; apply w_block; apply w_sq; apply w_drawn; apply w_mvs; rfl; apply w_mvi; rfl; refine w_idxR (sz := 1) (R := RInt) (by rfl) (by assumption) (by rfl) rfl (by omega) ?_; rintro _ _ _ _ _ ⟨rfl, _, _⟩; apply w_ld; rfl; exact hc_ds0 (by assumption) rfl; apply w_mvs; rfl; apply w_mvi; rfl; refine w_idxR (sz := 1) (R := RInt) (by rfl) (by assumption) (by rfl) rfl (by omega) ?_; rintro _ _ _ _ _ ⟨rfl, _, _⟩; apply w_ld; rfl; exact hc_ds0 (by assumption) rfl; apply w_add; rfl; rfl; omega; omega; apply w_mvi; rfl; apply w_add; rfl; rfl; omega; omega; apply w_bar; apply w_mvi; rfl; apply w_done0; apply w_sq; apply w_sq; apply w_reg; apply w_mvb; rfl; apply w_done0; apply w_ifF; rfl; apply w_skip; apply w_sq; apply w_reg; apply w_mvi; rfl; apply w_done0; apply w_sq; apply w_sq; apply w_reg; apply w_mvi; rfl; apply w_gtr; rfl; rfl; apply w_done0; refine w_ifdF rfl (by omega) ?_; apply w_skip; apply w_sq; apply w_sq; apply w_reg; apply w_mvi; rfl; apply w_lss; rfl; rfl; apply w_done0; refine w_ifdF rfl (by omega) ?_; apply w_skip; apply w_reg; apply w_mvs; rfl; apply w_mvi; rfl; apply w_mvi; rfl)
        refine w_idx1 k rfl rfl (by omega) hk1 ?_
        refine w_stE 0 (intVs (List.replicate k 0 ++ digitOf (totS false A[k] B[k] Tc) :: Tl)) rfl rfl rfl rfl (by rw [hbl]; show k + 1 ≤ _; omega) rfl ?_ ?_
        · rw [← patch_int]
          show patch _ k [_] = _
          congr 3; exact congrArg _ hdg
        (apply w_done0; apply w_reg; apply w_mvi; rfl; apply w_sub; rfl; rfl; omega; omega; apply w_mvi; rfl; apply w_done0)
        refine ⟨k, by omega, ⟨rfl, rfl, rfl, rfl, ?_, int_eq (by omega), trivial⟩, rfl, by omega, ?_⟩
        · rw [hst]; exact int_eq hcg.symm
        · rw [hst]; rfl
    | true =>
      by_cases h9 : (ints A)[k]'(by omega) - (ints B)[k]'(by omega) + Tc > 9
      · obtain ⟨hdg, hcg⟩ := digit_hi (show totS true A[k] B[k] Tc = (ints A)[k]'(by omega) - (ints B)[k]'(by omega) + Tc from by rw [e1, e2]; rfl) h9
        (apply w_sq; apply w_sq; apply w_reg; apply w_mvi; rfl; apply w_geq; rfl; rfl; apply w_done0; refine w_ifdT rfl (by omega) ?_; apply w_skip; apply w_sq; apply w_block; apply w_sq; apply w_drawn; apply w_mvs; rfl; apply w_mvi; rfl; refine w_idxR (sz := 1) (R := RInt) (by rfl) (by assumption) (by rfl) rfl (by omega) ?_; rintro _ _ _ _ _ ⟨rfl, _, _⟩; apply w_ld; rfl; exact hc_ds0 (by assumption) rfl; apply w_mvs; rfl; apply w_mvi; rfl; refine w_idxR (sz := 1) (R := RInt) (by rfl) (by assumption) (by rfl) rfl (by omega) ?_; rintro _ _ _ _ _ ⟨rfl, _, _⟩; apply w_ld; rfl; exact hc_ds0 (by assumption) rfl; apply w_add; rfl; rfl; omega; omega; apply w_mvi; rfl; apply w_add; rfl; rfl; omega; omega; apply w_bar; apply w_mvi; rfl; apply w_done0; apply w_sq; apply w_sq; apply w_reg; apply w_mvb; rfl; apply w_done0; apply w_ifT; rfl; apply w_drawn; apply w_mvs; rfl; apply w_mvi; rfl; refine w_idxR (sz := 1) (R := RInt) (by rfl) (by assumption) (by rfl) rfl (by omega) ?_; rintro _ _ _ _ _ ⟨rfl, _, _⟩; apply w_ld; rfl; exact hc_ds0 (by assumption) rfl; apply w_mvs; rfl; apply w_mvi; rfl; refine w_idxR (sz := 1) (R := RInt) (by rfl) (by assumption) (by rfl) rfl (by omega) ?_; rintro _ _ _ _ _ ⟨rfl, _, _⟩; apply w_ld; rfl; exact hc_ds0 (by assumption) rfl; apply w_sub; rfl; rfl; omega; omega; apply w_mvi; rfl; apply w_add; rfl; rfl; omega; omega; apply w_bar; apply w_mvi; rfl; apply w_done0; apply w_sq; apply w_reg; apply w_mvi; rfl; apply w_done0; apply w_sq; apply w_sq; apply w_reg; apply w_mvi; rfl; apply w_gtr; rfl; rfl; apply w_done0; refine w_ifdT rfl (by omega) ?_; apply w_sq; apply w_reg; apply w_mvi; rfl; apply w_sub; rfl; rfl; omega; omega; apply w_mvi; rfl; apply w_done0; apply w_reg; apply w_mvi; rfl; apply w_done0; apply w_sq; apply w_sq; apply w_reg; apply w_mvi; rfl; apply w_lss; rfl; rfl; apply w_done0; refine w_ifdF rfl (by omega) ?_; apply w_skip; apply w_reg; apply w_mvs; rfl; apply w_mvi; rfl; apply w_mvi; rfl)
        refine w_idx1 k rfl rfl (by omega) hk1 ?_
        refine w_stE 0 (intVs (List.replicate k 0 ++ digitOf (totS true A[k] B[k] Tc) :: Tl)) rfl rfl rfl rfl (by rw [hbl]; show k + 1 ≤ _; omega) rfl ?_ ?_
        · rw [← patch_int]
          show patch _ k [_] = _
          congr 3; exact congrArg _ hdg
        (apply w_done0; apply w_reg; apply w_mvi; rfl; apply w_sub; rfl; rfl; omega; omega; apply w_mvi; rfl; apply w_done0)
        refine ⟨k, by omega, ⟨rfl, rfl, rfl, rfl, ?_, int_eq (by omega), trivial⟩, rfl, by omega, ?_⟩
        · rw [hst]; exact int_eq hcg.symm
        · rw [hst]; rfl
      by_cases h0 : (ints A)[k]'(by omega) - (ints B)[k]'(by omega) + Tc < 0
      · obtain ⟨hdg, hcg⟩ := digit_lo (show totS true A[k] B[k] Tc = (ints A)[k]'(by omega) - (ints B)[k]'(by omega) + Tc from by rw [e1, e2]; rfl) h0 (by omega)
        (apply w_sq; apply w_sq; apply w_reg; apply w_mvi; rfl; apply w_geq; rfl; rfl; apply w_done0; refine w_ifdT rfl (by omega) ?_; apply w_skip; apply w_sq; apply w_block; apply w_sq; apply w_drawn; apply w_mvs; rfl; apply w_mvi; rfl; refine w_idxR (sz := 1) (R := RInt) (by rfl) (by assumption) (by rfl) rfl (by omega) ?_; rintro _ _ _ _ _ ⟨rfl, _, _⟩; apply w_ld; rfl; exact hc_ds0 (by assumption) rfl; apply w_mvs; rfl; apply w_mvi; rfl; refine w_idxR (sz := 1) (R := RInt) (by rfl) (by assumption) (by rfl) rfl (by omega) ?_; rintro _ _ _ _ _ ⟨rfl, _, _⟩; apply w_ld; rfl; exact hc_ds0 (by assumption) rfl; apply w_add; rfl; rfl; omega; omega; apply w_mvi; rfl; apply w_add; rfl; rfl; omega; omega; apply w_bar; apply w_mvi; rfl; apply w_done0; apply w_sq; apply w_sq; apply w_reg; apply w_mvb; rfl; apply w_done0; apply w_ifT; rfl; apply w_drawn; apply w_mvs; rfl; apply w_mvi; rfl; refine w_idxR (sz := 1) (R := RInt) (by rfl) (by assumption) (by rfl) rfl (by omega) ?_; rintro _ _ _ _ _ ⟨rfl, _, _⟩; apply w_ld; rfl; exact hc_ds0 (by assumption) rfl; apply w_mvs; rfl; apply w_mvi; rfl; refine w_idxR (sz := 1) (R := RInt) (by rfl) (by assumption) (by rfl) rfl (by omega) ?_; rintro _ _ _ _ _ ⟨rfl, _, _⟩; apply w_ld; rfl; exact hc_ds0 (by assumption) rfl; apply w_sub; rfl; rfl; omega; omega; apply w_mvi; rfl; apply w_add; rfl; rfl; omega; omega; apply w_bar; apply w_mvi; rfl; apply w_done0; apply w_sq; apply w_reg; apply w_mvi; rfl; apply w_done0; apply w_sq; apply w_sq; apply w_reg; apply w_mvi; rfl; apply w_gtr; rfl; rfl; apply w_done0; refine w_ifdF rfl (by omega) ?_; apply w_skip; apply w_sq; apply w_sq; apply w_reg; apply w_mvi; rfl; apply w_lss; rfl; rfl; apply w_done0; refine w_ifdT rfl (by omega) ?_; apply w_sq; apply w_reg; apply w_mvi; rfl; apply w_add; rfl; rfl; omega; omega; apply w_mvi; rfl; apply w_done0; apply w_reg; apply w_mvi; rfl; apply w_done0; apply w_reg; apply w_mvs; rfl; apply w_mvi; rfl; apply w_mvi; rfl)
        refine w_idx1 k rfl rfl (by omega) hk1 ?_
        refine w_stE 0 (intVs (List.replicate k 0 ++ digitOf (totS true A[k] B[k] Tc) :: Tl)) rfl rfl rfl rfl (by rw [hbl]; show k + 1 ≤ _; omega) rfl ?_ ?_
        · rw [← patch_int]
          show patch _ k [_] = _
          congr 3; exact congrArg _ hdg
        (apply w_done0; apply w_reg; apply w_mvi; rfl; apply w_sub; rfl; rfl; omega; omega; apply w_mvi; rfl; apply w_done0)
        refine ⟨k, by omega, ⟨rfl, rfl, rfl, rfl, ?_, int_eq (by omega), trivial⟩, rfl, by omega, ?_⟩
        · rw [hst]; exact int_eq hcg.symm
        · rw [hst]; rfl
      · obtain ⟨hdg, hcg⟩ := digit_mid (show totS true A[k] B[k] Tc = (ints A)[k]'(by omega) - (ints B)[k]'(by omega) + Tc from by rw [e1, e2]; rfl) h9 h0
        (apply w_sq; apply w_sq; apply w_reg; apply w_mvi; rfl; apply w_geq; rfl; rfl; apply w_done0; refine w_ifdT rfl (by omega) ?_; apply w_skip; apply w_sq; apply w_block; apply w_sq; apply w_drawn; apply w_mvs; rfl; apply w_mvi; rfl; refine w_idxR (sz := 1) (R := RInt) (by rfl) (by assumption) (by rfl) rfl (by omega) ?_; rintro _ _ _ _ _ ⟨rfl, _, _⟩; apply w_ld; rfl; exact hc_ds0 (by assumption) rfl; apply w_mvs; rfl; apply w_mvi; rfl; refine w_idxR (sz := 1) (R := RInt) (by rfl) (by assumption) (by rfl) rfl (by omega) ?_; rintro _ _ _ _ _ ⟨rfl, _, _⟩; apply w_ld; rfl; exact hc_ds0 (by assumption) rfl; apply w_add; rfl; rfl; omega; omega; apply w_mvi; rfl; apply w_add; rfl; rfl; omega; omega; apply w_bar; apply w_mvi; rfl; apply w_done0; apply w_sq; apply w_sq; apply w_reg; apply w_mvb; rfl; apply w_done0; apply w_ifT; rfl; apply w_drawn; apply w_mvs; rfl; apply w_mvi; rfl; refine w_idxR (sz := 1) (R := RInt) (by rfl) (by assumption) (by rfl) rfl (by omega) ?_; rintro _ _ _ _ _ ⟨rfl, _, _⟩; apply w_ld; rfl; exact hc_ds0 (by assumption) rfl; apply w_mvs; rfl; apply w_mvi; rfl; refine w_idxR (sz := 1) (R := RInt) (by rfl) (by assumption) (by rfl) rfl (by omega) ?_; rintro _ _ _ _ _ ⟨rfl, _, _⟩; apply w_ld; rfl; exact hc_ds0 (by assumption) rfl; apply w_sub; rfl; rfl; omega; omega; apply w_mvi; rfl; apply w_add; rfl; rfl; omega; omega; apply w_bar; apply w_mvi; rfl; apply w_done0; apply w_sq; apply w_reg; apply w_mvi; rfl; apply w_done0; apply w_sq; apply w_sq; apply w_reg; apply w_mvi; rfl; apply w_gtr; rfl; rfl; apply w_done0; refine w_ifdF rfl (by omega) ?_; apply w_skip; apply w_sq; apply w_sq; apply w_reg; apply w_mvi; rfl; apply w_lss; rfl; rfl; apply w_done0; refine w_ifdF rfl (by omega) ?_; apply w_skip; apply w_reg; apply w_mvs; rfl; apply w_mvi; rfl; apply w_mvi; rfl)
        refine w_idx1 k rfl rfl (by omega) hk1 ?_
        refine w_stE 0 (intVs (List.replicate k 0 ++ digitOf (totS true A[k] B[k] Tc) :: Tl)) rfl rfl rfl rfl (by rw [hbl]; show k + 1 ≤ _; omega) rfl ?_ ?_
        · rw [← patch_int]
          show patch _ k [_] = _
          congr 3; exact congrArg _ hdg
        (apply w_done0; apply w_reg; apply w_mvi; rfl; apply w_sub; rfl; rfl; omega; omega; apply w_mvi; rfl; apply w_done0)
        refine ⟨k, by omega, ⟨rfl, rfl, rfl, rfl, ?_, int_eq (by omega), trivial⟩, rfl, by omega, ?_⟩
        · rw [hst]; exact int_eq hcg.symm
        · rw [hst]; rfl
end Go.Gk.Val
end

section
namespace Go.Gk.Val
open Go Go.Gk Go.Gk.Num
attribute [local irreducible] gwp gws

def PairR (D1 : List Nat) (e1 : Int) (D2 : List Nat) (e2 : Int) (X Y : List Nat) : Prop :=
  X.length = Y.length ∧ X.length ≤ 2000 ∧ (∀ d ∈ X, d < 10) ∧ (∀ d ∈ Y, d < 10) ∧ val X * 10 < 10 ^ X.length ∧ val Y * 10 < 10 ^ X.length ∧
  cmpI (val X) (val Y) = numC (val D1) e1 (val D2) e2 ∧ (val X = 0 ↔ val D1 = 0) ∧ (val Y = 0 ↔ val D2 = 0)
theorem numC_z1 {e1 m e2 : Int} : numC 0 e1 m e2 = cmpI 0 m := by
  rw [numC_sgn (.inr rfl), sgn_zero]
  rcases Int.lt_trichotomy m 0 with h | h | h
  · rw [sgn_neg h, cmpI_gt h, cmpI_gt (by omega)]
  · subst h; rfl
  · rw [sgn_pos h, cmpI_lt h, cmpI_lt (by omega)]
theorem numC_z2 {m e1 e2 : Int} : numC m e1 0 e2 = cmpI m 0 := by rw [numC_swap, numC_z1, ← cmpI_swap]
theorem lay_lt {D : List Nat} {xe e many : Int} (hD : ∀ d ∈ D, d < 10) (h : 1 + D.length + (xe - e).toNat ≤ many.toNat) : val D * 10 ^ (xe - e).toNat * 10 < 10 ^ many.toNat := by
  have h1 := val_bound hD
  have h2 : val D * 10 ^ ((xe - e).toNat + 1) < 10 ^ D.length * 10 ^ ((xe - e).toNat + 1) := Nat.mul_lt_mul_of_pos_right h1 (Nat.pow_pos (by omega))
  rw [← Nat.pow_add] at h2
  have h3 : 10 ^ (D.length + ((xe - e).toNat + 1)) ≤ 10 ^ many.toNat := Nat.pow_le_pow_right (by omega) (by omega)
  rw [Nat.mul_assoc, ← Nat.pow_succ, Nat.succ_eq_add_one]
  omega
theorem mul_pow_zero {a n : Nat} : a * 10 ^ n = 0 ↔ a = 0 := by
  rw [Nat.mul_eq_zero]
  have := Nat.pow_pos (n := n) (show 0 < 10 by omega)
  omega
theorem pair_fin {D1 D2 : List Nat} {e1 e2 xe ye e many : Int} (h1 : ∀ d ∈ D1, d < 10) (h2 : ∀ d ∈ D2, d < 10) (hx : D1 = [] ∨ xe = e1) (hy : D2 = [] ∨ ye = e2) (q1 : e ≤ xe) (q2 : e ≤ ye)
    (m1 : 1 + D1.length + (xe - e) ≤ many) (m2 : 1 + D2.length + (ye - e) ≤ many) (hm : many ≤ 2000) : PairR D1 e1 D2 e2 (wideF D1 xe e many) (wideF D2 ye e many) := by
  have l1 := wide_len (D := D1) (xe := xe) (e := e) (many := many) (by omega)
  have l2 := wide_len (D := D2) (xe := ye) (e := e) (many := many) (by omega)
  refine ⟨by rw [l1, l2], by rw [l1]; omega, wide_lt h1, wide_lt h2, ?_, ?_, ?_, ?_, ?_⟩
  · rw [l1, wide_val]; exact lay_lt h1 (by omega)
  · rw [l1, wide_val]; exact lay_lt h2 (by omega)
  · rw [wide_val, wide_val]
    rcases hx with rfl | rfl
    · rw [val_nil, Nat.zero_mul]
      show cmpI 0 _ = numC 0 _ _ _
      rw [numC_z1]
      have := Nat.pow_pos (n := (ye - e).toNat) (show 0 < 10 by omega)
      have := cmpI_mul 0 (val D2) this
      rw [Int.natCast_mul, ← this, Int.zero_mul]
    · rcases hy with rfl | rfl
      · rw [val_nil, Nat.zero_mul]
        show cmpI _ 0 = numC _ _ 0 _
        rw [numC_z2]
        have := Nat.pow_pos (n := (xe - e).toNat) (show 0 < 10 by omega)
        have := cmpI_mul (val D1) 0 this
        rw [Int.natCast_mul, ← this, Int.zero_mul]
      · rw [← numC_at _ _ _ _ e q1 q2, Int.natCast_mul, Int.natCast_mul]
  · rw [wide_val, mul_pow_zero]
  · rw [wide_val, mul_pow_zero]
def PairOk (P : Program) (f : FuncId) : Prop := ∀ {d : PHeap} {na nb : Bool} {v w : Value} {D1 D2 : List Nat} {e1 e2 : Int}, RInts d v (ints D1) → RInts d w (ints D2) → D1.length ≤ 100 → D2.length ≤ 100 → (∀ x ∈ D1, x < 10) → (∀ x ∈ D2, x < 10) →
  -100 ≤ e1 → e1 ≤ 100 → -100 ≤ e2 → e2 ≤ 100 →
  GCall P f [.agg [.bool na, v, .int .i64 e1].toArray, .agg [.bool nb, w, .int .i64 e2].toArray] d [] (Ret fun r d' L' => L' = [] ∧ ∃ x y X Y, ∃ e : Int, r = .tuple #[x, y, .int .i64 e] ∧ RInts d' x (ints X) ∧ RInts d' y (ints Y) ∧ PairR D1 e1 D2 e2 X Y)
def g_thimbleref01_pair (f_thimbleref01_least f_thimbleref01_wide : Nat) : GFun :=
 ⟨76, [(.tmp 4), (.tmp 5), (.tmp 6)],
 (.seq
 (.reg false (.op false ⟨(some 2), none, (.box (.tmp 0))⟩
  (.op false ⟨(some 3), none, (.box (.tmp 1))⟩
  (.op false ⟨(some 4), none, (.mv (.const (.slice none 0 0)))⟩
  (.op false ⟨(some 5), none, (.mv (.const (.slice none 0 0)))⟩
  (.op false ⟨(some 6), none, (.mv (.const (.int .i64 0)))⟩ .done))))))
 (.seq
 (.reg false (.op false ⟨(some 9), none, (.fld 2 (.tmp 2))⟩
  (.op false ⟨(some 10), none, (.ld none (.tmp 9))⟩
  (.op false ⟨(some 11), none, (.fld 2 (.tmp 3))⟩
  (.op false ⟨(some 12), none, (.ld none (.tmp 11))⟩
  (.op false ⟨(some 13), none, (.call f_thimbleref01_least [(.tmp 10), (.tmp 12)])⟩
  (.op false ⟨(some 7), none, (.mv (.tmp 13))⟩ .done)))))))
 (.seq (.seq
 (.reg false (.op false ⟨(some 14), none, (.fld 1 (.tmp 2))⟩
  (.op false ⟨(some 15), none, (.ld none (.tmp 14))⟩
  (.op false ⟨(some 16), none, (.len (.tmp 15))⟩
  (.op false ⟨(some 17), none, (.bin .eql (.tmp 16) (.const (.int .i64 0)))⟩ .done))))) (.cond (.tmp 17)
 (.reg false (.op false ⟨(some 18), none, (.fld 2 (.tmp 3))⟩
  (.op false ⟨(some 19), none, (.ld none (.tmp 18))⟩
  (.op false ⟨(some 7), none, (.mv (.tmp 19))⟩ .done)))) .skip))
 (.seq (.seq
 (.reg false (.op false ⟨(some 20), none, (.fld 1 (.tmp 3))⟩
  (.op false ⟨(some 21), none, (.ld none (.tmp 20))⟩
  (.op false ⟨(some 22), none, (.len (.tmp 21))⟩
  (.op false ⟨(some 23), none, (.bin .eql (.tmp 22) (.const (.int .i64 0)))⟩ .done))))) (.cond (.tmp 23)
 (.reg false (.op false ⟨(some 24), none, (.fld 2 (.tmp 2))⟩
  (.op false ⟨(some 25), none, (.ld none (.tmp 24))⟩
  (.op false ⟨(some 7), none, (.mv (.tmp 25))⟩ .done)))) .skip))
 (.seq (.seq
 (.reg false (.op false ⟨(some 26), none, (.fld 1 (.tmp 2))⟩
  (.op false ⟨(some 27), none, (.ld none (.tmp 26))⟩
  (.op false ⟨(some 28), none, (.len (.tmp 27))⟩
  (.op false ⟨(some 29), none, (.bin .eql (.tmp 28) (.const (.int .i64 0)))⟩ .done))))) (.cond (.tmp 29)
 (.reg false (.op false ⟨(some 30), none, (.mv (.tmp 7))⟩
  (.op false ⟨(some 31), none, (.fld 2 (.tmp 2))⟩
  (.op false ⟨none, none, (.st 1 (.tmp 31) (.tmp 30))⟩ .done)))) .skip))
 (.seq (.seq
 (.reg false (.op false ⟨(some 32), none, (.fld 1 (.tmp 3))⟩
  (.op false ⟨(some 33), none, (.ld none (.tmp 32))⟩
  (.op false ⟨(some 34), none, (.len (.tmp 33))⟩
  (.op false ⟨(some 35), none, (.bin .eql (.tmp 34) (.const (.int .i64 0)))⟩ .done))))) (.cond (.tmp 35)
 (.reg false (.op false ⟨(some 36), none, (.mv (.tmp 7))⟩
  (.op false ⟨(some 37), none, (.fld 2 (.tmp 3))⟩
  (.op false ⟨none, none, (.st 1 (.tmp 37) (.tmp 36))⟩ .done)))) .skip))
 (.seq
 (.reg false (.op false ⟨(some 38), none, (.fld 1 (.tmp 2))⟩
  (.op false ⟨(some 39), none, (.ld none (.tmp 38))⟩
  (.op false ⟨(some 40), none, (.len (.tmp 39))⟩
  (.op false ⟨(some 41), none, (.bin .add (.const (.int .i64 1)) (.tmp 40))⟩
  (.op false ⟨(some 42), none, (.fld 2 (.tmp 2))⟩
  (.op false ⟨(some 43), none, (.ld none (.tmp 42))⟩
  (.op false ⟨(some 44), none, (.bin .add (.tmp 41) (.tmp 43))⟩
  (.op false ⟨(some 45), none, (.mv (.tmp 7))⟩
  (.op false ⟨(some 46), none, (.bin .sub (.tmp 44) (.tmp 45))⟩
  (.op false ⟨(some 8), none, (.mv (.tmp 46))⟩ .done)))))))))))
 (.seq (.seq
 (.reg false (.op false ⟨(some 47), none, (.fld 1 (.tmp 3))⟩
  (.op false ⟨(some 48), none, (.ld none (.tmp 47))⟩
  (.op false ⟨(some 49), none, (.len (.tmp 48))⟩
  (.op false ⟨(some 50), none, (.bin .add (.const (.int .i64 1)) (.tmp 49))⟩
  (.op false ⟨(some 51), none, (.fld 2 (.tmp 3))⟩
  (.op false ⟨(some 52), none, (.ld none (.tmp 51))⟩
  (.op false ⟨(some 53), none, (.bin .add (.tmp 50) (.tmp 52))⟩
  (.op false ⟨(some 54), none, (.mv (.tmp 7))⟩
  (.op false ⟨(some 55), none, (.bin .sub (.tmp 53) (.tmp 54))⟩
  (.op false ⟨(some 56), none, (.mv (.tmp 8))⟩
  (.op false ⟨(some 57), none, (.bin .gtr (.tmp 55) (.tmp 56))⟩ .done)))))))))))) (.cond (.tmp 57)
 (.reg false (.op false ⟨(some 58), none, (.fld 1 (.tmp 3))⟩
  (.op false ⟨(some 59), none, (.ld none (.tmp 58))⟩
  (.op false ⟨(some 60), none, (.len (.tmp 59))⟩
  (.op false ⟨(some 61), none, (.bin .add (.const (.int .i64 1)) (.tmp 60))⟩
  (.op false ⟨(some 62), none, (.fld 2 (.tmp 3))⟩
  (.op false ⟨(some 63), none, (.ld none (.tmp 62))⟩
  (.op false ⟨(some 64), none, (.bin .add (.tmp 61) (.tmp 63))⟩
  (.op false ⟨(some 65), none, (.mv (.tmp 7))⟩
  (.op false ⟨(some 66), none, (.bin .sub (.tmp 64) (.tmp 65))⟩
  (.op false ⟨(some 8), none, (.mv (.tmp 66))⟩ .done))))))))))) .skip))
 (.seq
 (.reg true (.op true ⟨(some 67), none, (.ld (some 3) (.tmp 2))⟩
  (.op true ⟨(some 68), none, (.mv (.tmp 7))⟩
  (.op true ⟨(some 69), none, (.mv (.tmp 8))⟩
  (.op true ⟨(some 71), none, (.ld (some 3) (.tmp 3))⟩
  (.op true ⟨(some 72), none, (.mv (.tmp 7))⟩
  (.op true ⟨(some 73), none, (.mv (.tmp 8))⟩
  (.op true ⟨(some 75), none, (.mv (.tmp 7))⟩
  (.op false ⟨(some 70), none, (.call f_thimbleref01_wide [(.tmp 67), (.tmp 68), (.tmp 69)])⟩
  (.op false ⟨(some 74), none, (.call f_thimbleref01_wide [(.tmp 71), (.tmp 72), (.tmp 73)])⟩
  (.op true ⟨(some 4), none, (.mv (.tmp 70))⟩
  (.op true ⟨(some 5), none, (.mv (.tmp 74))⟩
  (.op true ⟨(some 6), none, (.mv (.tmp 75))⟩ .done))))))))))))) .ret)))))))))⟩

set_option maxHeartbeats 1000000 in
theorem pair_ok {P : Program} {f f1 f2 : FuncId} (hd : dec P f = some (g_thimbleref01_pair f1 f2)) (h1 : LeastIOk P f1) (h2 : WideOk P f2) : PairOk P f := by
  intro d na nb v w D1 D2 e1 e2 hv hw n1 n2 b1 b2 p1 p2 p3 p4
  refine GCall_of hd (Nat.le_of_ble_eq_true rfl) ?_
  obtain ⟨a, c, rfl⟩ := RSl.val hv
  obtain ⟨a', c', rfl⟩ := RSl.val hw
  rw [ints_len] at hv hw
  rw [ints_len, ints_len]
  show gwp P _ _ _ _ _
  apply w_sq; apply w_reg
  refine w_boxa (l := [.bool na, .slice a D1.length c, .int .i64 e1]) rfl (fun t2 T2 => ?_)
  refine w_boxa (l := [.bool nb, .slice a' D2.length c', .int .i64 e2]) rfl (fun t3 T3 => ?_)
  (apply w_mvs; rfl; apply w_mvs; rfl; apply w_mvi; rfl; apply w_done0; apply w_sq; apply w_reg; apply w_fld; rfl; apply w_ld; rfl; exact hc_i 1 rfl rfl; apply w_fld; rfl; apply w_ld; rfl; exact hc_i 0 rfl rfl)
  refine w_pure rfl h1 ?_
  by_cases z1 : D1.length = 0
  · by_cases z2 : D2.length = 0
    · (apply w_mvi; rfl; apply w_done0; apply w_sq; apply w_sq; apply w_reg; apply w_fld; rfl; apply w_ld; rfl; exact hc_i 1 rfl rfl; apply w_len; rfl; apply w_eql; rfl; rfl; apply w_done0; refine w_ifdT rfl (by omega) ?_; apply w_reg; apply w_fld; rfl; apply w_ld; rfl; exact hc_i 0 rfl rfl; apply w_mvi; rfl; apply w_done0; apply w_sq; apply w_sq; apply w_reg; apply w_fld; rfl; apply w_ld; rfl; exact hc_i 0 rfl rfl; apply w_len; rfl; apply w_eql; rfl; rfl; apply w_done0; refine w_ifdT rfl (by omega) ?_; apply w_reg; apply w_fld; rfl; apply w_ld; rfl; exact hc_i 1 rfl rfl; apply w_mvi; rfl; apply w_done0; apply w_sq; apply w_sq; apply w_reg; apply w_fld; rfl; apply w_ld; rfl; exact hc_i 1 rfl rfl; apply w_len; rfl; apply w_eql; rfl; rfl; apply w_done0; refine w_ifdT rfl (by omega) ?_; apply w_reg; apply w_mvi; rfl; apply w_fld; rfl)
      refine w_stE 1 [.bool na, .slice a D1.length c, .int .i64 e1] rfl rfl rfl rfl (Nat.le_of_ble_eq_true rfl) rfl rfl ?_
      (apply w_done0; apply w_sq; apply w_sq; apply w_reg; apply w_fld; rfl; apply w_ld; rfl; exact hc_i 0 rfl rfl; apply w_len; rfl; apply w_eql; rfl; rfl; apply w_done0; refine w_ifdT rfl (by omega) ?_; apply w_reg; apply w_mvi; rfl; apply w_fld; rfl)
      refine w_stE 0 [.bool nb, .slice a' D2.length c', .int .i64 e1] rfl rfl rfl rfl (Nat.le_of_ble_eq_true rfl) rfl rfl ?_
      (apply w_done0; apply w_sq; apply w_reg; apply w_fld; rfl; apply w_ld; rfl; exact hc_i 1 rfl rfl; apply w_len; rfl; apply w_add; rfl; rfl; omega; omega; apply w_fld; rfl; apply w_ld; rfl; exact hc_i 1 rfl rfl; apply w_add; rfl; rfl; omega; omega; apply w_mvi; rfl; apply w_sub; rfl; rfl; omega; omega; apply w_mvi; rfl; apply w_done0; apply w_sq; apply w_sq; apply w_reg; apply w_fld; rfl; apply w_ld; rfl; exact hc_i 0 rfl rfl; apply w_len; rfl; apply w_add; rfl; rfl; omega; omega; apply w_fld; rfl; apply w_ld; rfl; exact hc_i 0 rfl rfl; apply w_add; rfl; rfl; omega; omega; apply w_mvi; rfl; apply w_sub; rfl; rfl; omega; omega; apply w_mvi; rfl; apply w_gtr; rfl; rfl; apply w_done0; refine w_ifdF rfl (by omega) ?_; apply w_skip; apply w_sq; apply w_drawn; apply w_ldb 1; rfl; rfl; rfl; apply w_mvi; rfl; apply w_mvi; rfl; apply w_ldb 0; rfl; rfl; rfl; apply w_mvi; rfl; apply w_mvi; rfl; apply w_mvi; rfl)
      refine w_call0 rfl (h2 (neg := na) (D := D1) (xe := e1) (e := e1) hv (by omega) (by omega) (by omega) (by omega) (by omega) (by omega) (by omega)) (fun x d2 L2 hl2 ⟨hL, rx⟩ => ?_)
      subst hL
      refine w_call0 rfl (h2 (neg := nb) (D := D2) (xe := e1) (e := e1) (RSl.mono (R := RInt) mono_int hw hl2) (by omega) (by omega) (by omega) (by omega) (by omega) (by omega) (by omega)) (fun y d3 L3 hl3 ⟨hL, ry⟩ => ?_)
      subst hL
      (apply w_mv; apply w_mv; apply w_mvi; rfl; apply w_done; apply w_ret)
      exact finS [x, y, .int .i64 e1] ⟨rfl, rfl, rfl, trivial⟩ (List.nil_sublist _) ⟨rfl, x, y, _, _, e1, rfl, RSl.mono (R := RInt) mono_int rx hl3, ry, pair_fin b1 b2 (.inl (List.eq_nil_of_length_eq_zero z1)) (.inl (List.eq_nil_of_length_eq_zero z2)) (by omega) (by omega) (by omega) (by omega) (by omega)⟩
    · (apply w_mvi; rfl; apply w_done0; apply w_sq; apply w_sq; apply w_reg; apply w_fld; rfl; apply w_ld; rfl; exact hc_i 1 rfl rfl; apply w_len; rfl; apply w_eql; rfl; rfl; apply w_done0; refine w_ifdT rfl (by omega) ?_; apply w_reg; apply w_fld; rfl; apply w_ld; rfl; exact hc_i 0 rfl rfl; apply w_mvi; rfl; apply w_done0; apply w_sq; apply w_sq; apply w_reg; apply w_fld; rfl; apply w_ld; rfl; exact hc_i 0 rfl rfl; apply w_len; rfl; apply w_eql; rfl; rfl; apply w_done0; refine w_ifdF rfl (by omega) ?_; apply w_skip; apply w_sq; apply w_sq; apply w_reg; apply w_fld; rfl; apply w_ld; rfl; exact hc_i 1 rfl rfl; apply w_len; rfl; apply w_eql; rfl; rfl; apply w_done0; refine w_ifdT rfl (by omega) ?_; apply w_reg; apply w_mvi; rfl; apply w_fld; rfl)
      refine w_stE 1 [.bool na, .slice a D1.length c, .int .i64 e2] rfl rfl rfl rfl (Nat.le_of_ble_eq_true rfl) rfl rfl ?_
      (apply w_done0; apply w_sq; apply w_sq; apply w_reg; apply w_fld; rfl; apply w_ld; rfl; exact hc_i 0 rfl rfl; apply w_len; rfl; apply w_eql; rfl; rfl; apply w_done0; refine w_ifdF rfl (by omega) ?_; apply w_skip; apply w_sq; apply w_reg; apply w_fld; rfl; apply w_ld; rfl; exact hc_i 1 rfl rfl; apply w_len; rfl; apply w_add; rfl; rfl; omega; omega; apply w_fld; rfl; apply w_ld; rfl; exact hc_i 1 rfl rfl; apply w_add; rfl; rfl; omega; omega; apply w_mvi; rfl; apply w_sub; rfl; rfl; omega; omega; apply w_mvi; rfl; apply w_done0; apply w_sq; apply w_sq; apply w_reg; apply w_fld; rfl; apply w_ld; rfl; exact hc_i 0 rfl rfl; apply w_len; rfl; apply w_add; rfl; rfl; omega; omega; apply w_fld; rfl; apply w_ld; rfl; exact hc_i 0 rfl rfl; apply w_add; rfl; rfl; omega; omega; apply w_mvi; rfl; apply w_sub; rfl; rfl; omega; omega; apply w_mvi; rfl; apply w_gtr; rfl; rfl; apply w_done0; refine w_ifdT rfl (by omega) ?_; apply w_reg; apply w_fld; rfl; apply w_ld; rfl; exact hc_i 0 rfl rfl; apply w_len; rfl; apply w_add; rfl; rfl; omega; omega; apply w_fld; rfl; apply w_ld; rfl; exact hc_i 0 rfl rfl; apply w_add; rfl; rfl; omega; omega; apply w_mvi; rfl; apply w_sub; rfl; rfl; omega; omega; apply w_mvi; rfl; apply w_done0; apply w_sq; apply w_drawn; apply w_ldb 1; rfl; rfl; rfl; apply w_mvi; rfl; apply w_mvi; rfl; apply w_ldb 0; rfl; rfl; rfl; apply w_mvi; rfl; apply w_mvi; rfl; apply w_mvi; rfl)
      refine w_call0 rfl (h2 (neg := na) (D := D1) (xe := e2) (e := e2) hv (by omega) (by omega) (by omega) (by omega) (by omega) (by omega) (by omega)) (fun x d2 L2 hl2 ⟨hL, rx⟩ => ?_)
      subst hL
      refine w_call0 rfl (h2 (neg := nb) (D := D2) (xe := e2) (e := e2) (RSl.mono (R := RInt) mono_int hw hl2) (by omega) (by omega) (by omega) (by omega) (by omega) (by omega) (by omega)) (fun y d3 L3 hl3 ⟨hL, ry⟩ => ?_)
      subst hL
      (apply w_mv; apply w_mv; apply w_mvi; rfl; apply w_done; apply w_ret)
      exact finS [x, y, .int .i64 (e2)] ⟨rfl, rfl, rfl, trivial⟩ (List.nil_sublist _) ⟨rfl, x, y, _, _, _, rfl, RSl.mono (R := RInt) mono_int rx hl3, ry, pair_fin b1 b2 (.inl (List.eq_nil_of_length_eq_zero z1)) (.inr rfl) (by omega) (by omega) (by omega) (by omega) (by omega)⟩
  by_cases z2 : D2.length = 0
  · (apply w_mvi; rfl; apply w_done0; apply w_sq; apply w_sq; apply w_reg; apply w_fld; rfl; apply w_ld; rfl; exact hc_i 1 rfl rfl; apply w_len; rfl; apply w_eql; rfl; rfl; apply w_done0; refine w_ifdF rfl (by omega) ?_; apply w_skip; apply w_sq; apply w_sq; apply w_reg; apply w_fld; rfl; apply w_ld; rfl; exact hc_i 0 rfl rfl; apply w_len; rfl; apply w_eql; rfl; rfl; apply w_done0; refine w_ifdT rfl (by omega) ?_; apply w_reg; apply w_fld; rfl; apply w_ld; rfl; exact hc_i 1 rfl rfl; apply w_mvi; rfl; apply w_done0; apply w_sq; apply w_sq; apply w_reg; apply w_fld; rfl; apply w_ld; rfl; exact hc_i 1 rfl rfl; apply w_len; rfl; apply w_eql; rfl; rfl; apply w_done0; refine w_ifdF rfl (by omega) ?_; apply w_skip; apply w_sq; apply w_sq; apply w_reg; apply w_fld; rfl; apply w_ld; rfl; exact hc_i 0 rfl rfl; apply w_len; rfl; apply w_eql; rfl; rfl; apply w_done0; refine w_ifdT rfl (by omega) ?_; apply w_reg; apply w_mvi; rfl; apply w_fld; rfl)
    refine w_stE 0 [.bool nb, .slice a' D2.length c', .int .i64 e1] rfl rfl rfl rfl (Nat.le_of_ble_eq_true rfl) rfl rfl ?_
    (apply w_done0; apply w_sq; apply w_reg; apply w_fld; rfl; apply w_ld; rfl; exact hc_i 1 rfl rfl; apply w_len; rfl; apply w_add; rfl; rfl; omega; omega; apply w_fld; rfl; apply w_ld; rfl; exact hc_i 1 rfl rfl; apply w_add; rfl; rfl; omega; omega; apply w_mvi; rfl; apply w_sub; rfl; rfl; omega; omega; apply w_mvi; rfl; apply w_done0; apply w_sq; apply w_sq; apply w_reg; apply w_fld; rfl; apply w_ld; rfl; exact hc_i 0 rfl rfl; apply w_len; rfl; apply w_add; rfl; rfl; omega; omega; apply w_fld; rfl; apply w_ld; rfl; exact hc_i 0 rfl rfl; apply w_add; rfl; rfl; omega; omega; apply w_mvi; rfl; apply w_sub; rfl; rfl; omega; omega; apply w_mvi; rfl; apply w_gtr; rfl; rfl; apply w_done0; refine w_ifdF rfl (by omega) ?_; apply w_skip; apply w_sq; apply w_drawn; apply w_ldb 1; rfl; rfl; rfl; apply w_mvi; rfl; apply w_mvi; rfl; apply w_ldb 0; rfl; rfl; rfl; apply w_mvi; rfl; apply w_mvi; rfl; apply w_mvi; rfl)
    refine w_call0 rfl (h2 (neg := na) (D := D1) (xe := e1) (e := e1) hv (by omega) (by omega) (by omega) (by omega) (by omega) (by omega) (by omega)) (fun x d2 L2 hl2 ⟨hL, rx⟩ => ?_)
    subst hL
    refine w_call0 rfl (h2 (neg := nb) (D := D2) (xe := e1) (e := e1) (RSl.mono (R := RInt) mono_int hw hl2) (by omega) (by omega) (by omega) (by omega) (by omega) (by omega) (by omega)) (fun y d3 L3 hl3 ⟨hL, ry⟩ => ?_)
    subst hL
    (apply w_mv; apply w_mv; apply w_mvi; rfl; apply w_done; apply w_ret)
    exact finS [x, y, .int .i64 (e1)] ⟨rfl, rfl, rfl, trivial⟩ (List.nil_sublist _) ⟨rfl, x, y, _, _, _, rfl, RSl.mono (R := RInt) mono_int rx hl3, ry, pair_fin b1 b2 (.inr rfl) (.inl (List.eq_nil_of_length_eq_zero z2)) (by omega) (by omega) (by omega) (by omega) (by omega)⟩
  by_cases hm : 1 + (D2.length : Int) + e2 - min e1 e2 > 1 + (D1.length : Int) + e1 - min e1 e2
  · (apply w_mvi; rfl; apply w_done0; apply w_sq; apply w_sq; apply w_reg; apply w_fld; rfl; apply w_ld; rfl; exact hc_i 1 rfl rfl; apply w_len; rfl; apply w_eql; rfl; rfl; apply w_done0; refine w_ifdF rfl (by omega) ?_; apply w_skip; apply w_sq; apply w_sq; apply w_reg; apply w_fld; rfl; apply w_ld; rfl; exact hc_i 0 rfl rfl; apply w_len; rfl; apply w_eql; rfl; rfl; apply w_done0; refine w_ifdF rfl (by omega) ?_; apply w_skip; apply w_sq; apply w_sq; apply w_reg; apply w_fld; rfl; apply w_ld; rfl; exact hc_i 1 rfl rfl; apply w_len; rfl; apply w_eql; rfl; rfl; apply w_done0; refine w_ifdF rfl (by omega) ?_; apply w_skip; apply w_sq; apply w_sq; apply w_reg; apply w_fld; rfl; apply w_ld; rfl; exact hc_i 0 rfl rfl; apply w_len; rfl; apply w_eql; rfl; rfl; apply w_done0; refine w_ifdF rfl (by omega) ?_; apply w_skip; apply w_sq; apply w_reg; apply w_fld; rfl; apply w_ld; rfl; exact hc_i 1 rfl rfl; apply w_len; rfl; apply w_add; rfl; rfl; omega; omega; apply w_fld; rfl; apply w_ld; rfl; exact hc_i 1 rfl rfl; apply w_add; rfl; rfl; omega; omega; apply w_mvi; rfl; apply w_sub; rfl; rfl; omega; omega; apply w_mvi; rfl; apply w_done0; apply w_sq; apply w_sq; apply w_reg; apply w_fld; rfl; apply w_ld; rfl; exact hc_i 0 rfl rfl; apply w_len; rfl; apply w_add; rfl; rfl; omega; omega; apply w_fld; rfl; apply w_ld; rfl; exact hc_i 0 rfl rfl; apply w_add; rfl; rfl; omega; omega; apply w_mvi; rfl; apply w_sub; rfl; rfl; omega; omega; apply w_mvi; rfl; apply w_gtr; rfl; rfl; apply w_done0; refine w_ifdT rfl (by omega) ?_; apply w_reg; apply w_fld; rfl; apply w_ld; rfl; exact hc_i 0 rfl rfl; apply w_len; rfl; apply w_add; rfl; rfl; omega; omega; apply w_fld; rfl; apply w_ld; rfl; exact hc_i 0 rfl rfl; apply w_add; rfl; rfl; omega; omega; apply w_mvi; rfl; apply w_sub; rfl; rfl; omega; omega; apply w_mvi; rfl; apply w_done0; apply w_sq; apply w_drawn; apply w_ldb 1; rfl; rfl; rfl; apply w_mvi; rfl; apply w_mvi; rfl; apply w_ldb 0; rfl; rfl; rfl; apply w_mvi; rfl; apply w_mvi; rfl; apply w_mvi; rfl)
    refine w_call0 rfl (h2 (neg := na) (D := D1) (xe := e1) (e := min e1 e2) hv (by omega) (by omega) (by omega) (by omega) (by omega) (by omega) (by omega)) (fun x d2 L2 hl2 ⟨hL, rx⟩ => ?_)
    subst hL
    refine w_call0 rfl (h2 (neg := nb) (D := D2) (xe := e2) (e := min e1 e2) (RSl.mono (R := RInt) mono_int hw hl2) (by omega) (by omega) (by omega) (by omega) (by omega) (by omega) (by omega)) (fun y d3 L3 hl3 ⟨hL, ry⟩ => ?_)
    subst hL
    (apply w_mv; apply w_mv; apply w_mvi; rfl; apply w_done; apply w_ret)
    exact finS [x, y, .int .i64 (min e1 e2)] ⟨rfl, rfl, rfl, trivial⟩ (List.nil_sublist _) ⟨rfl, x, y, _, _, _, rfl, RSl.mono (R := RInt) mono_int rx hl3, ry, pair_fin b1 b2 (.inr rfl) (.inr rfl) (by omega) (by omega) (by omega) (by omega) (by omega)⟩
  · (apply w_mvi; rfl; apply w_done0; apply w_sq; apply w_sq; apply w_reg; apply w_fld; rfl; apply w_ld; rfl; exact hc_i 1 rfl rfl; apply w_len; rfl; apply w_eql; rfl; rfl; apply w_done0; refine w_ifdF rfl (by omega) ?_; apply w_skip; apply w_sq; apply w_sq; apply w_reg; apply w_fld; rfl; apply w_ld; rfl; exact hc_i 0 rfl rfl; apply w_len; rfl; apply w_eql; rfl; rfl; apply w_done0; refine w_ifdF rfl (by omega) ?_; apply w_skip; apply w_sq; apply w_sq; apply w_reg; apply w_fld; rfl; apply w_ld; rfl; exact hc_i 1 rfl rfl; apply w_len; rfl; apply w_eql; rfl; rfl; apply w_done0; refine w_ifdF rfl (by omega) ?_; apply w_skip; apply w_sq; apply w_sq; apply w_reg; apply w_fld; rfl; apply w_ld; rfl; exact hc_i 0 rfl rfl; apply w_len; rfl; apply w_eql; rfl; rfl; apply w_done0; refine w_ifdF rfl (by omega) ?_; apply w_skip; apply w_sq; apply w_reg; apply w_fld; rfl; apply w_ld; rfl; exact hc_i 1 rfl rfl; apply w_len; rfl; apply w_add; rfl; rfl; omega; omega; apply w_fld; rfl; apply w_ld; rfl; exact hc_i 1 rfl rfl; apply w_add; rfl; rfl; omega; omega; apply w_mvi; rfl; apply w_sub; rfl; rfl; omega; omega; apply w_mvi; rfl; apply w_done0; apply w_sq; apply w_sq; apply w_reg; apply w_fld; rfl; apply w_ld; rfl; exact hc_i 0 rfl rfl; apply w_len; rfl; apply w_add; rfl; rfl; omega; omega; apply w_fld; rfl; apply w_ld; rfl; exact hc_i 0 rfl rfl; apply w_add; rfl; rfl; omega; omega; apply w_mvi; rfl; apply w_sub; rfl; rfl; omega; omega; apply w_mvi; rfl; apply w_gtr; rfl; rfl; apply w_done0; refine w_ifdF rfl (by omega) ?_; apply w_skip; apply w_sq; apply w_drawn; apply w_ldb 1; rfl; rfl; rfl; apply w_mvi; rfl; apply w_mvi; rfl; apply w_ldb 0; rfl; rfl; rfl; apply w_mvi; rfl; apply w_mvi; rfl; apply w_mvi; rfl)
    refine w_call0 rfl (h2 (neg := na) (D := D1) (xe := e1) (e := min e1 e2) hv (by omega) (by omega) (by omega) (by omega) (by omega) (by omega) (by omega)) (fun x d2 L2 hl2 ⟨hL, rx⟩ => ?_)
    subst hL
    refine w_call0 rfl (h2 (neg := nb) (D := D2) (xe := e2) (e := min e1 e2) (RSl.mono (R := RInt) mono_int hw hl2) (by omega) (by omega) (by omega) (by omega) (by omega) (by omega) (by omega)) (fun y d3 L3 hl3 ⟨hL, ry⟩ => ?_)
    subst hL
    (apply w_mv; apply w_mv; apply w_mvi; rfl; apply w_done; apply w_ret)
    exact finS [x, y, .int .i64 (min e1 e2)] ⟨rfl, rfl, rfl, trivial⟩ (List.nil_sublist _) ⟨rfl, x, y, _, _, _, rfl, RSl.mono (R := RInt) mono_int rx hl3, ry, pair_fin b1 b2 (.inr rfl) (.inr rfl) (by omega) (by omega) (by omega) (by omega) (by omega)⟩
end Go.Gk.Val
end
