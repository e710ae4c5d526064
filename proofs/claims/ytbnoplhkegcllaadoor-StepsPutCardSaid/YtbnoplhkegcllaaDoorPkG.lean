/-
  Our own texts, one behind the other: GkT1 Gk18 GkT2 GkVArg Gk19 GkT3 GkT0 Gk23 GkR1 GkR2 GkL1 GkL2 GkL3.
-/
import Derived.Test.YtbnoplhkegcllaaDoorPkF
section
/-
  The laws of ways: marks over what is handed out; how great.
-/
namespace Go.Gk.Val
open Go Go.Gk Go.Gk.Utf
attribute [local irreducible] gwp gws

theorem orow_openN {sz n : Nat} {v : Value} {us : List Value} {h : PHeap} (o : ORow sz v n us h) {m : Nat} (hm : m < n * sz) :
    ∃ b T l c, v = .slice (some ⟨b, 0, none⟩) n c ∧ h = bx b T l ∧ n * sz ≤ l.length ∧ l.take (n * sz) = us ∧ ∀ x, ORow sz v n (us.set m x) (bx b T (patch l m [x])) := by
  obtain ⟨h1, h2, ⟨rfl, rfl, rfl⟩ | ⟨b, T, l, c, rfl, rfl, h3, h4, h5, h6⟩⟩ := o
  · simp at hm
  · have hnc : n * sz ≤ c * sz := Nat.mul_le_mul_right sz h3
    have hml : m < l.length := by omega
    refine ⟨b, T, l, c, rfl, rfl, by omega, by rw [← h1]; exact h6, fun x => ?_⟩
    rw [patch_set hml]
    refine ⟨by simpa using h1, h2, .inr ⟨b, T, l.set m x, c, rfl, rfl, h3, h4, by simpa using h5, ?_⟩⟩
    rw [List.length_set, List.take_set, h6]
def SpoilVOk (P : Program) (f : FuncId) : Prop := ∀ (v : V) {d : PHeap} {cs : List Value} {h : PHeap}, OVal cs v h → GCall P f [.agg cs.toArray] d [h] (Ret fun _ d' L' => d' = d ∧ L' = [])
def g_thimblelaw08_spoil (f_thimblelaw08_spoil : Nat) : GFun :=
 ⟨33, [],
 (.seq
 (.reg false (.op false ⟨(some 1), none, (.box (.tmp 0))⟩ .done))
 (.seq (.seq
 (.reg false (.op false ⟨(some 4), none, (.fld 5 (.tmp 1))⟩
  (.op false ⟨(some 5), none, (.ld none (.tmp 4))⟩
  (.op false ⟨(some 6), none, (.len (.tmp 5))⟩
  (.op false ⟨(some 7), none, (.mv (.const (.int .i64 0)))⟩ .done))))) (.block 0 (.loop
 (.seq
 (.reg false (.op false ⟨(some 8), none, (.bin .lss (.tmp 7) (.tmp 6))⟩ .done))
 (.seq (.cond (.tmp 8) .skip (.exit 0))
 (.seq (.block 1
 (.seq
 (.reg false (.op false ⟨(some 9), none, (.mv (.tmp 7))⟩
  (.op false ⟨(some 2), none, (.mv (.tmp 9))⟩ .done)))
 (.reg false (.op false ⟨(some 10), none, (.fld 5 (.tmp 1))⟩
  (.op false ⟨(some 11), none, (.ld none (.tmp 10))⟩
  (.op false ⟨(some 12), none, (.mv (.tmp 2))⟩
  (.op false ⟨(some 13), none, (.idx 1 (.tmp 11) (.tmp 12))⟩
  (.op false ⟨none, none, (.st 1 (.tmp 13) (.const (strV [115, 112, 111, 105, 108, 116])))⟩ .done))))))))
 (.reg false (.op false ⟨(some 14), none, (.bin .add (.tmp 7) (.const (.int .i64 1)))⟩
  (.op false ⟨(some 7), none, (.mv (.tmp 14))⟩ .done)))))))))
 (.seq
 (.reg false (.op false ⟨(some 15), none, (.fld 4 (.tmp 1))⟩
  (.op false ⟨(some 16), none, (.ld none (.tmp 15))⟩
  (.op false ⟨(some 17), none, (.len (.tmp 16))⟩
  (.op false ⟨(some 18), none, (.mv (.const (.int .i64 0)))⟩ .done))))) (.block 2 (.loop
 (.seq
 (.reg false (.op false ⟨(some 19), none, (.bin .lss (.tmp 18) (.tmp 17))⟩ .done))
 (.seq (.cond (.tmp 19) .skip (.exit 2))
 (.seq (.block 3
 (.seq
 (.reg false (.op false ⟨(some 20), none, (.mv (.tmp 18))⟩
  (.op false ⟨(some 3), none, (.mv (.tmp 20))⟩ .done)))
 (.seq
 (.reg false (.op false ⟨(some 21), none, (.fld 4 (.tmp 1))⟩
  (.op false ⟨(some 22), none, (.ld none (.tmp 21))⟩
  (.op false ⟨(some 23), none, (.mv (.tmp 3))⟩
  (.op false ⟨(some 24), none, (.idx 6 (.tmp 22) (.tmp 23))⟩
  (.op false ⟨(some 25), none, (.ld (some 6) (.tmp 24))⟩
  (.op false ⟨(some 26), none, (.call f_thimblelaw08_spoil [(.tmp 25)])⟩ .done)))))))
 (.reg false (.op false ⟨(some 27), none, (.fld 4 (.tmp 1))⟩
  (.op false ⟨(some 28), none, (.ld none (.tmp 27))⟩
  (.op false ⟨(some 29), none, (.mv (.tmp 3))⟩
  (.op false ⟨(some 30), none, (.idx 6 (.tmp 28) (.tmp 29))⟩
  (.op false ⟨(some 31), none, (.fld 0 (.tmp 30))⟩
  (.op false ⟨none, none, (.st 1 (.tmp 31) (.const (.int .i64 (-3))))⟩ .done))))))))))
 (.reg false (.op false ⟨(some 32), none, (.bin .add (.tmp 18) (.const (.int .i64 1)))⟩
  (.op false ⟨(some 18), none, (.mv (.tmp 32))⟩ .done)))))))))))⟩

set_option maxHeartbeats 2000000 in
theorem spoilv_ok {P : Program} {f : FuncId} (hd : dec P f = some (g_thimblelaw08_spoil f)) : SpoilVOk P f := by
  intro v
  induction v using V.ind with
  | h v ih =>
  intro d cs h ho
  obtain ⟨lv, kv, hk, hl, ccs, hs, rfl, ik, im, ie, it, gk, gl, hsl, el, dj, rfl⟩ := ho.open
  obtain ⟨us, ok, _⟩ := gk
  obtain ⟨ka, _, kc, rfl, _⟩ := ok.slice
  obtain ⟨la, _, lc, rfl, _⟩ := gl.slice
  have n1 := ok.2.1
  have n2 := gl.2.1
  have hu1 := ok.1
  have hu2 := gl.1
  refine GCall.vs (d1 := d) (L1 := hk :: hl :: hs) (by have := Vs.openL (d := d) (L0 := []) dj; simpa using this) ?_
  refine GCall_of hd (Nat.le_of_ble_eq_true rfl) ?_
  show gwp P _ _ _ _ _
  apply w_sq; apply w_reg
  refine w_boxa (l := [.int .i64 v.kind, .int .i64 v.m, .int .i64 v.e, strV v.text, .slice la v.list.length lc, .slice ka v.keys.length kc]) rfl (fun b1 T1 => ?_)
  (apply w_done0; apply w_sq; apply w_sq; apply w_reg; apply w_fld; rfl; apply w_ld; rfl; exact hc_i 0 rfl rfl; apply w_len; rfl; apply w_mvi; rfl; apply w_done0; apply w_block)
  refine w_loopS (α := Nat × List Value × PHeap) (fun x => [(1, .pointer (some ⟨b1, 0, none⟩)), (6, .int .i64 v.keys.length), (7, .int .i64 x.1)])
    (fun x d' L' => d' = d ∧ x.1 ≤ v.keys.length ∧ ORow 1 (.slice ka v.keys.length kc) v.keys.length x.2.1 x.2.2 ∧ L' = bx b1 T1 [.int .i64 v.kind, .int .i64 v.m, .int .i64 v.e, strV v.text, .slice la v.list.length lc, .slice ka v.keys.length kc] :: x.2.2 :: hl :: hs)
    (fun x => v.keys.length - x.1) (0, us, hk) ⟨rfl, rfl, rfl, trivial⟩ ⟨rfl, Nat.zero_le _, ok, rfl⟩ ?_
  rintro ⟨i, us', hk'⟩ ρ d' L' ⟨hdd, hi, ok', hL⟩
  simp only at hi ok' hL
  subst hdd; subst hL
  by_cases hc : i < v.keys.length
  · obtain ⟨gb, gT, gl', gc, e1, rfl, hml, hmg, hset⟩ := ok'.open1 hc
    cases e1
    (apply w_sq; apply w_reg; apply w_lss; rfl; rfl; apply w_done0; apply w_sq; refine w_ifdT rfl (by omega) ?_; apply w_skip; apply w_sq; apply w_block; apply w_sq; apply w_reg; apply w_mvi; rfl; apply w_mvi; rfl; apply w_done0; apply w_reg; apply w_fld; rfl; apply w_ld; rfl; exact hc_i 0 rfl rfl; apply w_mvi; rfl)
    refine w_idx1 i rfl rfl rfl hc ?_
    refine w_st 1 rfl rfl rfl rfl (by first | omega | (simp [Value.cells, strV]; omega)) rfl ?_
    (apply w_done0; apply w_reg; apply w_add; rfl; rfl; omega; omega; apply w_mvi; rfl; apply w_done0)
    exact ⟨(i + 1, us'.set i (strV [115, 112, 111, 105, 108, 116]), _), by simp only; omega, ⟨rfl, rfl, int_eq (by simp), trivial⟩, rfl, hc, hset _, rfl⟩
  obtain rfl : i = v.keys.length := by omega
  (apply w_sq; apply w_reg; apply w_lss; rfl; rfl; apply w_done0; apply w_sq; refine w_ifdF rfl (by omega) ?_; apply w_exit; apply w_sq; apply w_reg; apply w_fld; rfl; apply w_ld; rfl; exact hc_i 0 rfl rfl; apply w_len; rfl; apply w_mvi; rfl; apply w_done0; apply w_block)
  refine w_loopS (α := Nat × List Value × PHeap) (fun x => [(1, .pointer (some ⟨b1, 0, none⟩)), (17, .int .i64 v.list.length), (18, .int .i64 x.1)])
    (fun x dd L' => dd = d' ∧ x.1 ≤ v.list.length ∧ ORow 6 (.slice la v.list.length lc) v.list.length x.2.1 x.2.2 ∧ (∀ m, x.1 * 6 ≤ m → x.2.1[m]? = ccs[m]?) ∧ L' = [bx b1 T1 [.int .i64 v.kind, .int .i64 v.m, .int .i64 v.e, strV v.text, .slice la v.list.length lc, .slice ka v.keys.length kc], hk', x.2.2] ++ hs.drop x.1)
    (fun x => v.list.length - x.1) (0, ccs, hl) ⟨rfl, rfl, rfl, trivial⟩ ⟨rfl, Nat.zero_le _, gl, fun _ _ => rfl, rfl⟩ ?_
  rintro ⟨i, us2, hl'⟩ ρ d2 L' ⟨hdd, hi, ol', hsame, hL⟩
  simp only at hi ol' hsame hL
  subst hdd
  by_cases hc : i < v.list.length
  · have hih : i < hs.length := by omega
    rw [List.drop_eq_getElem_cons hih] at hL
    subst hL
    have hu3 := ol'.1
    obtain ⟨gb, gT, gl', gc, e1, rfl, hml, hmg, hset⟩ := orow_openN ol' (m := i * 6) (by omega)
    cases e1
    have hch : (gl'.drop (i * 6)).take 6 = chunk ccs i 6 := by
      apply List.ext_getElem?
      intro j
      by_cases hj : j < 6
      · rw [List.getElem?_take_of_lt hj, List.getElem?_drop, chunk, List.getElem?_take_of_lt hj, List.getElem?_drop, ← hsame (i * 6 + j) (by omega), ← hmg, List.getElem?_take_of_lt (by omega)]
      · rw [List.getElem?_eq_none (by simp; omega), List.getElem?_eq_none (by simp [chunk]; omega)]
    (apply w_sq; apply w_reg; apply w_lss; rfl; rfl; apply w_done0; apply w_sq; refine w_ifdT rfl (by omega) ?_; apply w_skip; apply w_sq; apply w_block; apply w_sq; apply w_reg; apply w_mvi; rfl; apply w_mvi; rfl; apply w_done0; apply w_sq; apply w_reg; apply w_fld; rfl; apply w_ld; rfl; exact hc_i 0 rfl rfl; apply w_mvi; rfl)
    refine w_idx (a := some ⟨gb, 0, none⟩) i rfl rfl rfl hc (SAd.some _ gb 0) ?_
    rw [Nat.zero_add (i * 6)]
    refine w_ldp 2 rfl rfl (Nat.ble_eq_true_of_le (by omega)) ?_
    rw [hch]
    refine w_vs _ (hs[i] :: ([bx b1 T1 [.int .i64 v.kind, .int .i64 v.m, .int .i64 v.e, strV v.text, .slice (some ⟨gb, 0, none⟩) v.list.length lc, .slice ka v.keys.length kc], hk', bx gb gT gl'] ++ hs.drop (i + 1)))
      (Vs.perm (List.perm_middle (l₁ := [bx b1 T1 [.int .i64 v.kind, .int .i64 v.m, .int .i64 v.e, strV v.text, .slice (some ⟨gb, 0, none⟩) v.list.length lc, .slice ka v.keys.length kc], hk', bx gb gT gl']))) ?_
    refine w_callA (A := [hs[i]]) (B := [bx b1 T1 [.int .i64 v.kind, .int .i64 v.m, .int .i64 v.e, strV v.text, .slice (some ⟨gb, 0, none⟩) v.list.length lc, .slice ka v.keys.length kc], hk', bx gb gT gl'] ++ hs.drop (i + 1)) rfl rfl (ih _ (List.getElem_mem hc) (by have := el i hc; rwa [show hs.getD i emp = hs[i] by simp [hih]] at this)) (fun r d3 L3 _ ⟨hdd, hL⟩ => ?_)
    subst hdd; subst hL
    (apply w_done0; apply w_reg; apply w_fld; rfl; apply w_ld; rfl; exact hc_i 0 rfl rfl; apply w_mvi; rfl)
    refine w_idx (a := some ⟨gb, 0, none⟩) i rfl rfl rfl hc (SAd.some _ gb 0) ?_
    rw [Nat.zero_add (i * 6)]
    (apply w_fld; rfl)
    refine w_st 2 rfl rfl rfl rfl (by first | omega | (simp [Value.cells]; omega)) rfl ?_
    (apply w_done0; apply w_reg; apply w_add; rfl; rfl; omega; omega; apply w_mvi; rfl; apply w_done0)
    refine ⟨(i + 1, us2.set (i * 6) (.int .i64 (-3)), _), by simp only; omega, ⟨rfl, rfl, int_eq (by simp), trivial⟩, rfl, hc, hset _, fun m hm => ?_, rfl⟩
    simp only at hm ⊢
    rw [List.getElem?_set_ne (by omega)]
    exact hsame m (by omega)
  · (apply w_sq; apply w_reg; apply w_lss; rfl; rfl; apply w_done0; apply w_sq; refine w_ifdF rfl (by omega) ?_; apply w_exit)
    exact finS [] trivial (List.nil_sublist _) ⟨rfl, rfl⟩

def GreatOk (P : Program) (f : FuncId) : Prop := ∀ {d : PHeap} {w u : Value} {l : List St} {vs : List V}, RSl 6 RSt d w l → RVals d u vs →
  GCall P f [w, u] d [] (Ret fun r d' L' => d' = d ∧ L' = [] ∧ ∃ b : Bool, r = .bool b ∧ (b = false → l.length ≤ 12 ∧ bulkV (.mk 0 0 0 [] vs []) ≤ 1000))
def g_thimblelaw08_great (f_thimbleref03_Bulk : Nat) : GFun :=
 ⟨14, [(.tmp 4)],
 (.seq
 (.reg false (.op false ⟨(some 4), none, (.mv (.const (.bool false)))⟩ .done))
 (.seq
 (.reg false (.op false ⟨(some 5), none, (.mv (.tmp 0))⟩
  (.op false ⟨(some 6), none, (.len (.tmp 5))⟩
  (.op false ⟨(some 7), none, (.bin .gtr (.tmp 6) (.const (.int .i64 12)))⟩
  (.op false ⟨(some 8), none, (.mv (.tmp 7))⟩
  (.op false ⟨(some 9), (some (8, false)), (.mv (.tmp 1))⟩
  (.op false ⟨(some 10), (some (8, false)), (.bld [(0, 1), (1, 2), (3, 1), (4, 1), (5, 1)] [(.int .i64 0), (.int .i64 0), (.int .i64 0), (strV []), (.slice none 0 0), (.slice none 0 0)] [(3, (.tmp 9))])⟩
  (.op false ⟨(some 11), (some (8, false)), (.call f_thimbleref03_Bulk [(.tmp 10), (.const (.int .i64 1000))])⟩
  (.op false ⟨(some 12), (some (8, false)), (.bin .gtr (.tmp 11) (.const (.int .i64 1000)))⟩
  (.op false ⟨(some 13), none, (.pick (.tmp 8) (.const (.bool true)) (.tmp 12))⟩
  (.op false ⟨(some 4), none, (.mv (.tmp 13))⟩ .done))))))))))) .ret))⟩

theorem great_ok {P : Program} {f f1 : FuncId} (hd : dec P f = some (g_thimblelaw08_great f1)) (h1 : BulkOk P f1) : GreatOk P f := by
  intro d w u l vs hw hu
  have n1 := RSl.len_le hw
  obtain ⟨a, c, rfl⟩ := RSl.val hw
  obtain ⟨a2, c2, rfl⟩ := RSl.val hu
  refine GCall_of hd (Nat.le_of_ble_eq_true rfl) ?_
  show gwp P _ _ _ _ _
  have hv : RVal d [.int .i64 0, .int .i64 0, .int .i64 0, strV [], .slice a2 vs.length c2, .slice none 0 0] (.mk 0 0 0 [] vs []) := RVal.close (v := .mk 0 0 0 [] vs []) i64_0 i64_0 i64_0 (by simp) hu RSl.nil
  by_cases q : 12 < l.length
  · (apply w_sq; apply w_reg; apply w_mvb; rfl; apply w_done0; apply w_sq; apply w_reg; apply w_mvs; rfl; apply w_len; rfl; apply w_gtr; rfl; rfl; apply w_mvb; rfl; refine w_gdT rfl (by omega) ?_; apply w_gF; rfl; apply w_gF; rfl; apply w_gF; rfl; apply w_gF; rfl; apply w_pickTb; rfl; rfl; apply w_mvb; rfl; apply w_done0; apply w_ret)
    exact fin1n rfl ⟨rfl, rfl, true, rfl, fun h => by cases h⟩
  · (apply w_sq; apply w_reg; apply w_mvb; rfl; apply w_done0; apply w_sq; apply w_reg; apply w_mvs; rfl; apply w_len; rfl; apply w_gtr; rfl; rfl; apply w_mvb; rfl; refine w_gdF rfl (by omega) ?_; apply w_gT; rfl; apply w_mvs; rfl; apply w_gT; rfl; apply w_bvL; rfl; apply w_gT; rfl)
    refine w_call0 rfl (h1 (.mk 0 0 0 [] vs []) (most := 1000) hv (by omega)) (fun r d3 L3 _ ⟨hdd, z, hr, hz1, hz2, hz3, hL⟩ => ?_)
    subst hdd; subst hr; subst hL
    by_cases q2 : 1000 < z
    · (apply w_gT; rfl; apply w_gtr; rfl; rfl; apply w_pickFb; rfl; rfl; apply w_mvb; rfl; apply w_done0; apply w_ret)
      exact fin1n rfl ⟨rfl, rfl, _, rfl, fun h => by simp [q2] at h⟩
    · (apply w_gT; rfl; apply w_gtr; rfl; rfl; apply w_pickFb; rfl; rfl; apply w_mvb; rfl; apply w_done0; apply w_ret)
      exact fin1n rfl ⟨rfl, rfl, _, rfl, fun _ => ⟨by omega, by have := hz3 (by omega); omega⟩⟩
end Go.Gk.Val
end

section
/-
  Steps that are built of some of their parts.
-/
namespace Go.Gk
open Go
section
variable {P : Program} {pan : List PanicEntry → Post} {Qn : Env → Post} {Ls L : List PHeap} {ρ : Env} {d : PHeap} {s : GS} {t : Nat} {tk : Bool}
theorem w_bstF {y : Operand} {l : List UInt8} (ey : ev ρ y = strV l) (h : gws P pan Qn s Ls (upd ρ t (.agg [.int .i64 0, strV l, .int .i64 0, .int .i64 0, .bool false, .bool false].toArray)) d L) :
    gws P pan Qn (.op tk ⟨some t, none, .bld [(0, 1), (1, 1), (2, 1), (3, 1), (4, 1), (5, 1)] [.int .i64 0, strV [], .int .i64 0, .int .i64 0, .bool false, .bool false] [(0, .const (.int .i64 0)), (1, y)]⟩ s) Ls ρ d L :=
  w_bld (cs := [.int .i64 0, strV l, .int .i64 0, .int .i64 0, .bool false, .bool false]) (by have e0 : ev ρ (.const (.int .i64 0)) = .int .i64 0 := rfl; simp [Instr.fill, e0, ey, Value.cells, strV]) h
theorem w_bstI {y : Operand} {a : Int} (ey : ev ρ y = .int .i64 a) (h : gws P pan Qn s Ls (upd ρ t (.agg [.int .i64 1, strV [], .int .i64 a, .int .i64 0, .bool false, .bool false].toArray)) d L) :
    gws P pan Qn (.op tk ⟨some t, none, .bld [(0, 1), (1, 1), (2, 1), (3, 1), (4, 1), (5, 1)] [.int .i64 0, strV [], .int .i64 0, .int .i64 0, .bool false, .bool false] [(0, .const (.int .i64 1)), (2, y)]⟩ s) Ls ρ d L :=
  w_bld (cs := [.int .i64 1, strV [], .int .i64 a, .int .i64 0, .bool false, .bool false]) (by have e0 : ev ρ (.const (.int .i64 1)) = .int .i64 1 := rfl; simp [Instr.fill, e0, ey, Value.cells, strV]) h
end
end Go.Gk
end

section
/-
  The laws of ways: steps; the example.
-/
namespace Go.Gk.Val
open Go Go.Gk Go.Gk.Utf
attribute [local irreducible] gwp gws

def FieldOk (P : Program) (f : FuncId) : Prop := ∀ {d : PHeap} {k : List UInt8}, GPure P f [strV k] d (.agg [.int .i64 0, strV k, .int .i64 0, .int .i64 0, .bool false, .bool false].toArray)
def g_thimblelaw08_field : GFun :=
 ⟨5, [(.cell 2 (some 6))],
 (.seq
 (.reg false (.op false ⟨(some 2), none, (.alo (.agg #[(.int .i64 0), (strV []), (.int .i64 0), (.int .i64 0), (.bool false), (.bool false)]))⟩ .done))
 (.seq
 (.reg false (.op false ⟨(some 3), none, (.mv (.tmp 0))⟩
  (.op false ⟨(some 4), none, (.bld [(0, 1), (1, 1), (2, 1), (3, 1), (4, 1), (5, 1)] [(.int .i64 0), (strV []), (.int .i64 0), (.int .i64 0), (.bool false), (.bool false)] [(0, (.const (.int .i64 0))), (1, (.tmp 3))])⟩
  (.op false ⟨none, none, (.st 6 (.tmp 2) (.tmp 4))⟩ .done)))) .ret))⟩

theorem field_ok {P : Program} {f : FuncId} (hd : dec P f = some g_thimblelaw08_field) : FieldOk P f := by
  intro d k
  refine GPure.of' hd (Nat.le_of_ble_eq_true rfl) ?_
  show gwp P _ _ _ _ _
  (apply w_sq; apply w_reg; apply w_alo; intro _ _; apply w_done0; apply w_sq; apply w_reg; apply w_mvt; rfl; apply w_bstF; rfl)
  refine w_stE 0 [.int .i64 0, strV k, .int .i64 0, .int .i64 0, .bool false, .bool false] rfl rfl rfl rfl (Nat.le_of_ble_eq_true rfl) rfl rfl ?_
  (apply w_done0; apply w_ret)
  exact finS (L' := []) [.agg [.int .i64 0, strV k, .int .i64 0, .int .i64 0, .bool false, .bool false].toArray] ⟨res_cell 0 rfl rfl rfl, trivial⟩ (List.nil_sublist _) ⟨rfl, rfl⟩
def IndexOk (P : Program) (f : FuncId) : Prop := ∀ {d : PHeap} {n : Int}, GPure P f [.int .i64 n] d (.agg [.int .i64 1, strV [], .int .i64 n, .int .i64 0, .bool false, .bool false].toArray)
def g_thimblelaw08_index : GFun :=
 ⟨5, [(.cell 2 (some 6))],
 (.seq
 (.reg false (.op false ⟨(some 2), none, (.alo (.agg #[(.int .i64 0), (strV []), (.int .i64 0), (.int .i64 0), (.bool false), (.bool false)]))⟩ .done))
 (.seq
 (.reg false (.op false ⟨(some 3), none, (.mv (.tmp 0))⟩
  (.op false ⟨(some 4), none, (.bld [(0, 1), (1, 1), (2, 1), (3, 1), (4, 1), (5, 1)] [(.int .i64 0), (strV []), (.int .i64 0), (.int .i64 0), (.bool false), (.bool false)] [(0, (.const (.int .i64 1))), (2, (.tmp 3))])⟩
  (.op false ⟨none, none, (.st 6 (.tmp 2) (.tmp 4))⟩ .done)))) .ret))⟩

theorem index_ok {P : Program} {f : FuncId} (hd : dec P f = some g_thimblelaw08_index) : IndexOk P f := by
  intro d n
  refine GPure.of' hd (Nat.le_of_ble_eq_true rfl) ?_
  show gwp P _ _ _ _ _
  (apply w_sq; apply w_reg; apply w_alo; intro _ _; apply w_done0; apply w_sq; apply w_reg; apply w_mvi; rfl; apply w_bstI; rfl)
  refine w_stE 0 [.int .i64 1, strV [], .int .i64 n, .int .i64 0, .bool false, .bool false] rfl rfl rfl rfl (Nat.le_of_ble_eq_true rfl) rfl rfl ?_
  (apply w_done0; apply w_ret)
  exact finS (L' := []) [.agg [.int .i64 1, strV [], .int .i64 n, .int .i64 0, .bool false, .bool false].toArray] ⟨res_cell 0 rfl rfl rfl, trivial⟩ (List.nil_sublist _) ⟨rfl, rfl⟩

/-! ### the example -/
def fieldS (k : List UInt8) : St := ⟨0, k, 0, 0, false, false⟩
def indexS (n : Int) : St := ⟨1, [], n, 0, false, false⟩
def trueV : V := .mk 2 0 0 [] [] []
def exV : V := .mk 6 0 0 [] [.mk 5 0 0 [] [V.zero, trueV] []] [[97]]
def exW : V := .mk 6 0 0 [] [.mk 5 0 0 [] [trueV] []] [[97]]
theorem ex_put : putTop V.zero [fieldS [97], indexS 1] trueV = (exV, 0) := by rfl
theorem ex_get : getF exV [fieldS [97], indexS (-1)] = (trueV, 0) := by rfl
theorem ex_drop : dropTop exV [fieldS [97], indexS 0] = (exW, 0) := by rfl
end Go.Gk.Val
end

section
/-
  Values, steps and lists of them as arguments.
-/
namespace Go.Gk.Val
open Go Go.Gk
section
variable {H : Type} {enc : TypeId × Value → H} {P : Program} {W : World}
/-- The types' numbers: of value, number, int64, int, string, []value, []string. -/
structure VTy (P : Program) (t tn t6 ti ts tl tk : TypeId) : Prop where
  fs : ∃ fs : Array Field, P.underlying t = some (.struct fs) ∧ (fs[0]?).map (fun f => (f.offset, f.type)) = some (0, ti) ∧ (fs[1]?).map (fun f => (f.offset, f.type)) = some (1, tn) ∧ (fs[2]?).map (fun f => (f.offset, f.type)) = some (3, ts) ∧
    (fs[3]?).map (fun f => (f.offset, f.type)) = some (4, tl) ∧ (fs[4]?).map (fun f => (f.offset, f.type)) = some (5, tk)
  ns : ∃ fs : Array Field, P.underlying tn = some (.struct fs) ∧ (fs[0]?).map (fun f => (f.offset, f.type)) = some (0, t6) ∧ (fs[1]?).map (fun f => (f.offset, f.type)) = some (1, ti)
  c : P.cellsOf t = 6
  cn : P.cellsOf tn = 2
  c6 : P.cellsOf t6 = 1
  ci : P.cellsOf ti = 1
  cs : P.cellsOf ts = 1
  cl : P.cellsOf tl = 1
  ck : P.cellsOf tk = 1
  u6 : P.underlying t6 = some (.int .i64)
  ui : P.underlying ti = some (.int .i64)
  us : P.underlying ts = some .string
  ul : P.underlying tl = some (.slice t)
  uk : P.underlying tk = some (.slice ts)
  b : 1 ≤ P.bytesOf t
  bs : 1 ≤ P.bytesOf ts
theorem rd_num {t t6 ti : TypeId} (hf : ∃ fs : Array Field, P.underlying t = some (.struct fs) ∧ (fs[0]?).map (fun f => (f.offset, f.type)) = some (0, t6) ∧ (fs[1]?).map (fun f => (f.offset, f.type)) = some (1, ti))
    (c : P.cellsOf t = 2) (c6 : P.cellsOf t6 = 1) (ci : P.cellsOf ti = 1) (u6 : P.underlying t6 = some (.int .i64)) (ui : P.underlying ti = some (.int .i64)) :
    Rd enc P W t (fun _ cs (x : Int × Int) => cs = [.int .i64 x.1, .int .i64 x.2] ∧ I64 x.1 ∧ I64 x.2) := by
  intro held fuel cs x h hw
  obtain ⟨fs, hu, f0, f1⟩ := hf
  obtain ⟨hl, hfs⟩ := rd_fields hu h hw
  obtain ⟨m, e0, hm⟩ := hfs 0 0 t6 1 f0 c6 (rd_int u6)
  obtain ⟨e, e1, he⟩ := hfs 1 1 ti 1 f1 ci (rd_int ui)
  obtain ⟨a0, a1, rfl⟩ := list2 (hl.trans c)
  simp only [List.drop, List.take, List.cons.injEq, and_true] at e0 e1
  subst e0; subst e1
  exact ⟨(m, e), rfl, hm, he⟩
theorem rd_val {t tn t6 ti ts tl tk : TypeId} (T : VTy P t tn t6 ti ts tl tk) : Rd enc P W t RVal := by
  intro held fuel
  show RdAt enc P W held fuel t RVal
  induction fuel using Nat.strongRecOn with
  | ind fuel ih =>
  intro cs x h hw
  obtain ⟨fs, hu, f0, f1, f2, f3, f4⟩ := T.fs
  obtain ⟨hl, hfs⟩ := rdAt_fields hu h hw
  obtain ⟨k, e0, hk⟩ := hfs 0 0 ti 1 f0 T.ci (fun n _ => (rd_int T.ui).at)
  obtain ⟨⟨m, e⟩, e1, hm, he⟩ := hfs 1 1 tn 2 f1 T.cn (fun n _ => (rd_num T.ns T.cn T.c6 T.ci T.u6 T.ui).at)
  obtain ⟨s, e2, hs⟩ := hfs 2 3 ts 1 f2 T.cs (fun n _ => (rd_str T.us).at)
  obtain ⟨l, lv, e3, hll⟩ := hfs 3 4 tl 1 f3 T.cl (fun n hn => rdAt_slice T.ul T.c (by omega) T.b (fun k hk => ih k (by omega)))
  obtain ⟨ks, kv, e4, hks⟩ := hfs 4 5 tk 1 f4 T.ck (fun n hn => rdAt_slice T.uk T.cs (by omega) T.bs (fun k hk => (rd_str T.us).at))
  obtain ⟨a0, a1, a2, a3, a4, a5, rfl⟩ := six (hl.trans T.c)
  simp only [List.drop, List.take, List.cons.injEq, and_true] at e0 e1 e2 e3 e4
  obtain ⟨e1, e1'⟩ := e1
  subst e0; subst e1; subst e1'; subst e2; subst e3; subst e4
  exact ⟨.mk k m e s l ks, RVal.close (v := .mk k m e s l ks) hk hm he hs hll hks⟩
/-- The types' numbers: of step, int, string, bool. -/
theorem rd_st {t ti ts tb : TypeId} (hf : ∃ fs : Array Field, P.underlying t = some (.struct fs) ∧ (fs[0]?).map (fun f => (f.offset, f.type)) = some (0, ti) ∧ (fs[1]?).map (fun f => (f.offset, f.type)) = some (1, ts) ∧ (fs[2]?).map (fun f => (f.offset, f.type)) = some (2, ti) ∧
      (fs[3]?).map (fun f => (f.offset, f.type)) = some (3, ti) ∧ (fs[4]?).map (fun f => (f.offset, f.type)) = some (4, tb) ∧ (fs[5]?).map (fun f => (f.offset, f.type)) = some (5, tb))
    (c : P.cellsOf t = 6) (ci : P.cellsOf ti = 1) (cs : P.cellsOf ts = 1) (cb : P.cellsOf tb = 1) (ui : P.underlying ti = some (.int .i64)) (us : P.underlying ts = some .string) (ub : P.underlying tb = some .bool) : Rd enc P W t RSt := by
  intro held fuel cs' x h hw
  obtain ⟨fs, hu, f0, f1, f2, f3, f4, f5⟩ := hf
  obtain ⟨hl, hfs⟩ := rd_fields hu h hw
  obtain ⟨k, e0, hk⟩ := hfs 0 0 ti 1 f0 ci (rd_int ui)
  obtain ⟨s, e1, hs⟩ := hfs 1 1 ts 1 f1 cs (rd_str us)
  obtain ⟨a, e2, ha⟩ := hfs 2 2 ti 1 f2 ci (rd_int ui)
  obtain ⟨b, e3, hb⟩ := hfs 3 3 ti 1 f3 ci (rd_int ui)
  obtain ⟨p, e4⟩ := hfs 4 4 tb 1 f4 cb (rd_bool ub)
  obtain ⟨q, e5⟩ := hfs 5 5 tb 1 f5 cb (rd_bool ub)
  obtain ⟨a0, a1, a2, a3, a4, a5, rfl⟩ := six (hl.trans c)
  simp only [List.drop, List.take, List.cons.injEq, and_true] at e0 e1 e2 e3 e4 e5
  subst e0; subst e1; subst e2; subst e3; subst e4; subst e5
  exact ⟨⟨k, s, a, b, p, q⟩, rfl, hk, hs, ha, hb⟩
end
end Go.Gk.Val
end

section
/-
  Two steps as a literal.
-/
namespace Go.Gk.Val
open Go Go.Gk
section
variable {P : Program} {pan : List PanicEntry → Post} {Qn : Env → Post} {Ls L : List PHeap} {ρ : Env} {d : PHeap} {s : GS} {t : Nat} {tk : Bool}
def stL (s : St) : List Value := [.int .i64 s.kind, strV s.text, .int .i64 s.src, .int .i64 s.dst, .bool s.hf, .bool s.ht]
theorem w_bsS2 {x y : Operand} {a b : St} (ex : ev ρ x = .agg (stL a).toArray) (ey : ev ρ y = .agg (stL b).toArray) (h : ∀ q T, gws P pan Qn s Ls (upd ρ t (.slice (some ⟨q, 0, none⟩) 2 2)) d (bx q T (stL a ++ stL b) :: L)) :
    gws P pan Qn (.op false ⟨some t, none, .bsl 2 6 [.int .i64 0, strV [], .int .i64 0, .int .i64 0, .bool false, .bool false] [(0, x), (1, y)]⟩ s) Ls ρ d L := by
  refine w_bsl (by omega) ?_ h
  simp [Instr.fill, zrow, List.range, List.range.loop, ex, ey, Value.cells, stL]
end
def okS (s : St) : Prop := I64 s.kind ∧ s.text.length ≤ 140737488355328 ∧ I64 s.src ∧ I64 s.dst
theorem rsl_st2 {d : PHeap} {b : Nat} {T : TypeId} {s1 s2 : St} (h1 : okS s1) (h2 : okS s2) (h : Le (bx b T (stL s1 ++ stL s2)) d) : RSl 6 RSt d (.slice (some ⟨b, 0, none⟩) 2 2) [s1, s2] := by
  have o : ORow 6 (.slice (some ⟨b, 0, none⟩) 2 2) 2 (stL s1 ++ stL s2) (bx b T (stL s1 ++ stL s2)) := ORow.lit rfl (by omega)
  refine o.rsl (R := RSt) h rfl (by omega) (fun i hi => ?_)
  have hi2 : i < 2 := hi
  obtain rfl | rfl : i = 0 ∨ i = 1 := by omega
  · exact ⟨rfl, h1⟩
  · exact ⟨rfl, h2⟩
end Go.Gk.Val
end

section
/-
  The laws of ways: the example works.
-/
namespace Go.Gk.Val
open Go Go.Gk Go.Gk.Utf
attribute [local irreducible] gwp gws

def WorksOk (T : PHeap → Prop) (P : Program) (f : FuncId) : Prop := ∀ {d : PHeap}, T d → GPure P f [] d (.bool true)
def g_thimblelaw08_works (f_thimblelaw08_field f_thimblelaw08_index f_steps_Put f_steps_Get f_steps_Drop : Nat) : GFun :=
 ⟨82, [(.tmp 0)],
 (.seq
 (.reg false (.op false ⟨(some 0), none, (.mv (.const (.bool false)))⟩ .done))
 (.seq
 (.reg false (.op false ⟨(some 8), none, (.bld [(0, 1), (1, 2), (3, 1), (4, 1), (5, 1)] [(.int .i64 0), (.int .i64 0), (.int .i64 0), (strV []), (.slice none 0 0), (.slice none 0 0)] [])⟩
  (.op false ⟨(some 9), none, (.call f_thimblelaw08_field [(.const (strV [97]))])⟩
  (.op false ⟨(some 10), none, (.call f_thimblelaw08_index [(.const (.int .i64 1))])⟩
  (.op false ⟨(some 11), none, (.bsl 2 6 [(.int .i64 0), (strV []), (.int .i64 0), (.int .i64 0), (.bool false), (.bool false)] [(0, (.tmp 9)), (1, (.tmp 10))])⟩
  (.op false ⟨(some 12), none, (.bld [(0, 1), (1, 2), (3, 1), (4, 1), (5, 1)] [(.int .i64 0), (.int .i64 0), (.int .i64 0), (strV []), (.slice none 0 0), (.slice none 0 0)] [(0, (.const (.int .i64 2)))])⟩
  (.op false ⟨(some 13), none, (.call f_steps_Put [(.tmp 8), (.tmp 11), (.tmp 12)])⟩
  (.op false ⟨(some 7), none, (.mv (.tmp 13))⟩
  (.op false ⟨(some 14), none, (.ext (.tmp 7) 0)⟩
  (.op false ⟨(some 15), none, (.ext (.tmp 7) 1)⟩
  (.op false ⟨(some 1), none, (.alo (.agg #[(.int .i64 0), (.int .i64 0), (.int .i64 0), (strV []), (.slice none 0 0), (.slice none 0 0)]))⟩
  (.op false ⟨none, none, (.st 6 (.tmp 1) (.tmp 14))⟩
  (.op false ⟨(some 2), none, (.mv (.tmp 15))⟩ .done)))))))))))))
 (.seq
 (.reg true (.op true ⟨(some 17), none, (.ld (some 6) (.tmp 1))⟩
  (.alt ⟨(some 18), none, (.call f_thimblelaw08_field [(.const (strV [97]))])⟩
  (.alt ⟨(some 19), none, (.call f_thimblelaw08_index [(.const (.int .i64 (-1)))])⟩
  (.alt ⟨(some 20), none, (.bsl 2 6 [(.int .i64 0), (strV []), (.int .i64 0), (.int .i64 0), (.bool false), (.bool false)] [(0, (.tmp 18)), (1, (.tmp 19))])⟩
  (.alt ⟨(some 21), none, (.call f_steps_Get [(.tmp 17), (.tmp 20)])⟩
  (.op true ⟨(some 16), none, (.mv (.tmp 21))⟩
  (.op true ⟨(some 22), none, (.ext (.tmp 16) 0)⟩
  (.op true ⟨(some 23), none, (.ext (.tmp 16) 1)⟩
  (.op false ⟨(some 3), none, (.alo (.agg #[(.int .i64 0), (.int .i64 0), (.int .i64 0), (strV []), (.slice none 0 0), (.slice none 0 0)]))⟩
  (.op false ⟨none, none, (.st 6 (.tmp 3) (.tmp 22))⟩
  (.op true ⟨(some 4), none, (.mv (.tmp 23))⟩ .done)))))) (.op false ⟨(some 3), none, (.alo (.agg #[(.int .i64 0), (.int .i64 0), (.int .i64 0), (strV []), (.slice none 0 0), (.slice none 0 0)]))⟩
  (.op false ⟨(some 21), none, (.call f_steps_Get [(.tmp 17), (.tmp 20)])⟩
  (.op true ⟨(some 16), none, (.mv (.tmp 21))⟩
  (.op true ⟨(some 22), none, (.ext (.tmp 16) 0)⟩
  (.op true ⟨(some 23), none, (.ext (.tmp 16) 1)⟩
  (.op false ⟨none, none, (.st 6 (.tmp 3) (.tmp 22))⟩
  (.op true ⟨(some 4), none, (.mv (.tmp 23))⟩ .done)))))))) (.op false ⟨(some 3), none, (.alo (.agg #[(.int .i64 0), (.int .i64 0), (.int .i64 0), (strV []), (.slice none 0 0), (.slice none 0 0)]))⟩
  (.op false ⟨(some 20), none, (.bsl 2 6 [(.int .i64 0), (strV []), (.int .i64 0), (.int .i64 0), (.bool false), (.bool false)] [(0, (.tmp 18)), (1, (.tmp 19))])⟩
  (.op false ⟨(some 21), none, (.call f_steps_Get [(.tmp 17), (.tmp 20)])⟩
  (.op true ⟨(some 16), none, (.mv (.tmp 21))⟩
  (.op true ⟨(some 22), none, (.ext (.tmp 16) 0)⟩
  (.op true ⟨(some 23), none, (.ext (.tmp 16) 1)⟩
  (.op false ⟨none, none, (.st 6 (.tmp 3) (.tmp 22))⟩
  (.op true ⟨(some 4), none, (.mv (.tmp 23))⟩ .done))))))))) (.op false ⟨(some 3), none, (.alo (.agg #[(.int .i64 0), (.int .i64 0), (.int .i64 0), (strV []), (.slice none 0 0), (.slice none 0 0)]))⟩
  (.op false ⟨(some 19), none, (.call f_thimblelaw08_index [(.const (.int .i64 (-1)))])⟩
  (.op false ⟨(some 20), none, (.bsl 2 6 [(.int .i64 0), (strV []), (.int .i64 0), (.int .i64 0), (.bool false), (.bool false)] [(0, (.tmp 18)), (1, (.tmp 19))])⟩
  (.op false ⟨(some 21), none, (.call f_steps_Get [(.tmp 17), (.tmp 20)])⟩
  (.op true ⟨(some 16), none, (.mv (.tmp 21))⟩
  (.op true ⟨(some 22), none, (.ext (.tmp 16) 0)⟩
  (.op true ⟨(some 23), none, (.ext (.tmp 16) 1)⟩
  (.op false ⟨none, none, (.st 6 (.tmp 3) (.tmp 22))⟩
  (.op true ⟨(some 4), none, (.mv (.tmp 23))⟩ .done)))))))))) (.op false ⟨(some 3), none, (.alo (.agg #[(.int .i64 0), (.int .i64 0), (.int .i64 0), (strV []), (.slice none 0 0), (.slice none 0 0)]))⟩
  (.op false ⟨(some 18), none, (.call f_thimblelaw08_field [(.const (strV [97]))])⟩
  (.op false ⟨(some 19), none, (.call f_thimblelaw08_index [(.const (.int .i64 (-1)))])⟩
  (.op false ⟨(some 20), none, (.bsl 2 6 [(.int .i64 0), (strV []), (.int .i64 0), (.int .i64 0), (.bool false), (.bool false)] [(0, (.tmp 18)), (1, (.tmp 19))])⟩
  (.op false ⟨(some 21), none, (.call f_steps_Get [(.tmp 17), (.tmp 20)])⟩
  (.op true ⟨(some 16), none, (.mv (.tmp 21))⟩
  (.op true ⟨(some 22), none, (.ext (.tmp 16) 0)⟩
  (.op true ⟨(some 23), none, (.ext (.tmp 16) 1)⟩
  (.op false ⟨none, none, (.st 6 (.tmp 3) (.tmp 22))⟩
  (.op true ⟨(some 4), none, (.mv (.tmp 23))⟩ .done)))))))))))))
 (.seq
 (.reg true (.op true ⟨(some 25), none, (.ld (some 6) (.tmp 1))⟩
  (.alt ⟨(some 26), none, (.call f_thimblelaw08_field [(.const (strV [97]))])⟩
  (.alt ⟨(some 27), none, (.call f_thimblelaw08_index [(.const (.int .i64 0))])⟩
  (.alt ⟨(some 28), none, (.bsl 2 6 [(.int .i64 0), (strV []), (.int .i64 0), (.int .i64 0), (.bool false), (.bool false)] [(0, (.tmp 26)), (1, (.tmp 27))])⟩
  (.alt ⟨(some 29), none, (.call f_steps_Drop [(.tmp 25), (.tmp 28)])⟩
  (.op true ⟨(some 24), none, (.mv (.tmp 29))⟩
  (.op true ⟨(some 30), none, (.ext (.tmp 24) 0)⟩
  (.op true ⟨(some 31), none, (.ext (.tmp 24) 1)⟩
  (.op false ⟨(some 5), none, (.alo (.agg #[(.int .i64 0), (.int .i64 0), (.int .i64 0), (strV []), (.slice none 0 0), (.slice none 0 0)]))⟩
  (.op false ⟨none, none, (.st 6 (.tmp 5) (.tmp 30))⟩
  (.op true ⟨(some 6), none, (.mv (.tmp 31))⟩ .done)))))) (.op false ⟨(some 5), none, (.alo (.agg #[(.int .i64 0), (.int .i64 0), (.int .i64 0), (strV []), (.slice none 0 0), (.slice none 0 0)]))⟩
  (.op false ⟨(some 29), none, (.call f_steps_Drop [(.tmp 25), (.tmp 28)])⟩
  (.op true ⟨(some 24), none, (.mv (.tmp 29))⟩
  (.op true ⟨(some 30), none, (.ext (.tmp 24) 0)⟩
  (.op true ⟨(some 31), none, (.ext (.tmp 24) 1)⟩
  (.op false ⟨none, none, (.st 6 (.tmp 5) (.tmp 30))⟩
  (.op true ⟨(some 6), none, (.mv (.tmp 31))⟩ .done)))))))) (.op false ⟨(some 5), none, (.alo (.agg #[(.int .i64 0), (.int .i64 0), (.int .i64 0), (strV []), (.slice none 0 0), (.slice none 0 0)]))⟩
  (.op false ⟨(some 28), none, (.bsl 2 6 [(.int .i64 0), (strV []), (.int .i64 0), (.int .i64 0), (.bool false), (.bool false)] [(0, (.tmp 26)), (1, (.tmp 27))])⟩
  (.op false ⟨(some 29), none, (.call f_steps_Drop [(.tmp 25), (.tmp 28)])⟩
  (.op true ⟨(some 24), none, (.mv (.tmp 29))⟩
  (.op true ⟨(some 30), none, (.ext (.tmp 24) 0)⟩
  (.op true ⟨(some 31), none, (.ext (.tmp 24) 1)⟩
  (.op false ⟨none, none, (.st 6 (.tmp 5) (.tmp 30))⟩
  (.op true ⟨(some 6), none, (.mv (.tmp 31))⟩ .done))))))))) (.op false ⟨(some 5), none, (.alo (.agg #[(.int .i64 0), (.int .i64 0), (.int .i64 0), (strV []), (.slice none 0 0), (.slice none 0 0)]))⟩
  (.op false ⟨(some 27), none, (.call f_thimblelaw08_index [(.const (.int .i64 0))])⟩
  (.op false ⟨(some 28), none, (.bsl 2 6 [(.int .i64 0), (strV []), (.int .i64 0), (.int .i64 0), (.bool false), (.bool false)] [(0, (.tmp 26)), (1, (.tmp 27))])⟩
  (.op false ⟨(some 29), none, (.call f_steps_Drop [(.tmp 25), (.tmp 28)])⟩
  (.op true ⟨(some 24), none, (.mv (.tmp 29))⟩
  (.op true ⟨(some 30), none, (.ext (.tmp 24) 0)⟩
  (.op true ⟨(some 31), none, (.ext (.tmp 24) 1)⟩
  (.op false ⟨none, none, (.st 6 (.tmp 5) (.tmp 30))⟩
  (.op true ⟨(some 6), none, (.mv (.tmp 31))⟩ .done)))))))))) (.op false ⟨(some 5), none, (.alo (.agg #[(.int .i64 0), (.int .i64 0), (.int .i64 0), (strV []), (.slice none 0 0), (.slice none 0 0)]))⟩
  (.op false ⟨(some 26), none, (.call f_thimblelaw08_field [(.const (strV [97]))])⟩
  (.op false ⟨(some 27), none, (.call f_thimblelaw08_index [(.const (.int .i64 0))])⟩
  (.op false ⟨(some 28), none, (.bsl 2 6 [(.int .i64 0), (strV []), (.int .i64 0), (.int .i64 0), (.bool false), (.bool false)] [(0, (.tmp 26)), (1, (.tmp 27))])⟩
  (.op false ⟨(some 29), none, (.call f_steps_Drop [(.tmp 25), (.tmp 28)])⟩
  (.op true ⟨(some 24), none, (.mv (.tmp 29))⟩
  (.op true ⟨(some 30), none, (.ext (.tmp 24) 0)⟩
  (.op true ⟨(some 31), none, (.ext (.tmp 24) 1)⟩
  (.op false ⟨none, none, (.st 6 (.tmp 5) (.tmp 30))⟩
  (.op true ⟨(some 6), none, (.mv (.tmp 31))⟩ .done)))))))))))))
 (.seq
 (.reg false (.op false ⟨(some 32), none, (.mv (.tmp 2))⟩
  (.op false ⟨(some 33), none, (.bin .eql (.tmp 32) (.const (.int .i64 0)))⟩
  (.op false ⟨(some 34), none, (.mv (.tmp 33))⟩
  (.op false ⟨(some 35), (some (34, true)), (.fld 0 (.tmp 1))⟩
  (.op false ⟨(some 36), (some (34, true)), (.ld none (.tmp 35))⟩
  (.op false ⟨(some 37), (some (34, true)), (.bin .eql (.tmp 36) (.const (.int .i64 6)))⟩
  (.op false ⟨(some 38), none, (.pick (.tmp 34) (.tmp 37) (.const (.bool false)))⟩
  (.op false ⟨(some 39), none, (.mv (.tmp 38))⟩
  (.op false ⟨(some 40), (some (39, true)), (.fld 4 (.tmp 1))⟩
  (.op false ⟨(some 41), (some (39, true)), (.ld none (.tmp 40))⟩
  (.op false ⟨(some 42), (some (39, true)), (.len (.tmp 41))⟩
  (.op false ⟨(some 43), (some (39, true)), (.bin .eql (.tmp 42) (.const (.int .i64 1)))⟩
  (.op false ⟨(some 44), none, (.pick (.tmp 39) (.tmp 43) (.const (.bool false)))⟩
  (.op false ⟨(some 45), none, (.mv (.tmp 44))⟩
  (.op false ⟨(some 46), (some (45, true)), (.fld 4 (.tmp 1))⟩
  (.op false ⟨(some 47), (some (45, true)), (.ld none (.tmp 46))⟩
  (.op false ⟨(some 48), (some (45, true)), (.idx 6 (.tmp 47) (.const (.int .i64 0)))⟩
  (.op false ⟨(some 49), (some (45, true)), (.fld 4 (.tmp 48))⟩
  (.op false ⟨(some 50), (some (45, true)), (.ld none (.tmp 49))⟩
  (.op false ⟨(some 51), (some (45, true)), (.len (.tmp 50))⟩
  (.op false ⟨(some 52), (some (45, true)), (.bin .eql (.tmp 51) (.const (.int .i64 2)))⟩
  (.op false ⟨(some 53), none, (.pick (.tmp 45) (.tmp 52) (.const (.bool false)))⟩
  (.op false ⟨(some 54), none, (.mv (.tmp 53))⟩
  (.op false ⟨(some 55), (some (54, true)), (.mv (.tmp 4))⟩
  (.op false ⟨(some 56), (some (54, true)), (.bin .eql (.tmp 55) (.const (.int .i64 0)))⟩
  (.op false ⟨(some 57), none, (.pick (.tmp 54) (.tmp 56) (.const (.bool false)))⟩
  (.op false ⟨(some 58), none, (.mv (.tmp 57))⟩
  (.op false ⟨(some 59), (some (58, true)), (.fld 0 (.tmp 3))⟩
  (.op false ⟨(some 60), (some (58, true)), (.ld none (.tmp 59))⟩
  (.op false ⟨(some 61), (some (58, true)), (.bin .eql (.tmp 60) (.const (.int .i64 2)))⟩
  (.op false ⟨(some 62), none, (.pick (.tmp 58) (.tmp 61) (.const (.bool false)))⟩
  (.op false ⟨(some 63), none, (.mv (.tmp 62))⟩
  (.op false ⟨(some 64), (some (63, true)), (.mv (.tmp 6))⟩
  (.op false ⟨(some 65), (some (63, true)), (.bin .eql (.tmp 64) (.const (.int .i64 0)))⟩
  (.op false ⟨(some 66), none, (.pick (.tmp 63) (.tmp 65) (.const (.bool false)))⟩
  (.op false ⟨(some 67), none, (.mv (.tmp 66))⟩
  (.op false ⟨(some 68), (some (67, true)), (.fld 4 (.tmp 5))⟩
  (.op false ⟨(some 69), (some (67, true)), (.ld none (.tmp 68))⟩
  (.op false ⟨(some 70), (some (67, true)), (.len (.tmp 69))⟩
  (.op false ⟨(some 71), (some (67, true)), (.bin .eql (.tmp 70) (.const (.int .i64 1)))⟩
  (.op false ⟨(some 72), none, (.pick (.tmp 67) (.tmp 71) (.const (.bool false)))⟩
  (.op false ⟨(some 73), none, (.mv (.tmp 72))⟩
  (.op false ⟨(some 74), (some (73, true)), (.fld 4 (.tmp 5))⟩
  (.op false ⟨(some 75), (some (73, true)), (.ld none (.tmp 74))⟩
  (.op false ⟨(some 76), (some (73, true)), (.idx 6 (.tmp 75) (.const (.int .i64 0)))⟩
  (.op false ⟨(some 77), (some (73, true)), (.fld 4 (.tmp 76))⟩
  (.op false ⟨(some 78), (some (73, true)), (.ld none (.tmp 77))⟩
  (.op false ⟨(some 79), (some (73, true)), (.len (.tmp 78))⟩
  (.op false ⟨(some 80), (some (73, true)), (.bin .eql (.tmp 79) (.const (.int .i64 1)))⟩
  (.op false ⟨(some 81), none, (.pick (.tmp 73) (.tmp 80) (.const (.bool false)))⟩
  (.op false ⟨(some 0), none, (.mv (.tmp 81))⟩ .done)))))))))))))))))))))))))))))))))))))))))))))))))))) .ret)))))⟩

set_option maxHeartbeats 2000000 in
theorem works_ok {T : PHeap → Prop} {P : Program} {f f1 f2 f3 f4 f5 : FuncId} (hT : ∀ {d d' : PHeap}, Le d d' → T d → T d') (hd : dec P f = some (g_thimblelaw08_works f1 f2 f3 f4 f5)) (hF : FieldOk P f1) (hI : IndexOk P f2) (hP : PutOk T P f3) (hG : GetOk T P f4) (hD : DropOk T P f5) : WorksOk T P f := by
  intro d ht
  have ok1 : okS (fieldS [97]) := ⟨i64_0, by decide, i64_0, i64_0⟩
  have okp : okS (indexS 1) := ⟨⟨by decide, by decide⟩, by decide, ⟨by decide, by decide⟩, i64_0⟩
  have okm : okS (indexS (-1)) := ⟨⟨by decide, by decide⟩, by decide, ⟨by decide, by decide⟩, i64_0⟩
  have ok0 : okS (indexS 0) := ⟨⟨by decide, by decide⟩, by decide, i64_0, i64_0⟩
  refine GPure.of' hd (Nat.le_of_ble_eq_true rfl) ?_
  show gwp P _ _ _ _ _
  (apply w_sq; apply w_reg; apply w_mvb; rfl; apply w_done0; apply w_sq; apply w_reg; apply w_bvZ)
  refine w_pure rfl hF ?_
  refine w_pure rfl hI ?_
  refine w_bsS2 (a := fieldS [97]) (b := indexS 1) rfl rfl (fun b11 T11 => ?_)
  refine w_frz (fun d1 hl1 hg1 => ?_)
  (apply w_bvK; rfl)
  have htv : RVal d1 [.int .i64 2, .int .i64 0, .int .i64 0, strV [], .slice none 0 0, .slice none 0 0] trueV := RVal.close (v := trueV) ⟨by decide, by decide⟩ i64_0 i64_0 (by decide) RSl.nil RSl.nil
  refine w_call0 rfl (hP (hT hl1 ht) RVal.zero (rsl_st2 ok1 okp hg1) htv (by decide) (by decide) (by decide)) (fun r d4 L4 _ ⟨hdd, cs', g, hr, hL, ho⟩ => ?_)
  subst hdd; subst hL
  rw [ex_put] at hr ho
  subst hr
  refine w_frz (fun d2 hl2 hg2 => ?_)
  have hv := ho.rval hg2
  have ht2 : T d2 := hT (hl1.trans hl2) ht
  obtain ⟨lv, kv, rfl, _, _, _, _, hvl, _⟩ := hv.open
  obtain ⟨la, lc, rfl⟩ := RSl.val hvl
  (apply w_mvu; rfl; apply w_ext; rfl; rfl; apply w_ext; rfl; rfl; apply w_alo; intro _ _)
  rename_i b1 T1
  refine w_stE 0 [.int .i64 exV.kind, .int .i64 exV.m, .int .i64 exV.e, strV exV.text, .slice la exV.list.length lc, kv] rfl rfl rfl rfl (Nat.le_of_ble_eq_true rfl) (cell1_val _ _ _ hv) rfl ?_
  (apply w_mvi; rfl; apply w_done0)
  refine w_mid (fun ρ d' L' => Le d2 d' ∧ ∃ b3 T3 y1 y2 y3 y4 y5, SlotsAre ρ [(1, .pointer (some ⟨b1, 0, none⟩)), (2, .int .i64 0), (3, .pointer (some ⟨b3, 0, none⟩)), (4, .int .i64 0)] ∧
    L' = [bx b1 T1 [.int .i64 exV.kind, .int .i64 exV.m, .int .i64 exV.e, strV exV.text, .slice la exV.list.length lc, kv], bx b3 T3 [.int .i64 2, y1, y2, y3, y4, y5]]) ?_ ?_
  · refine w_drawn ?_
    (apply w_ldb 0; rfl; rfl; rfl)
    refine w_alt ?_ ?_
    · refine w_pure rfl hF ?_
      refine w_alt ?_ ?_
      · refine w_pure rfl hI ?_
        refine w_alt ?_ ?_
        · refine w_bsS2 (a := fieldS [97]) (b := indexS (-1)) rfl rfl (fun b20 T20 => ?_)
          refine w_alt ?_ ?_
          · refine w_frz (fun d3 hl3 hg3 => ?_)
            refine w_call0 rfl (hG (hT hl3 ht2) (RVal.mono hl3 hv) (rsl_st2 ok1 okm hg3) (by decide)) (fun r d4 L4 _ ⟨hdd, cs', g, hr, hL, ho⟩ => ?_)
            subst hdd; subst hL
            rw [ex_get] at hr ho
            subst hr
            obtain ⟨lv, kv, _, _, _, _, rfl, _⟩ := ho.open
            (apply w_mvu; rfl; apply w_ext; rfl; rfl; apply w_ext; rfl; rfl; apply w_alo; intro _ _)
            rename_i b3 T3
            refine w_vs _ [g, bx b3 T3 [.int .i64 0, .int .i64 0, .int .i64 0, strV [], .slice none 0 0, .slice none 0 0]] (Vs.perm (List.Perm.swap _ _ _)) ?_
            refine w_frz (fun d5 hl5 hg5 => ?_)
            refine w_stE 0 [.int .i64 _, .int .i64 _, .int .i64 _, strV _, lv, kv] rfl rfl rfl rfl (Nat.le_of_ble_eq_true rfl) ho.cells.2 rfl ?_
            (apply w_mvi; rfl; apply w_done)
            exact ⟨hl3.trans hl5, b3, T3, _, _, _, _, _, ⟨rfl, rfl, rfl, rfl, trivial⟩, rfl⟩
          · refine w_frz (fun d3 hl3 hg3 => ?_)
            (apply w_alo; intro _ _)
            rename_i b3 T3
            refine w_call0 rfl (hG (hT hl3 ht2) (RVal.mono hl3 hv) (rsl_st2 ok1 okm hg3) (by decide)) (fun r d4 L4 _ ⟨hdd, cs', g, hr, hL, ho⟩ => ?_)
            subst hdd; subst hL
            rw [ex_get] at hr ho
            subst hr
            obtain ⟨lv, kv, _, _, _, _, rfl, _⟩ := ho.open
            (apply w_mvu; rfl; apply w_ext; rfl; rfl; apply w_ext; rfl; rfl)
            refine w_frz (fun d5 hl5 hg5 => ?_)
            refine w_stE 0 [.int .i64 _, .int .i64 _, .int .i64 _, strV _, lv, kv] rfl rfl rfl rfl (Nat.le_of_ble_eq_true rfl) ho.cells.2 rfl ?_
            (apply w_mvi; rfl; apply w_done)
            exact ⟨hl3.trans hl5, b3, T3, _, _, _, _, _, ⟨rfl, rfl, rfl, rfl, trivial⟩, rfl⟩
        · (apply w_alo; intro _ _)
          rename_i b3 T3
          refine w_bsS2 (a := fieldS [97]) (b := indexS (-1)) rfl rfl (fun b20 T20 => ?_)
          refine w_frz (fun d3 hl3 hg3 => ?_)
          refine w_call0 rfl (hG (hT hl3 ht2) (RVal.mono hl3 hv) (rsl_st2 ok1 okm hg3) (by decide)) (fun r d4 L4 _ ⟨hdd, cs', g, hr, hL, ho⟩ => ?_)
          subst hdd; subst hL
          rw [ex_get] at hr ho
          subst hr
          obtain ⟨lv, kv, _, _, _, _, rfl, _⟩ := ho.open
          (apply w_mvu; rfl; apply w_ext; rfl; rfl; apply w_ext; rfl; rfl)
          refine w_frz (fun d5 hl5 hg5 => ?_)
          refine w_stE 0 [.int .i64 _, .int .i64 _, .int .i64 _, strV _, lv, kv] rfl rfl rfl rfl (Nat.le_of_ble_eq_true rfl) ho.cells.2 rfl ?_
          (apply w_mvi; rfl; apply w_done)
          exact ⟨hl3.trans hl5, b3, T3, _, _, _, _, _, ⟨rfl, rfl, rfl, rfl, trivial⟩, rfl⟩
      · (apply w_alo; intro _ _)
        rename_i b3 T3
        refine w_pure rfl hI ?_
        refine w_bsS2 (a := fieldS [97]) (b := indexS (-1)) rfl rfl (fun b20 T20 => ?_)
        refine w_frz (fun d3 hl3 hg3 => ?_)
        refine w_call0 rfl (hG (hT hl3 ht2) (RVal.mono hl3 hv) (rsl_st2 ok1 okm hg3) (by decide)) (fun r d4 L4 _ ⟨hdd, cs', g, hr, hL, ho⟩ => ?_)
        subst hdd; subst hL
        rw [ex_get] at hr ho
        subst hr
        obtain ⟨lv, kv, _, _, _, _, rfl, _⟩ := ho.open
        (apply w_mvu; rfl; apply w_ext; rfl; rfl; apply w_ext; rfl; rfl)
        refine w_frz (fun d5 hl5 hg5 => ?_)
        refine w_stE 0 [.int .i64 _, .int .i64 _, .int .i64 _, strV _, lv, kv] rfl rfl rfl rfl (Nat.le_of_ble_eq_true rfl) ho.cells.2 rfl ?_
        (apply w_mvi; rfl; apply w_done)
        exact ⟨hl3.trans hl5, b3, T3, _, _, _, _, _, ⟨rfl, rfl, rfl, rfl, trivial⟩, rfl⟩
    · (apply w_alo; intro _ _)
      rename_i b3 T3
      refine w_pure rfl hF ?_
      refine w_pure rfl hI ?_
      refine w_bsS2 (a := fieldS [97]) (b := indexS (-1)) rfl rfl (fun b20 T20 => ?_)
      refine w_frz (fun d3 hl3 hg3 => ?_)
      refine w_call0 rfl (hG (hT hl3 ht2) (RVal.mono hl3 hv) (rsl_st2 ok1 okm hg3) (by decide)) (fun r d4 L4 _ ⟨hdd, cs', g, hr, hL, ho⟩ => ?_)
      subst hdd; subst hL
      rw [ex_get] at hr ho
      subst hr
      obtain ⟨lv, kv, _, _, _, _, rfl, _⟩ := ho.open
      (apply w_mvu; rfl; apply w_ext; rfl; rfl; apply w_ext; rfl; rfl)
      refine w_frz (fun d5 hl5 hg5 => ?_)
      refine w_stE 0 [.int .i64 _, .int .i64 _, .int .i64 _, strV _, lv, kv] rfl rfl rfl rfl (Nat.le_of_ble_eq_true rfl) ho.cells.2 rfl ?_
      (apply w_mvi; rfl; apply w_done)
      exact ⟨hl3.trans hl5, b3, T3, _, _, _, _, _, ⟨rfl, rfl, rfl, rfl, trivial⟩, rfl⟩
  rintro ρ d3 L' ⟨hle, b3, T3, y1, y2, y3, y4, y5, hsl, hL⟩
  subst hL
  refine gwp_slots _ hsl ?_
  clear hsl
  have ht3 : T d3 := hT hle ht2
  refine w_mid (fun ρ d' L' => Le d3 d' ∧ ∃ b5 T5 cs5, SlotsAre ρ [(1, .pointer (some ⟨b1, 0, none⟩)), (2, .int .i64 0), (3, .pointer (some ⟨b3, 0, none⟩)), (4, .int .i64 0), (5, .pointer (some ⟨b5, 0, none⟩)), (6, .int .i64 0)] ∧ RVal d' cs5 exW ∧
    L' = [bx b1 T1 [.int .i64 exV.kind, .int .i64 exV.m, .int .i64 exV.e, strV exV.text, .slice la exV.list.length lc, kv], bx b3 T3 [.int .i64 2, y1, y2, y3, y4, y5], bx b5 T5 cs5]) ?_ ?_
  · refine w_drawn ?_
    (apply w_ldb 0; rfl; rfl; rfl)
    refine w_alt ?_ ?_
    · refine w_pure rfl hF ?_
      refine w_alt ?_ ?_
      · refine w_pure rfl hI ?_
        refine w_alt ?_ ?_
        · refine w_bsS2 (a := fieldS [97]) (b := indexS 0) rfl rfl (fun b20 T20 => ?_)
          refine w_alt ?_ ?_
          · refine w_frz (fun d3 hl3 hg3 => ?_)
            refine w_call0 rfl (hD (hT hl3 ht3) (RVal.mono (hle.trans hl3) hv) (rsl_st2 ok1 ok0 hg3) (by decide) (by decide)) (fun r d4 L4 _ ⟨hdd, cs', g, hr, hL, ho⟩ => ?_)
            subst hdd; subst hL
            rw [ex_drop] at hr ho
            subst hr
            obtain ⟨lv, kv, _, _, _, _, rfl, _⟩ := ho.open
            (apply w_mvu; rfl; apply w_ext; rfl; rfl; apply w_ext; rfl; rfl; apply w_alo; intro _ _)
            rename_i b5 T5
            refine w_vs _ [g, bx b5 T5 [.int .i64 0, .int .i64 0, .int .i64 0, strV [], .slice none 0 0, .slice none 0 0]] (Vs.perm (List.Perm.swap _ _ _)) ?_
            refine w_frz (fun d5 hl5 hg5 => ?_)
            refine w_stE 0 [.int .i64 _, .int .i64 _, .int .i64 _, strV _, lv, kv] rfl rfl rfl rfl (Nat.le_of_ble_eq_true rfl) ho.cells.2 rfl ?_
            (apply w_mvi; rfl; apply w_done)
            exact ⟨hl3.trans hl5, b5, T5, _, ⟨rfl, rfl, rfl, rfl, rfl, rfl, trivial⟩, ho.rval hg5, rfl⟩
          · refine w_frz (fun d3 hl3 hg3 => ?_)
            (apply w_alo; intro _ _)
            rename_i b5 T5
            refine w_call0 rfl (hD (hT hl3 ht3) (RVal.mono (hle.trans hl3) hv) (rsl_st2 ok1 ok0 hg3) (by decide) (by decide)) (fun r d4 L4 _ ⟨hdd, cs', g, hr, hL, ho⟩ => ?_)
            subst hdd; subst hL
            rw [ex_drop] at hr ho
            subst hr
            obtain ⟨lv, kv, _, _, _, _, rfl, _⟩ := ho.open
            (apply w_mvu; rfl; apply w_ext; rfl; rfl; apply w_ext; rfl; rfl)
            refine w_frz (fun d5 hl5 hg5 => ?_)
            refine w_stE 0 [.int .i64 _, .int .i64 _, .int .i64 _, strV _, lv, kv] rfl rfl rfl rfl (Nat.le_of_ble_eq_true rfl) ho.cells.2 rfl ?_
            (apply w_mvi; rfl; apply w_done)
            exact ⟨hl3.trans hl5, b5, T5, _, ⟨rfl, rfl, rfl, rfl, rfl, rfl, trivial⟩, ho.rval hg5, rfl⟩
        · (apply w_alo; intro _ _)
          rename_i b5 T5
          refine w_bsS2 (a := fieldS [97]) (b := indexS 0) rfl rfl (fun b20 T20 => ?_)
          refine w_frz (fun d3 hl3 hg3 => ?_)
          refine w_call0 rfl (hD (hT hl3 ht3) (RVal.mono (hle.trans hl3) hv) (rsl_st2 ok1 ok0 hg3) (by decide) (by decide)) (fun r d4 L4 _ ⟨hdd, cs', g, hr, hL, ho⟩ => ?_)
          subst hdd; subst hL
          rw [ex_drop] at hr ho
          subst hr
          obtain ⟨lv, kv, _, _, _, _, rfl, _⟩ := ho.open
          (apply w_mvu; rfl; apply w_ext; rfl; rfl; apply w_ext; rfl; rfl)
          refine w_frz (fun d5 hl5 hg5 => ?_)
          refine w_stE 0 [.int .i64 _, .int .i64 _, .int .i64 _, strV _, lv, kv] rfl rfl rfl rfl (Nat.le_of_ble_eq_true rfl) ho.cells.2 rfl ?_
          (apply w_mvi; rfl; apply w_done)
          exact ⟨hl3.trans hl5, b5, T5, _, ⟨rfl, rfl, rfl, rfl, rfl, rfl, trivial⟩, ho.rval hg5, rfl⟩
      · (apply w_alo; intro _ _)
        rename_i b5 T5
        refine w_pure rfl hI ?_
        refine w_bsS2 (a := fieldS [97]) (b := indexS 0) rfl rfl (fun b20 T20 => ?_)
        refine w_frz (fun d3 hl3 hg3 => ?_)
        refine w_call0 rfl (hD (hT hl3 ht3) (RVal.mono (hle.trans hl3) hv) (rsl_st2 ok1 ok0 hg3) (by decide) (by decide)) (fun r d4 L4 _ ⟨hdd, cs', g, hr, hL, ho⟩ => ?_)
        subst hdd; subst hL
        rw [ex_drop] at hr ho
        subst hr
        obtain ⟨lv, kv, _, _, _, _, rfl, _⟩ := ho.open
        (apply w_mvu; rfl; apply w_ext; rfl; rfl; apply w_ext; rfl; rfl)
        refine w_frz (fun d5 hl5 hg5 => ?_)
        refine w_stE 0 [.int .i64 _, .int .i64 _, .int .i64 _, strV _, lv, kv] rfl rfl rfl rfl (Nat.le_of_ble_eq_true rfl) ho.cells.2 rfl ?_
        (apply w_mvi; rfl; apply w_done)
        exact ⟨hl3.trans hl5, b5, T5, _, ⟨rfl, rfl, rfl, rfl, rfl, rfl, trivial⟩, ho.rval hg5, rfl⟩
    · (apply w_alo; intro _ _)
      rename_i b5 T5
      refine w_pure rfl hF ?_
      refine w_pure rfl hI ?_
      refine w_bsS2 (a := fieldS [97]) (b := indexS 0) rfl rfl (fun b20 T20 => ?_)
      refine w_frz (fun d3 hl3 hg3 => ?_)
      refine w_call0 rfl (hD (hT hl3 ht3) (RVal.mono (hle.trans hl3) hv) (rsl_st2 ok1 ok0 hg3) (by decide) (by decide)) (fun r d4 L4 _ ⟨hdd, cs', g, hr, hL, ho⟩ => ?_)
      subst hdd; subst hL
      rw [ex_drop] at hr ho
      subst hr
      obtain ⟨lv, kv, _, _, _, _, rfl, _⟩ := ho.open
      (apply w_mvu; rfl; apply w_ext; rfl; rfl; apply w_ext; rfl; rfl)
      refine w_frz (fun d5 hl5 hg5 => ?_)
      refine w_stE 0 [.int .i64 _, .int .i64 _, .int .i64 _, strV _, lv, kv] rfl rfl rfl rfl (Nat.le_of_ble_eq_true rfl) ho.cells.2 rfl ?_
      (apply w_mvi; rfl; apply w_done)
      exact ⟨hl3.trans hl5, b5, T5, _, ⟨rfl, rfl, rfl, rfl, rfl, rfl, trivial⟩, ho.rval hg5, rfl⟩
  rintro ρ d6 L' ⟨hle2, b5, T5, cs5, hsl, hw, hL⟩
  subst hL
  refine gwp_slots _ hsl ?_
  clear hsl
  obtain ⟨wl, wk, rfl, _, _, _, _, hwl, _⟩ := hw.open
  obtain ⟨wa, wc, rfl⟩ := RSl.val hwl
  have hv' := RVals.mono hvl (hle.trans hle2)
  have q1 : RSl 6 RVal d6 (.slice la exV.list.length lc) exV.list := hv'
  have q2 : RSl 6 RVal d6 (.slice wa exW.list.length wc) exW.list := hwl
  have f1' : (exV.list.length : Int) = 1 := rfl
  have f2' : (exW.list.length : Int) = 1 := rfl
  have f3' : exV.kind = 6 := rfl
  (apply w_sq; apply w_reg; apply w_mvi; rfl; apply w_eql; rfl; rfl; apply w_mvb; rfl; refine w_gdT rfl (by omega) ?_; apply w_gT; rfl; apply w_fld; rfl; apply w_gT; rfl; apply w_ld; rfl; exact hc_i 0 rfl rfl; apply w_gT; rfl; apply w_eql; rfl; rfl; apply w_pickTb; rfl; rfl; apply w_mvb; rfl; refine w_gdT rfl (by omega) ?_; apply w_gT; rfl; apply w_fld; rfl; apply w_gT; rfl; apply w_ld; rfl; exact hc_i 0 rfl rfl; apply w_gT; rfl; apply w_len; rfl; apply w_gT; rfl; apply w_eql; rfl; rfl; apply w_pickTb; rfl; rfl; apply w_mvb; rfl; refine w_gdT rfl (by omega) ?_; apply w_gT; rfl; apply w_fld; rfl; apply w_gT; rfl; apply w_ld; rfl; exact hc_i 0 rfl rfl; apply w_gT; rfl; refine w_idxR (m := 0) (sz := 6) (R := RVal) (by rfl) (by assumption) (by rfl) rfl (by omega) ?_; rintro _ _ _ _ _ _; apply w_gT; rfl; apply w_fld; rfl; apply w_gT; rfl)
  rename_i cs hcs hD hR
  obtain ⟨xl, xk, rfl, _, _, _, _, hxl, _⟩ := hR.open
  obtain ⟨xa, xc, rfl⟩ := RSl.val hxl
  have f4' : ((exV.list[0]'(by decide)).list.length : Int) = 2 := rfl
  (apply w_ld; rfl; exact hc_ds (by assumption) rfl; apply w_gT; rfl; apply w_len; rfl; apply w_gT; rfl; apply w_eql; rfl; rfl; apply w_pickTb; rfl; rfl; apply w_mvb; rfl; refine w_gdT rfl (by omega) ?_; apply w_gT; rfl; apply w_mvi; rfl; apply w_gT; rfl; apply w_eql; rfl; rfl; apply w_pickTb; rfl; rfl; apply w_mvb; rfl; refine w_gdT rfl (by omega) ?_; apply w_gT; rfl; apply w_fld; rfl; apply w_gT; rfl; apply w_ld; rfl; exact hc_i 1 rfl rfl; apply w_gT; rfl; apply w_eql; rfl; rfl; apply w_pickTb; rfl; rfl; apply w_mvb; rfl; refine w_gdT rfl (by omega) ?_; apply w_gT; rfl; apply w_mvi; rfl; apply w_gT; rfl; apply w_eql; rfl; rfl; apply w_pickTb; rfl; rfl; apply w_mvb; rfl; refine w_gdT rfl (by omega) ?_; apply w_gT; rfl; apply w_fld; rfl; apply w_gT; rfl; apply w_ld; rfl; exact hc_i 2 rfl rfl; apply w_gT; rfl; apply w_len; rfl; apply w_gT; rfl; apply w_eql; rfl; rfl; apply w_pickTb; rfl; rfl; apply w_mvb; rfl; refine w_gdT rfl (by omega) ?_; apply w_gT; rfl; apply w_fld; rfl; apply w_gT; rfl; apply w_ld; rfl; exact hc_i 2 rfl rfl; apply w_gT; rfl; refine w_idxR (m := 0) (sz := 6) (R := RVal) (by rfl) (by assumption) (by rfl) rfl (by omega) ?_; rintro _ _ _ _ _ _; apply w_gT; rfl; apply w_fld; rfl; apply w_gT; rfl)
  rename_i cs hcs hD hR
  obtain ⟨zl, zk, rfl, _, _, _, _, hzl, _⟩ := hR.open
  obtain ⟨za, zc, rfl⟩ := RSl.val hzl
  have f5' : ((exW.list[0]'(by decide)).list.length : Int) = 1 := rfl
  (apply w_ld; rfl; exact hc_ds (by assumption) rfl; apply w_gT; rfl; apply w_len; rfl; apply w_gT; rfl; apply w_eql; rfl; rfl; apply w_pickTb; rfl; rfl; apply w_mvb; rfl; apply w_done0; apply w_ret)
  apply finQb; rfl
  simp [f5']
end Go.Gk.Val
end

section
/-
  Two and three values as a literal.
-/
namespace Go.Gk.Val
open Go Go.Gk
section
variable {P : Program} {pan : List PanicEntry → Post} {Qn : Env → Post} {Ls L : List PHeap} {ρ : Env} {d : PHeap} {s : GS} {t : Nat} {tk : Bool}
theorem w_bsV2 {x y : Operand} {a b : List Value} (ex : ev ρ x = .agg a.toArray) (ha : a.length = 6) (ey : ev ρ y = .agg b.toArray) (hb : b.length = 6) (h : ∀ q T, gws P pan Qn s Ls (upd ρ t (.slice (some ⟨q, 0, none⟩) 2 2)) d (bx q T (a ++ b) :: L)) :
    gws P pan Qn (.op false ⟨some t, none, .bsl 2 6 [.int .i64 0, .int .i64 0, .int .i64 0, strV [], .slice none 0 0, .slice none 0 0] [(0, x), (1, y)]⟩ s) Ls ρ d L := by
  obtain ⟨a0, a1, a2, a3, a4, a5, rfl⟩ := six ha
  obtain ⟨b0, b1, b2, b3, b4, b5, rfl⟩ := six hb
  refine w_bsl (by omega) ?_ h
  simp [Instr.fill, zrow, List.range, List.range.loop, ex, ey, Value.cells]
theorem w_bsV3 {x y z : Operand} {a b c : List Value} (ex : ev ρ x = .agg a.toArray) (ha : a.length = 6) (ey : ev ρ y = .agg b.toArray) (hb : b.length = 6) (ez : ev ρ z = .agg c.toArray) (hc : c.length = 6)
    (h : ∀ q T, gws P pan Qn s Ls (upd ρ t (.slice (some ⟨q, 0, none⟩) 3 3)) d (bx q T (a ++ b ++ c) :: L)) :
    gws P pan Qn (.op false ⟨some t, none, .bsl 3 6 [.int .i64 0, .int .i64 0, .int .i64 0, strV [], .slice none 0 0, .slice none 0 0] [(0, x), (1, y), (2, z)]⟩ s) Ls ρ d L := by
  obtain ⟨a0, a1, a2, a3, a4, a5, rfl⟩ := six ha
  obtain ⟨b0, b1, b2, b3, b4, b5, rfl⟩ := six hb
  obtain ⟨c0, c1, c2, c3, c4, c5, rfl⟩ := six hc
  refine w_bsl (by omega) ?_ h
  simp [Instr.fill, zrow, List.range, List.range.loop, ex, ey, ez, Value.cells]
end
theorem rvals2 {d d' : PHeap} {q : Nat} {T : TypeId} {a b : List Value} {x y : V} (hx : RVal d a x) (hy : RVal d b y) (hl : Le d d') (h : Le (bx q T (a ++ b)) d') : RVals d' (.slice (some ⟨q, 0, none⟩) 2 2) [x, y] := by
  obtain ⟨a0, a1, a2, a3, a4, a5, rfl⟩ := six hx.len
  obtain ⟨b0, b1, b2, b3, b4, b5, rfl⟩ := six hy.len
  have o := ORow.lit (sz := 6) (b := q) (T := T) (n := 2) (l := [a0, a1, a2, a3, a4, a5] ++ [b0, b1, b2, b3, b4, b5]) rfl (by omega)
  refine o.rsl (R := RVal) h rfl (by omega) (fun i hi => ?_)
  have hi2 : i < 2 := hi
  obtain rfl | rfl : i = 0 ∨ i = 1 := by omega
  · exact RVal.mono hl hx
  · exact RVal.mono hl hy
theorem rvals3 {d d' : PHeap} {q : Nat} {T : TypeId} {a b c : List Value} {x y z : V} (hx : RVal d a x) (hy : RVal d b y) (hz : RVal d c z) (hl : Le d d') (h : Le (bx q T (a ++ b ++ c)) d') : RVals d' (.slice (some ⟨q, 0, none⟩) 3 3) [x, y, z] := by
  obtain ⟨a0, a1, a2, a3, a4, a5, rfl⟩ := six hx.len
  obtain ⟨b0, b1, b2, b3, b4, b5, rfl⟩ := six hy.len
  obtain ⟨c0, c1, c2, c3, c4, c5, rfl⟩ := six hz.len
  have o := ORow.lit (sz := 6) (b := q) (T := T) (n := 3) (l := [a0, a1, a2, a3, a4, a5] ++ [b0, b1, b2, b3, b4, b5] ++ [c0, c1, c2, c3, c4, c5]) rfl (by omega)
  refine o.rsl (R := RVal) h rfl (by omega) (fun i hi => ?_)
  have hi2 : i < 3 := hi
  obtain rfl | rfl | rfl : i = 0 ∨ i = 1 ∨ i = 2 := by omega
  · exact RVal.mono hl hx
  · exact RVal.mono hl hy
  · exact RVal.mono hl hz
end Go.Gk.Val
end

section
/-
  Slices laid end to end: what comes out of it is data.
-/
namespace Go.Gk
open Go
section
variable {P : Program} {pan : List PanicEntry → Post} {Qn : Env → Post} {Ls L : List PHeap} {ρ : Env} {d : PHeap} {s : GS}
theorem w_appGF {α : Type} {sz by_ t : Nat} {R : PHeap → List Value → α → Prop} {z : List Value} {x y : Operand} {v w : Value} {xs ys : List α} {h : PHeap} (hR : Mono R) (ex : ev ρ x = v) (ho : GRow sz R d v xs h)
    (ey : ev ρ y = w) (hs : Src sz R d (Ls ++ (h :: L) ++ (h :: L)) w ys) (hsz : 0 < sz) (hm : xs.length + ys.length ≤ 140737488355328) (hb : (xs.length + ys.length) * by_ ≤ 140737488355328)
    (k : ∀ a c d', Le d d' → RSl sz R d' (.slice a (xs ++ ys).length c) (xs ++ ys) → gws P pan Qn s Ls (upd ρ t (.slice a (xs ++ ys).length c)) d' L) : gws P pan Qn (.op false ⟨some t, none, .app sz by_ z x y⟩ s) Ls ρ d (h :: L) := by
  obtain ⟨cs, h1, h2⟩ := ho
  obtain ⟨news, k1, k2, k3⟩ := hs
  have hl := h1.1
  refine w_appV 0 ex rfl h1 ey k1 k2 hsz hm hb (fun v' h' o => ⟨join d h', L, Vs.freeze, ?_⟩)
  have hg : GRow sz R d v' (xs ++ ys) h' := by
    refine ⟨cs ++ news, by rw [List.length_append]; exact o, fun j hj => ?_⟩
    by_cases e : j < xs.length
    · rw [chunk_app_left hl e, List.getElem_append_left e]; exact h2 j e
    · rw [chunk_app_right hl (by omega), List.getElem_append_right (by omega)]
      exact k3 _ (by simp at hj; omega)
  have hr := hg.rsl hR hsz (Le.join_left d h') (Le.join_right d h')
  obtain ⟨a, c, rfl⟩ := hr.val
  exact k a c _ (Le.join_left d h') hr
/-- A new slice, and two behind it. -/
theorem w_cat2 {α : Type} {sz by_ t0 t1 t2 : Nat} {R : PHeap → List Value → α → Prop} {z : List Value} {x y : Operand} {vx vy : Value} {xs ys : List α} (hR : Mono R) (hc : Cell1 R) (hsz : 0 < sz) (hne : (t0 == t1) = false)
    (rx : RSl sz R d vx xs) (ry : RSl sz R d vy ys) (ex : ∀ u, ev (upd ρ t0 u) x = vx) (ey : ∀ u w, ev (upd (upd ρ t0 u) t1 w) y = vy) (hb : (xs.length + ys.length) * by_ ≤ 140737488355328) (hm : xs.length + ys.length ≤ 140737488355328)
    (k : ∀ v0 v1 a c d', Le d d' → RSl sz R d' (.slice a (xs ++ ys).length c) (xs ++ ys) → gws P pan Qn s Ls (upd (upd (upd ρ t0 v0) t1 v1) t2 (.slice a (xs ++ ys).length c)) d' L) :
    gws P pan Qn (.op false ⟨some t0, none, .bsl 0 sz z []⟩ (.op false ⟨some t1, none, .app sz by_ z (.tmp t0) x⟩ (.op false ⟨some t2, none, .app sz by_ z (.tmp t1) y⟩ s))) Ls ρ d L := by
  have up : ∀ (ρ : Env) (t : Nat) (v : Value), ev (upd ρ t v) (.tmp t) = v := fun ρ t v => by simp [ev, upd]
  refine w_bsl (cs := []) (by simp) (by simp [Instr.fill, zrow]) (fun b T => ?_)
  have hm1 : xs.length * by_ ≤ 140737488355328 := Nat.le_trans (Nat.mul_le_mul_right _ (by omega)) hb
  refine w_appG (R := R) 0 (up _ _ _) rfl (GRow.lit0 (R := R) (sz := sz)) (ex _) (rx.src hc hsz _) hsz (by simp; omega) (by simpa using hm1) (fun v1 h1 o1 => ?_)
  rw [List.nil_append] at o1
  exact w_appGF (R := R) hR (up _ _ _) o1 (ey _ _) (ry.src hc hsz _) hsz hm hb (fun a c d' hl hr => k _ _ a c d' hl hr)
/-- A new slice and one behind it. -/
theorem w_cat1 {α : Type} {sz by_ t0 t1 : Nat} {R : PHeap → List Value → α → Prop} {z : List Value} {x : Operand} {vx : Value} {xs : List α} (hR : Mono R) (hc : Cell1 R) (hsz : 0 < sz)
    (rx : RSl sz R d vx xs) (ex : ∀ u, ev (upd ρ t0 u) x = vx) (hb : xs.length * by_ ≤ 140737488355328) (hm : xs.length ≤ 140737488355328)
    (k : ∀ v0 v1 h1, GRow sz R d v1 xs h1 → gws P pan Qn s Ls (upd (upd ρ t0 v0) t1 v1) d (h1 :: L)) :
    gws P pan Qn (.op false ⟨some t0, none, .bsl 0 sz z []⟩ (.op false ⟨some t1, none, .app sz by_ z (.tmp t0) x⟩ s)) Ls ρ d L := by
  have up : ∀ (ρ : Env) (t : Nat) (v : Value), ev (upd ρ t v) (.tmp t) = v := fun ρ t v => by simp [ev, upd]
  refine w_bsl (cs := []) (by simp) (by simp [Instr.fill, zrow]) (fun b T => ?_)
  refine w_appG (R := R) 0 (up _ _ _) rfl (GRow.lit0 (R := R) (sz := sz)) (ex _) (rx.src hc hsz _) hsz (by simp; omega) (by simpa using hb) (fun v1 h1 o1 => ?_)
  rw [List.nil_append] at o1
  exact k _ _ _ o1
/-- Two behind a slice of our own. -/
theorem w_app2 {α : Type} {sz by_ t1 t2 : Nat} {R : PHeap → List Value → α → Prop} {z : List Value} {x0 x y : Operand} {v0 vx vy : Value} {ws xs ys : List α} {h : PHeap} (hR : Mono R) (hc : Cell1 R) (hsz : 0 < sz)
    (ho : GRow sz R d v0 ws h) (rx : RSl sz R d vx xs) (ry : RSl sz R d vy ys) (e0 : ev ρ x0 = v0) (ex : ev ρ x = vx) (ey : ∀ u, ev (upd ρ t1 u) y = vy) (hb : (ws.length + xs.length + ys.length) * by_ ≤ 140737488355328) (hm : ws.length + xs.length + ys.length ≤ 140737488355328)
    (k : ∀ v1 a c d', Le d d' → RSl sz R d' (.slice a (ws ++ xs ++ ys).length c) (ws ++ xs ++ ys) → gws P pan Qn s Ls (upd (upd ρ t1 v1) t2 (.slice a (ws ++ xs ++ ys).length c)) d' L) :
    gws P pan Qn (.op false ⟨some t1, none, .app sz by_ z x0 x⟩ (.op false ⟨some t2, none, .app sz by_ z (.tmp t1) y⟩ s)) Ls ρ d (h :: L) := by
  have up : ∀ (ρ : Env) (t : Nat) (v : Value), ev (upd ρ t v) (.tmp t) = v := fun ρ t v => by simp [ev, upd]
  have hm1 : (ws.length + xs.length) * by_ ≤ 140737488355328 := Nat.le_trans (Nat.mul_le_mul_right _ (by omega)) hb
  refine w_appG (R := R) 0 e0 rfl ho ex (rx.src hc hsz _) hsz (by omega) hm1 (fun v1 h1 o1 => ?_)
  exact w_appGF (R := R) hR (up _ _ _) o1 (ey _) (ry.src hc hsz _) hsz (by rw [List.length_append]; exact hm) (by rw [List.length_append]; exact hb) (fun a c d' hl hr => k _ a c d' hl hr)
end
end Go.Gk
namespace Go.Gk
open Go
section
variable {P : Program} {pan : List PanicEntry → Post} {Qn : Env → Post} {Ls L : List PHeap} {ρ : Env} {d : PHeap} {s : GS} {t : Nat} {tk : Bool}
/-- A sum that may wrap: it is told where it does not. -/
theorem w_addn {x y : Operand} {a b : Int} (ex : ev ρ x = .int .i64 a) (ey : ev ρ y = .int .i64 b) (h : ∀ u, (-9223372036854775808 ≤ a + b → a + b ≤ 9223372036854775807 → u = a + b) → gws P pan Qn s Ls (upd ρ t (.int .i64 u)) d L) :
    gws P pan Qn (.op tk ⟨some t, none, .bin .add x y⟩ s) Ls ρ d L :=
  w_bin (by rw [ex, ey]; simp [binV]) (h (IntKind.i64.wrap (a + b)) (fun h1 h2 => wrap64_eq h1 h2))
end
end Go.Gk
namespace Go.Gk
open Go
theorem get_patch {l vs : List Value} {o k : Nat} (h : o + vs.length ≤ l.length) : (patch l o vs)[k]? = if o ≤ k ∧ k < o + vs.length then vs[k - o]? else l[k]? := by
  unfold patch
  have hl : (l.take o).length = o := by rw [List.length_take]; omega
  by_cases h1 : k < o
  · rw [if_neg (by omega), List.append_assoc, List.getElem?_append_left (by omega), List.getElem?_take_of_lt h1]
  by_cases h2 : k < o + vs.length
  · rw [if_pos ⟨by omega, h2⟩, List.getElem?_append_left (by rw [List.length_append]; omega), List.getElem?_append_right (by omega), hl]
  · rw [if_neg (by omega), List.getElem?_append_right (by rw [List.length_append]; omega), List.getElem?_drop, List.length_append, hl]
    congr 1; omega
theorem patch_len {l vs : List Value} {o : Nat} (h : o + vs.length ≤ l.length) : (patch l o vs).length = l.length := by
  unfold patch; simp only [List.length_append, List.length_take, List.length_drop]; omega
theorem take_patch {l vs : List Value} {o n : Nat} (h : o + vs.length ≤ n) (hn : n ≤ l.length) : (patch l o vs).take n = patch (l.take n) o vs := by
  refine List.ext_getElem? fun k => ?_
  have hl : (l.take n).length = n := by rw [List.length_take]; omega
  rw [get_patch (by omega)]
  by_cases hk : k < n
  · rw [List.getElem?_take_of_lt hk, List.getElem?_take_of_lt hk, get_patch (by omega)]
  · rw [if_neg (by omega), List.getElem?_eq_none (by rw [List.length_take]; omega), List.getElem?_eq_none (by omega)]
theorem get_chunk {cs : List Value} {i sz k : Nat} : (chunk cs i sz)[k]? = if k < sz then cs[i * sz + k]? else none := by
  unfold chunk
  by_cases h : k < sz
  · rw [List.getElem?_take_of_lt h, List.getElem?_drop, if_pos h]
  · rw [if_neg h, List.getElem?_eq_none (by rw [List.length_take]; omega)]
theorem chunk_patch {cs vs : List Value} {i m sz n : Nat} (hl : cs.length = n * sz) (hv : vs.length = sz) (hm : m < n) : chunk (patch cs (m * sz) vs) i sz = if i = m then vs else chunk cs i sz := by
  have h1 : m * sz + sz ≤ n * sz := by have := Nat.mul_le_mul_right sz (show m + 1 ≤ n from hm); rwa [Nat.add_mul, Nat.one_mul] at this
  refine List.ext_getElem? fun k => ?_
  rw [get_chunk]
  by_cases e : i = m
  · subst e
    rw [if_pos rfl]
    by_cases hk : k < sz
    · rw [if_pos hk, get_patch (by omega), if_pos (by omega)]
      congr 1; omega
    · rw [if_neg hk, List.getElem?_eq_none (by omega)]
  · rw [if_neg e, get_chunk]
    by_cases hk : k < sz
    · rw [if_pos hk, if_pos hk, get_patch (by omega), if_neg]
      rintro ⟨a, b⟩
      rcases Nat.lt_or_gt_of_ne e with q | q
      · have := Nat.mul_le_mul_right sz (show i + 1 ≤ m from q); rw [Nat.add_mul, Nat.one_mul] at this; omega
      · have := Nat.mul_le_mul_right sz (show m + 1 ≤ i from q); rw [Nat.add_mul, Nat.one_mul] at this; omega
    · rw [if_neg hk, if_neg hk]
/-- At the end of a part: a block becomes data. -/
theorem w_doneF {P : Program} {pan : List PanicEntry → Post} {Qn : Env → Post} {Ls : List PHeap} {ρ : Env} {d g : PHeap} (h : ∀ d', Le d d' → Le g d' → Qn ρ d' Ls) : gws P pan Qn .done Ls ρ d [g] :=
  ⟨join d g, Ls, (Vs.perm List.perm_append_comm : Vs d (Ls ++ [g]) d ([g] ++ Ls)).trans Vs.freeze, h _ (Le.join_left _ _) (Le.join_right _ _)⟩
/-- An element of a slice in a block of its own may be written. -/
theorem GRow.openV {α : Type} {sz : Nat} {R : PHeap → List Value → α → Prop} {d : PHeap} {v : Value} {xs : List α} {h : PHeap} (hsz : 0 < sz) (o : GRow sz R d v xs h) {m : Nat} (hm : m < xs.length) :
    ∃ b T l c, v = .slice (some ⟨b, 0, none⟩) xs.length c ∧ h = bx b T l ∧ m * sz + sz ≤ l.length ∧ ∀ cs' x, cs'.length = sz → R d cs' x → GRow sz R d v (xs.set m x) (bx b T (patch l (m * sz) cs')) := by
  obtain ⟨cs, ⟨h1, h2, ⟨rfl, h0, rfl⟩ | ⟨b, T, l, c, rfl, rfl, h3, h4, h5, h6⟩⟩, hr⟩ := o
  · omega
  · have hmz : m * sz + sz ≤ xs.length * sz := by have := Nat.mul_le_mul_right sz (show m + 1 ≤ xs.length from hm); rwa [Nat.add_mul, Nat.one_mul] at this
    have hcz : xs.length * sz ≤ c * sz := Nat.mul_le_mul_right sz h3
    refine ⟨b, T, l, c, rfl, rfl, by omega, fun cs' x hl hx => ⟨patch cs (m * sz) cs', ?_, fun i hi => ?_⟩⟩
    · have hp : (patch cs (m * sz) cs').length = cs.length := patch_len (by omega)
      refine ⟨by rw [hp, List.length_set, h1], by rw [List.length_set]; exact h2, .inr ⟨b, T, _, c, by rw [List.length_set], rfl, by rw [List.length_set]; exact h3, h4, by rw [patch_len (by omega)]; exact h5, ?_⟩⟩
      rw [hp, take_patch (by omega) (by omega), h6]
    · rw [chunk_patch h1 hl hm]
      rw [List.length_set] at hi
      by_cases e : i = m
      · subst e
        rw [if_pos rfl, List.getElem_set_self]; exact hx
      · rw [if_neg e, List.getElem_set_ne (fun q => e q.symm)]; exact hr i hi
end Go.Gk
end

section
/-
  Ways: the reference's value without what a step leads to.
-/
namespace Go.Gk.Val
open Go Go.Gk Go.Gk.Utf
attribute [local irreducible] gwp gws

def lessA (v : V) (s : St) : Int := if s.kind = 0 then (if s.text ∈ v.keys then (lowK v.keys s.text : Int) else -1) else placeF s.src v.list.length
theorem without_at {v : V} {s : St} (hone : oneB v = true) (k0 : v.kind ≠ 0) (hk : s.kind = 0 ∧ v.kind = 6 ∨ s.kind = 1 ∧ v.kind = 5 ∨ s.kind = 2 ∧ v.kind = 5) :
    ∃ (w : V) (a b : Int), withoutF v s = (w, 0) ∧ (s.kind ≠ 2 → a = lessA v s ∧ b = a + 1) ∧ (s.kind = 2 → a = (endsF s v.list.length).1 ∧ b = (endsF s v.list.length).2) ∧ ((a < 0 ∨ (v.list.length : Int) ≤ a) → w = v) ∧
      (∀ i j : Nat, a = i → b = j → i < v.list.length → i ≤ j ∧ j ≤ v.list.length ∧ w = .mk v.kind 0 0 [] (v.list.take i ++ v.list.drop j) (if s.kind = 0 then v.keys.take i ++ v.keys.drop j else [])) := by
  rcases hk with ⟨hs, hv⟩ | ⟨hs, hv⟩ | ⟨hs, hv⟩
  · have hl := one_keys hone hv
    rw [withoutF, if_neg k0, if_pos ⟨hs, hv⟩]
    refine ⟨_, lessA v s, lessA v s + 1, rfl, fun _ => ⟨rfl, rfl⟩, fun h => by omega, ?_, ?_⟩
    · by_cases hm : s.text ∈ v.keys
      · obtain ⟨hlo, _⟩ := (mem_iff (one_rising hone)).1 hm
        intro h
        simp only [lessA, if_pos hs, if_pos hm] at h
        omega
      · intro _; rw [if_neg hm]
    · intro i j hi hj hlt
      by_cases hm : s.text ∈ v.keys
      · simp only [lessA, if_pos hs, if_pos hm] at hi hj
        obtain rfl : i = lowK v.keys s.text := by omega
        obtain rfl : j = lowK v.keys s.text + 1 := by omega
        rw [if_pos hm, hv, if_pos hs, List.append_nil, List.append_nil]
        exact ⟨by omega, by omega, rfl⟩
      · simp only [lessA, if_pos hs, if_neg hm] at hi
        omega
  · rw [withoutF, if_neg k0, if_neg (fun h => by omega), if_pos ⟨hs, hv⟩]
    have e : lessA v s = placeF s.src v.list.length := by rw [lessA, if_neg (by omega)]
    refine ⟨_, lessA v s, lessA v s + 1, rfl, fun _ => ⟨rfl, rfl⟩, fun h => by omega, ?_, ?_⟩
    · intro h
      rw [e] at h
      rw [if_pos h]
    · intro i j hi hj hlt
      rw [e] at hi hj
      rw [if_neg (by omega), hi, hv, if_neg (by omega), Int.toNat_natCast, List.append_nil]
      obtain rfl : j = i + 1 := by omega
      exact ⟨by omega, by omega, rfl⟩
  · rw [withoutF, if_neg k0, if_neg (fun h => by omega), if_neg (fun h => by omega), if_pos ⟨hs, hv⟩]
    have he := ends_le s (k := v.list.length) (by omega)
    refine ⟨_, _, _, rfl, fun h => by omega, fun _ => ⟨rfl, rfl⟩, ?_, ?_⟩
    · intro h
      have h1 : (endsF s v.list.length).1 = v.list.length := by omega
      have h2 : (endsF s v.list.length).2 = v.list.length := by omega
      rw [h1, h2, Int.toNat_natCast, List.take_length, List.drop_length, List.append_nil, List.append_nil]
      obtain ⟨k, m, e, t, l, ks⟩ := v
      have hv : k = 5 := hv
      subst hv
      simp [oneB, bareB, V.kind, V.m, V.e, V.text, V.list, V.keys] at hone
      obtain ⟨⟨⟨⟨⟨⟨rfl, rfl⟩, rfl⟩, rfl⟩, _⟩, _⟩, _⟩ := hone
      rfl
    · intro i j hi hj hlt
      rw [hi, hj, Int.toNat_natCast, Int.toNat_natCast, List.append_nil, hv, if_neg (by omega)]
      exact ⟨by omega, by omega, rfl⟩
def RLessOk (P : Program) (f : FuncId) : Prop := ∀ {d : PHeap} {cs ds : List Value} {v : V} {s : St}, RVal d cs v → oneB v = true → RSt d ds s → 0 ≤ s.kind → s.kind ≤ 2 → cntV v ≤ 900000000 →
  GCall P f [.agg cs.toArray, .agg ds.toArray] d [] (Ret fun r d' L' => L' = [] ∧ ∃ cs', r = .tuple #[.agg cs'.toArray, .int .i64 (withoutF v s).2] ∧ RVal d' cs' (withoutF v s).1)
def g_thimbleref08_less (f_thimbleref08_key f_thimbleref08_ends : Nat) : GFun :=
 ⟨92, [(.cell 4 (some 6)), (.tmp 5)],
 (.seq
 (.reg false (.op false ⟨(some 2), none, (.box (.tmp 0))⟩
  (.op false ⟨(some 3), none, (.box (.tmp 1))⟩
  (.op false ⟨(some 4), none, (.alo (.agg #[(.int .i64 0), (.int .i64 0), (.int .i64 0), (strV []), (.slice none 0 0), (.slice none 0 0)]))⟩
  (.op false ⟨(some 5), none, (.mv (.const (.int .i64 0)))⟩ .done)))))
 (.seq
 (.reg false (.op false ⟨(some 10), none, (.bld [(0, 1), (1, 1), (2, 1)] [(.int .i64 0), (.int .i64 0), (.int .i64 0)] [(0, (.const (.int .i64 6))), (1, (.const (.int .i64 5))), (2, (.const (.int .i64 5)))])⟩
  (.op false ⟨(some 6), none, (.alo (.agg #[(.int .i64 0), (.int .i64 0), (.int .i64 0)]))⟩
  (.op false ⟨none, none, (.st 3 (.tmp 6) (.tmp 10))⟩ .done))))
 (.seq (.seq
 (.reg false (.op false ⟨(some 11), none, (.fld 0 (.tmp 2))⟩
  (.op false ⟨(some 12), none, (.ld none (.tmp 11))⟩
  (.op false ⟨(some 13), none, (.bin .eql (.tmp 12) (.const (.int .i64 0)))⟩ .done)))) (.cond (.tmp 13)
 (.seq
 (.reg false (.op false ⟨(some 14), none, (.ld (some 6) (.tmp 2))⟩
  (.op false ⟨none, none, (.st 6 (.tmp 4) (.tmp 14))⟩
  (.op false ⟨(some 5), none, (.mv (.const (.int .i64 0)))⟩ .done)))) .ret) .skip))
 (.seq (.seq
 (.reg true (.op true ⟨(some 15), none, (.fld 0 (.tmp 2))⟩
  (.op true ⟨(some 16), none, (.ld none (.tmp 15))⟩
  (.op true ⟨(some 17), none, (.fld 0 (.tmp 3))⟩
  (.op true ⟨(some 18), none, (.ld none (.tmp 17))⟩
  (.op true ⟨(some 19), none, (.idxa 3 1 (.tmp 6) (.tmp 18))⟩
  (.op true ⟨(some 20), none, (.ld none (.tmp 19))⟩
  (.op true ⟨(some 21), none, (.bin .neq (.tmp 16) (.tmp 20))⟩ .done)))))))) (.cond (.tmp 21)
 (.seq
 (.reg false (.op false ⟨(some 22), none, (.bld [(0, 1), (1, 2), (3, 1), (4, 1), (5, 1)] [(.int .i64 0), (.int .i64 0), (.int .i64 0), (strV []), (.slice none 0 0), (.slice none 0 0)] [])⟩
  (.op false ⟨none, none, (.st 6 (.tmp 4) (.tmp 22))⟩
  (.op false ⟨(some 5), none, (.mv (.const (.int .i64 80)))⟩ .done)))) .ret) .skip))
 (.seq
 (.reg false (.op false ⟨(some 23), none, (.fld 2 (.tmp 3))⟩
  (.op false ⟨(some 24), none, (.ld none (.tmp 23))⟩
  (.op false ⟨(some 7), none, (.mv (.tmp 24))⟩ .done))))
 (.seq (.seq
 (.reg false (.op false ⟨(some 25), none, (.fld 0 (.tmp 3))⟩
  (.op false ⟨(some 26), none, (.ld none (.tmp 25))⟩
  (.op false ⟨(some 27), none, (.bin .eql (.tmp 26) (.const (.int .i64 0)))⟩ .done)))) (.cond (.tmp 27)
 (.reg false (.op false ⟨(some 28), none, (.ld (some 6) (.tmp 2))⟩
  (.op false ⟨(some 29), none, (.fld 1 (.tmp 3))⟩
  (.op false ⟨(some 30), none, (.ld none (.tmp 29))⟩
  (.op false ⟨(some 31), none, (.call f_thimbleref08_key [(.tmp 28), (.tmp 30)])⟩
  (.op false ⟨(some 7), none, (.mv (.tmp 31))⟩ .done))))))
 (.seq
 (.reg false (.op false ⟨(some 32), none, (.mv (.tmp 7))⟩
  (.op false ⟨(some 33), none, (.bin .lss (.tmp 32) (.const (.int .i64 0)))⟩ .done))) (.cond (.tmp 33)
 (.reg false (.op false ⟨(some 34), none, (.mv (.tmp 7))⟩
  (.op false ⟨(some 35), none, (.fld 4 (.tmp 2))⟩
  (.op false ⟨(some 36), none, (.ld none (.tmp 35))⟩
  (.op false ⟨(some 37), none, (.len (.tmp 36))⟩
  (.op false ⟨(some 38), none, (.bin .add (.tmp 34) (.tmp 37))⟩
  (.op false ⟨(some 7), none, (.mv (.tmp 38))⟩ .done))))))) .skip))))
 (.seq
 (.reg false (.op false ⟨(some 39), none, (.mv (.tmp 7))⟩
  (.op false ⟨(some 40), none, (.bin .add (.tmp 39) (.const (.int .i64 1)))⟩
  (.op false ⟨(some 8), none, (.mv (.tmp 40))⟩ .done))))
 (.seq (.seq
 (.reg false (.op false ⟨(some 41), none, (.fld 0 (.tmp 3))⟩
  (.op false ⟨(some 42), none, (.ld none (.tmp 41))⟩
  (.op false ⟨(some 43), none, (.bin .eql (.tmp 42) (.const (.int .i64 2)))⟩ .done)))) (.cond (.tmp 43)
 (.reg false (.op false ⟨(some 45), none, (.ld (some 6) (.tmp 3))⟩
  (.op false ⟨(some 46), none, (.fld 4 (.tmp 2))⟩
  (.op false ⟨(some 47), none, (.ld none (.tmp 46))⟩
  (.op false ⟨(some 48), none, (.len (.tmp 47))⟩
  (.op false ⟨(some 49), none, (.call f_thimbleref08_ends [(.tmp 45), (.tmp 48)])⟩
  (.op false ⟨(some 44), none, (.mv (.tmp 49))⟩
  (.op false ⟨(some 50), none, (.ext (.tmp 44) 0)⟩
  (.op false ⟨(some 51), none, (.ext (.tmp 44) 1)⟩
  (.op false ⟨(some 7), none, (.mv (.tmp 50))⟩
  (.op false ⟨(some 8), none, (.mv (.tmp 51))⟩ .done))))))))))) .skip))
 (.seq (.seq
 (.reg false (.op false ⟨(some 52), none, (.mv (.tmp 7))⟩
  (.op false ⟨(some 53), none, (.bin .lss (.tmp 52) (.const (.int .i64 0)))⟩
  (.op false ⟨(some 54), none, (.mv (.tmp 53))⟩
  (.op false ⟨(some 55), (some (54, false)), (.mv (.tmp 7))⟩
  (.op false ⟨(some 56), (some (54, false)), (.fld 4 (.tmp 2))⟩
  (.op false ⟨(some 57), (some (54, false)), (.ld none (.tmp 56))⟩
  (.op false ⟨(some 58), (some (54, false)), (.len (.tmp 57))⟩
  (.op false ⟨(some 59), (some (54, false)), (.bin .geq (.tmp 55) (.tmp 58))⟩
  (.op false ⟨(some 60), none, (.pick (.tmp 54) (.const (.bool true)) (.tmp 59))⟩ .done)))))))))) (.cond (.tmp 60)
 (.seq
 (.reg false (.op false ⟨(some 61), none, (.ld (some 6) (.tmp 2))⟩
  (.op false ⟨none, none, (.st 6 (.tmp 4) (.tmp 61))⟩
  (.op false ⟨(some 5), none, (.mv (.const (.int .i64 0)))⟩ .done)))) .ret) .skip))
 (.seq
 (.reg true (.op true ⟨(some 62), none, (.fld 0 (.tmp 2))⟩
  (.op true ⟨(some 63), none, (.ld none (.tmp 62))⟩
  (.op true ⟨(some 65), none, (.fld 4 (.tmp 2))⟩
  (.op true ⟨(some 66), none, (.ld none (.tmp 65))⟩
  (.op true ⟨(some 67), none, (.mv (.tmp 7))⟩
  (.op true ⟨(some 68), none, (.sl 6 (.tmp 66) none (some (.tmp 67)) none)⟩
  (.op true ⟨(some 70), none, (.fld 4 (.tmp 2))⟩
  (.op true ⟨(some 71), none, (.ld none (.tmp 70))⟩
  (.op true ⟨(some 72), none, (.mv (.tmp 8))⟩
  (.op true ⟨(some 73), none, (.sl 6 (.tmp 71) (some (.tmp 72)) none none)⟩ (.par (.op false ⟨(some 64), none, (.bsl 0 6 [(.int .i64 0), (.int .i64 0), (.int .i64 0), (strV []), (.slice none 0 0), (.slice none 0 0)] [])⟩
  (.op false ⟨(some 69), none, (.app 6 88 [(.int .i64 0), (.int .i64 0), (.int .i64 0), (strV []), (.slice none 0 0), (.slice none 0 0)] (.tmp 64) (.tmp 68))⟩
  (.op false ⟨(some 74), none, (.app 6 88 [(.int .i64 0), (.int .i64 0), (.int .i64 0), (strV []), (.slice none 0 0), (.slice none 0 0)] (.tmp 69) (.tmp 73))⟩
  (.op true ⟨(some 75), none, (.bld [(0, 1), (1, 2), (3, 1), (4, 1), (5, 1)] [(.int .i64 0), (.int .i64 0), (.int .i64 0), (strV []), (.slice none 0 0), (.slice none 0 0)] [(0, (.tmp 63)), (3, (.tmp 74))])⟩ .done)))) (.op false ⟨(some 9), none, (.alo (.agg #[(.int .i64 0), (.int .i64 0), (.int .i64 0), (strV []), (.slice none 0 0), (.slice none 0 0)]))⟩ .done) (.bar (.op false ⟨none, none, (.st 6 (.tmp 9) (.tmp 75))⟩ .done))))))))))))))
 (.seq (.seq
 (.reg false (.op false ⟨(some 76), none, (.fld 0 (.tmp 3))⟩
  (.op false ⟨(some 77), none, (.ld none (.tmp 76))⟩
  (.op false ⟨(some 78), none, (.bin .eql (.tmp 77) (.const (.int .i64 0)))⟩ .done)))) (.cond (.tmp 78)
 (.reg true (.op true ⟨(some 80), none, (.fld 5 (.tmp 2))⟩
  (.op true ⟨(some 81), none, (.ld none (.tmp 80))⟩
  (.op true ⟨(some 82), none, (.mv (.tmp 7))⟩
  (.op true ⟨(some 83), none, (.sl 1 (.tmp 81) none (some (.tmp 82)) none)⟩
  (.op true ⟨(some 85), none, (.fld 5 (.tmp 2))⟩
  (.op true ⟨(some 86), none, (.ld none (.tmp 85))⟩
  (.op true ⟨(some 87), none, (.mv (.tmp 8))⟩
  (.op true ⟨(some 88), none, (.sl 1 (.tmp 86) (some (.tmp 87)) none none)⟩
  (.op false ⟨(some 79), none, (.bsl 0 1 [(strV [])] [])⟩
  (.op false ⟨(some 84), none, (.app 1 16 [(strV [])] (.tmp 79) (.tmp 83))⟩
  (.op false ⟨(some 89), none, (.app 1 16 [(strV [])] (.tmp 84) (.tmp 88))⟩
  (.op true ⟨(some 90), none, (.fld 5 (.tmp 9))⟩
  (.bar (.op false ⟨none, none, (.st 1 (.tmp 90) (.tmp 89))⟩ .done))))))))))))))) .skip))
 (.seq
 (.reg false (.op false ⟨(some 91), none, (.ld (some 6) (.tmp 9))⟩
  (.op false ⟨none, none, (.st 6 (.tmp 4) (.tmp 91))⟩
  (.op false ⟨(some 5), none, (.mv (.const (.int .i64 0)))⟩ .done)))) .ret))))))))))))⟩

set_option maxHeartbeats 2000000 in
theorem rless_ok {P : Program} {f f1 f2 : FuncId} (hd : decp P f = some (g_thimbleref08_less f1 f2)) (h1 : KeyOk P f1) (h2 : EndsOk P f2) : RLessOk P f := by
  intro d cs ds v s hv hone hs hs0 hs2 hb
  refine GCall_of hd (Nat.le_of_ble_eq_true rfl) ?_
  have hr := one_rising hone
  have b1 := cnt_list (v := v)
  have b2' := cnt_keys (v := v)
  have hs' := hs
  obtain ⟨hds, ik', it', is, id⟩ := hs'
  subst hds
  have hv0 := hv
  obtain ⟨lv, kv, rfl, ik, im, ie, it, hl, hks⟩ := hv.open
  obtain ⟨la, lc, rfl⟩ := RSl.val hl
  obtain ⟨ka, kc, rfl⟩ := RSl.val hks
  have n1 := RSl.len_le hl
  show gwp P _ _ _ _ _
  apply w_sq; apply w_reg
  refine w_boxa (l := [.int .i64 v.kind, .int .i64 v.m, .int .i64 v.e, strV v.text, .slice la v.list.length lc, .slice ka v.keys.length kc]) rfl (fun b2 T2 => ?_)
  refine w_boxa (l := [.int .i64 s.kind, strV s.text, .int .i64 s.src, .int .i64 s.dst, .bool s.hf, .bool s.ht]) rfl (fun b3 T3 => ?_)
  (apply w_alo; intro _ _; apply w_mvi; rfl; apply w_done0)
  rename_i b4 T4
  apply w_sq; apply w_reg
  refine w_bld (cs := [.int .i64 6, .int .i64 5, .int .i64 5]) rfl ?_
  (apply w_alo; intro _ _)
  rename_i b6 T6
  refine w_stE 0 [.int .i64 6, .int .i64 5, .int .i64 5] rfl rfl rfl rfl (Nat.le_of_ble_eq_true rfl) rfl rfl ?_
  (apply w_done0)
  by_cases k0 : v.kind = 0
  · obtain ⟨w, e, hF⟩ : ∃ w e, withoutF v s = (w, e) := ⟨_, _, rfl⟩
    rw [hF]
    rw [withoutF, if_pos k0] at hF; cases hF
    (apply w_sq; apply w_sq; apply w_reg; apply w_fld; rfl; apply w_ld; rfl; exact hc_i 3 rfl rfl; apply w_eql; rfl; rfl; apply w_done0; refine w_ifdT rfl (by omega) ?_; apply w_sq; apply w_reg; apply w_ldb 3; rfl; rfl; rfl)
    refine w_stE 1 [.int .i64 v.kind, .int .i64 v.m, .int .i64 v.e, strV v.text, .slice la v.list.length lc, .slice ka v.keys.length kc] rfl rfl rfl rfl (Nat.le_of_ble_eq_true rfl) rfl rfl ?_
    (apply w_mvi; rfl; apply w_done0; apply w_ret)
    exact finVDE 1 rfl rfl rfl hv0
  have hk3 : s.kind = 0 ∨ s.kind = 1 ∨ s.kind = 2 := by omega
  (apply w_sq; apply w_sq; apply w_reg; apply w_fld; rfl; apply w_ld; rfl; exact hc_i 3 rfl rfl; apply w_eql; rfl; rfl; apply w_done0; refine w_ifdF rfl (by omega) ?_)
  apply w_skip
  refine w_mid (fun ρ d' L' => d' = d ∧ (s.kind = 0 ∧ v.kind = 6 ∨ s.kind = 1 ∧ v.kind = 5 ∨ s.kind = 2 ∧ v.kind = 5) ∧ SlotsAre ρ [(2, .pointer (some ⟨b2, 0, none⟩)), (3, .pointer (some ⟨b3, 0, none⟩)), (4, .pointer (some ⟨b4, 0, none⟩))] ∧ L' = [bx b6 T6 [.int .i64 6, .int .i64 5, .int .i64 5], bx b4 T4 zVal, bx b3 T3 [.int .i64 s.kind, strV s.text, .int .i64 s.src, .int .i64 s.dst, .bool s.hf, .bool s.ht], bx b2 T2 [.int .i64 v.kind, .int .i64 v.m, .int .i64 v.e, strV v.text, .slice la v.list.length lc, .slice ka v.keys.length kc]]) ?_ ?_
  · have fin : ∀ {ρ : Env}, ¬(s.kind = 0 ∧ v.kind = 6) → ¬(s.kind = 1 ∧ v.kind = 5) → ¬(s.kind = 2 ∧ v.kind = 5) → ρ 4 = .pointer (some ⟨b4, 0, none⟩) → ρ 5 = .int .i64 80 →
      retPost [.cell 4 (some 6), .tmp 5] (Ret fun r d' L' => L' = [] ∧ ∃ cs', r = .tuple #[.agg cs'.toArray, .int .i64 (withoutF v s).2] ∧ RVal d' cs' (withoutF v s).1) ρ d [bx b6 T6 [.int .i64 6, .int .i64 5, .int .i64 5], bx b4 T4 zVal, bx b3 T3 [.int .i64 s.kind, strV s.text, .int .i64 s.src, .int .i64 s.dst, .bool s.hf, .bool s.ht], bx b2 T2 [.int .i64 v.kind, .int .i64 v.m, .int .i64 v.e, strV v.text, .slice la v.list.length lc, .slice ka v.keys.length kc]] := by
      intro ρ q0 q1 q2 e4 e5
      rw [withoutF, if_neg k0, if_neg q0, if_neg q1, if_neg q2]
      exact finVDE 1 e4 rfl e5 RVal.zero
    rcases hk3 with s0 | s1 | s2
    · by_cases v6 : v.kind = 6
      · (apply w_sq; apply w_drawn; apply w_fld; rfl; apply w_ld; rfl; exact hc_i 3 rfl rfl; apply w_fld; rfl; apply w_ld; rfl; exact hc_i 2 rfl rfl)
        refine w_idxa 0 rfl rfl (by omega) (by omega) ?_
        (apply w_ld; rfl; exact hc_i 0 rfl rfl; apply w_neq; rfl; rfl; apply w_done; refine w_ifdF rfl (by omega) ?_; apply w_skip)
        exact ⟨rfl, .inl ⟨s0, v6⟩, ⟨rfl, rfl, rfl, trivial⟩, rfl⟩
      · (apply w_sq; apply w_drawn; apply w_fld; rfl; apply w_ld; rfl; exact hc_i 3 rfl rfl; apply w_fld; rfl; apply w_ld; rfl; exact hc_i 2 rfl rfl)
        refine w_idxa 0 rfl rfl (by omega) (by omega) ?_
        (apply w_ld; rfl; exact hc_i 0 rfl rfl; apply w_neq; rfl; rfl; apply w_done; refine w_ifdT rfl (by omega) ?_; apply w_sq; apply w_reg; apply w_bvZ)
        refine w_stE 1 zVal rfl rfl rfl rfl (Nat.le_of_ble_eq_true rfl) rfl rfl ?_
        (apply w_mvi; rfl; apply w_done0; apply w_ret)
        exact fin (by omega) (by omega) (by omega) rfl rfl
    · by_cases v6 : v.kind = 5
      · (apply w_sq; apply w_drawn; apply w_fld; rfl; apply w_ld; rfl; exact hc_i 3 rfl rfl; apply w_fld; rfl; apply w_ld; rfl; exact hc_i 2 rfl rfl)
        refine w_idxa 1 rfl rfl (by omega) (by omega) ?_
        (apply w_ld; rfl; exact hc_i 0 rfl rfl; apply w_neq; rfl; rfl; apply w_done; refine w_ifdF rfl (by omega) ?_; apply w_skip)
        exact ⟨rfl, .inr (.inl ⟨s1, v6⟩), ⟨rfl, rfl, rfl, trivial⟩, rfl⟩
      · (apply w_sq; apply w_drawn; apply w_fld; rfl; apply w_ld; rfl; exact hc_i 3 rfl rfl; apply w_fld; rfl; apply w_ld; rfl; exact hc_i 2 rfl rfl)
        refine w_idxa 1 rfl rfl (by omega) (by omega) ?_
        (apply w_ld; rfl; exact hc_i 0 rfl rfl; apply w_neq; rfl; rfl; apply w_done; refine w_ifdT rfl (by omega) ?_; apply w_sq; apply w_reg; apply w_bvZ)
        refine w_stE 1 zVal rfl rfl rfl rfl (Nat.le_of_ble_eq_true rfl) rfl rfl ?_
        (apply w_mvi; rfl; apply w_done0; apply w_ret)
        exact fin (by omega) (by omega) (by omega) rfl rfl
    · by_cases v6 : v.kind = 5
      · (apply w_sq; apply w_drawn; apply w_fld; rfl; apply w_ld; rfl; exact hc_i 3 rfl rfl; apply w_fld; rfl; apply w_ld; rfl; exact hc_i 2 rfl rfl)
        refine w_idxa 2 rfl rfl (by omega) (by omega) ?_
        (apply w_ld; rfl; exact hc_i 0 rfl rfl; apply w_neq; rfl; rfl; apply w_done; refine w_ifdF rfl (by omega) ?_; apply w_skip)
        exact ⟨rfl, .inr (.inr ⟨s2, v6⟩), ⟨rfl, rfl, rfl, trivial⟩, rfl⟩
      · (apply w_sq; apply w_drawn; apply w_fld; rfl; apply w_ld; rfl; exact hc_i 3 rfl rfl; apply w_fld; rfl; apply w_ld; rfl; exact hc_i 2 rfl rfl)
        refine w_idxa 2 rfl rfl (by omega) (by omega) ?_
        (apply w_ld; rfl; exact hc_i 0 rfl rfl; apply w_neq; rfl; rfl; apply w_done; refine w_ifdT rfl (by omega) ?_; apply w_sq; apply w_reg; apply w_bvZ)
        refine w_stE 1 zVal rfl rfl rfl rfl (Nat.le_of_ble_eq_true rfl) rfl rfl ?_
        (apply w_mvi; rfl; apply w_done0; apply w_ret)
        exact fin (by omega) (by omega) (by omega) rfl rfl
  rintro ρ d' L' ⟨hdd, hk, hsl, hL⟩
  subst hdd; subst hL
  refine gwp_slots _ hsl ?_
  clear hsl
  obtain ⟨w, a, b, hF, hab, hab2, hout, hin⟩ := without_at hone k0 hk
  rw [hF]
  have is1 : -9223372036854775808 ≤ s.src := is.1
  have is2 : s.src ≤ 9223372036854775807 := is.2
  apply w_sq; apply w_reg
  (apply w_fld; rfl; apply w_ld; rfl; exact hc_i 2 rfl rfl; apply w_mvi; rfl; apply w_done0)
  refine w_mid (fun ρ d2 L' => d2 = d' ∧ ∃ a' : Int, (s.kind ≠ 2 → a' = a) ∧ SlotsAre ρ [(2, .pointer (some ⟨b2, 0, none⟩)), (3, .pointer (some ⟨b3, 0, none⟩)), (4, .pointer (some ⟨b4, 0, none⟩)), (7, .int .i64 a')] ∧ L' = [bx b6 T6 [.int .i64 6, .int .i64 5, .int .i64 5], bx b4 T4 zVal, bx b3 T3 [.int .i64 s.kind, strV s.text, .int .i64 s.src, .int .i64 s.dst, .bool s.hf, .bool s.ht], bx b2 T2 [.int .i64 v.kind, .int .i64 v.m, .int .i64 v.e, strV v.text, .slice la v.list.length lc, .slice ka v.keys.length kc]]) ?_ ?_
  · rcases hk3 with s0 | s1 | s2
    · (apply w_sq; apply w_reg; apply w_fld; rfl; apply w_ld; rfl; exact hc_i 2 rfl rfl; apply w_eql; rfl; rfl; apply w_done0; refine w_ifdT rfl (by omega) ?_; apply w_reg; apply w_ldb 3; rfl; rfl; rfl; apply w_fld; rfl; apply w_ld; rfl; exact hc_i 2 rfl rfl)
      refine w_pure rfl (h1 hv0 hr) ?_
      (apply w_mvi; rfl; apply w_done0)
      exact ⟨rfl, _, fun h => by rw [(hab h).1, lessA, if_pos s0], ⟨rfl, rfl, rfl, rfl, trivial⟩, rfl⟩
    · by_cases q : s.src < 0
      · (apply w_sq; apply w_reg; apply w_fld; rfl; apply w_ld; rfl; exact hc_i 2 rfl rfl; apply w_eql; rfl; rfl; apply w_done0; refine w_ifdF rfl (by omega) ?_; apply w_sq; apply w_reg; apply w_mvi; rfl; apply w_lss; rfl; rfl; apply w_done0; refine w_ifdT rfl (by omega) ?_; apply w_reg; apply w_mvi; rfl; apply w_fld; rfl; apply w_ld; rfl; exact hc_i 3 rfl rfl; apply w_len; rfl; apply w_add; rfl; rfl; omega; omega; apply w_mvi; rfl; apply w_done0)
        exact ⟨rfl, _, fun h => by rw [(hab h).1, lessA, if_neg (by omega), placeF, if_pos q], ⟨rfl, rfl, rfl, rfl, trivial⟩, rfl⟩
      · (apply w_sq; apply w_reg; apply w_fld; rfl; apply w_ld; rfl; exact hc_i 2 rfl rfl; apply w_eql; rfl; rfl; apply w_done0; refine w_ifdF rfl (by omega) ?_; apply w_sq; apply w_reg; apply w_mvi; rfl; apply w_lss; rfl; rfl; apply w_done0; refine w_ifdF rfl (by omega) ?_; apply w_skip)
        exact ⟨rfl, _, fun h => by rw [(hab h).1, lessA, if_neg (by omega), placeF, if_neg q], ⟨rfl, rfl, rfl, rfl, trivial⟩, rfl⟩
    · by_cases q : s.src < 0
      · (apply w_sq; apply w_reg; apply w_fld; rfl; apply w_ld; rfl; exact hc_i 2 rfl rfl; apply w_eql; rfl; rfl; apply w_done0; refine w_ifdF rfl (by omega) ?_; apply w_sq; apply w_reg; apply w_mvi; rfl; apply w_lss; rfl; rfl; apply w_done0; refine w_ifdT rfl (by omega) ?_; apply w_reg; apply w_mvi; rfl; apply w_fld; rfl; apply w_ld; rfl; exact hc_i 3 rfl rfl; apply w_len; rfl; apply w_add; rfl; rfl; omega; omega; apply w_mvi; rfl; apply w_done0)
        exact ⟨rfl, _, fun h => absurd s2 h, ⟨rfl, rfl, rfl, rfl, trivial⟩, rfl⟩
      · (apply w_sq; apply w_reg; apply w_fld; rfl; apply w_ld; rfl; exact hc_i 2 rfl rfl; apply w_eql; rfl; rfl; apply w_done0; refine w_ifdF rfl (by omega) ?_; apply w_sq; apply w_reg; apply w_mvi; rfl; apply w_lss; rfl; rfl; apply w_done0; refine w_ifdF rfl (by omega) ?_; apply w_skip)
        exact ⟨rfl, _, fun h => absurd s2 h, ⟨rfl, rfl, rfl, rfl, trivial⟩, rfl⟩
  rintro ρ d2 L' ⟨hdd, a', ha', hsl, hL⟩
  subst hdd; subst hL
  refine gwp_slots _ hsl ?_
  clear hsl
  apply w_sq; apply w_reg
  (apply w_mvi; rfl)
  refine w_addn rfl rfl (fun u hu => ?_)
  (apply w_mvi; rfl; apply w_done0)
  refine w_mid (fun ρ d' L' => d' = d2 ∧ ∃ b' : Int, (a < v.list.length → b' = b) ∧ SlotsAre ρ [(2, .pointer (some ⟨b2, 0, none⟩)), (3, .pointer (some ⟨b3, 0, none⟩)), (4, .pointer (some ⟨b4, 0, none⟩)), (7, .int .i64 a), (8, .int .i64 b')] ∧ L' = [bx b6 T6 [.int .i64 6, .int .i64 5, .int .i64 5], bx b4 T4 zVal, bx b3 T3 [.int .i64 s.kind, strV s.text, .int .i64 s.src, .int .i64 s.dst, .bool s.hf, .bool s.ht], bx b2 T2 [.int .i64 v.kind, .int .i64 v.m, .int .i64 v.e, strV v.text, .slice la v.list.length lc, .slice ka v.keys.length kc]]) ?_ ?_
  · by_cases s2 : s.kind = 2
    · have hends := ends_le s (k := v.list.length) (by omega)
      (apply w_sq; apply w_reg; apply w_fld; rfl; apply w_ld; rfl; exact hc_i 2 rfl rfl; apply w_eql; rfl; rfl; apply w_done0; refine w_ifdT rfl (by omega) ?_; apply w_reg; apply w_ldb 2; rfl; rfl; rfl; apply w_fld; rfl; apply w_ld; rfl; exact hc_i 3 rfl rfl; apply w_len; rfl)
      refine w_pure rfl (h2 hs (by omega) (by omega)) ?_
      (apply w_mvu; rfl; apply w_ext; rfl; rfl; apply w_ext; rfl; rfl; apply w_mvi; rfl; apply w_mvi; rfl; apply w_done0)
      exact ⟨rfl, _, fun _ => (hab2 s2).2.symm, ⟨rfl, rfl, rfl, int_eq (hab2 s2).1.symm, rfl, trivial⟩, rfl⟩
    · obtain rfl := ha' s2
      have hu' : a' < v.list.length → u = b := fun h => by
        have := (hab s2)
        rw [this.2]
        refine hu ?_ (by omega)
        rw [this.1, lessA]
        split
        · split <;> omega
        · rw [placeF]; split <;> omega
      (apply w_sq; apply w_reg; apply w_fld; rfl; apply w_ld; rfl; exact hc_i 2 rfl rfl; apply w_eql; rfl; rfl; apply w_done0; refine w_ifdF rfl (by omega) ?_; apply w_skip)
      exact ⟨rfl, _, hu', ⟨rfl, rfl, rfl, rfl, rfl, trivial⟩, rfl⟩
  rintro ρ d' L' ⟨hdd, b', hb', hsl, hL⟩
  subst hdd; subst hL
  refine gwp_slots _ hsl ?_
  clear hsl ha' hu u a'
  by_cases q0 : a < 0
  · rw [hout (.inl q0)]
    (apply w_sq; apply w_sq; apply w_reg; apply w_mvi; rfl; apply w_lss; rfl; rfl; apply w_mvb; rfl; refine w_gdT rfl (by omega) ?_; apply w_gF; rfl; apply w_gF; rfl; apply w_gF; rfl; apply w_gF; rfl; apply w_gF; rfl; apply w_pickTb; rfl; rfl; apply w_done0; apply w_ifT; rfl; apply w_sq; apply w_reg; apply w_ldb 3; rfl; rfl; rfl)
    refine w_stE 1 [.int .i64 v.kind, .int .i64 v.m, .int .i64 v.e, strV v.text, .slice la v.list.length lc, .slice ka v.keys.length kc] rfl rfl rfl rfl (Nat.le_of_ble_eq_true rfl) rfl rfl ?_
    (apply w_mvi; rfl; apply w_done0; apply w_ret)
    exact finVDE 1 rfl rfl rfl hv0
  by_cases q1 : (v.list.length : Int) ≤ a
  · rw [hout (.inr q1)]
    (apply w_sq; apply w_sq; apply w_reg; apply w_mvi; rfl; apply w_lss; rfl; rfl; apply w_mvb; rfl; refine w_gdF rfl (by omega) ?_; apply w_gT; rfl; apply w_mvi; rfl; apply w_gT; rfl; apply w_fld; rfl; apply w_gT; rfl; apply w_ld; rfl; exact hc_i 3 rfl rfl; apply w_gT; rfl; apply w_len; rfl; apply w_gT; rfl; apply w_geq; rfl; rfl; apply w_pickFb; rfl; rfl; apply w_done0; refine w_ifdT rfl (by omega) ?_; apply w_sq; apply w_reg; apply w_ldb 3; rfl; rfl; rfl)
    refine w_stE 1 [.int .i64 v.kind, .int .i64 v.m, .int .i64 v.e, strV v.text, .slice la v.list.length lc, .slice ka v.keys.length kc] rfl rfl rfl rfl (Nat.le_of_ble_eq_true rfl) rfl rfl ?_
    (apply w_mvi; rfl; apply w_done0; apply w_ret)
    exact finVDE 1 rfl rfl rfl hv0
  obtain rfl := hb' (by omega)
  have hab3 : a ≤ b' ∧ 0 ≤ b' := by
    by_cases s2 : s.kind = 2
    · have := ends_le s (k := v.list.length) (by omega)
      have := hab2 s2; omega
    · have := hab s2; omega
  obtain ⟨i, rfl⟩ : ∃ i : Nat, a = (i : Int) := ⟨a.toNat, by omega⟩
  obtain ⟨j, rfl⟩ : ∃ j : Nat, b' = (j : Int) := ⟨b'.toNat, by omega⟩
  obtain ⟨hij, hj, rfl⟩ := hin i j rfl rfl (by omega)
  clear hout hin hb'
  (apply w_sq; apply w_sq; apply w_reg; apply w_mvi; rfl; apply w_lss; rfl; rfl; apply w_mvb; rfl; refine w_gdF rfl (by omega) ?_; apply w_gT; rfl; apply w_mvi; rfl; apply w_gT; rfl; apply w_fld; rfl; apply w_gT; rfl; apply w_ld; rfl; exact hc_i 3 rfl rfl; apply w_gT; rfl; apply w_len; rfl; apply w_gT; rfl; apply w_geq; rfl; rfl; apply w_pickFb; rfl; rfl; apply w_done0; refine w_ifdF rfl (by omega) ?_; apply w_skip; apply w_sq)
  refine w_drawn ?_
  (apply w_fld; rfl; apply w_ld; rfl; exact hc_i 3 rfl rfl; apply w_fld; rfl; apply w_ld; rfl; exact hc_i 3 rfl rfl; apply w_mvi; rfl)
  refine w_slTo (n := i) rfl hl rfl rfl (by omega) (fun v68 r68 => ?_)
  (apply w_fld; rfl; apply w_ld; rfl; exact hc_i 3 rfl rfl; apply w_mvi; rfl)
  refine w_slFrom (n := j) rfl hl rfl rfl (by omega) (fun v73 r73 => ?_)
  refine w_par (α := Option Addr × Nat) (β := Nat × TypeId) [(2, .pointer (some ⟨b2, 0, none⟩)), (3, .pointer (some ⟨b3, 0, none⟩)), (4, .pointer (some ⟨b4, 0, none⟩)), (7, .int .i64 i), (8, .int .i64 j)] (fun x => [(75, .agg [.int .i64 v.kind, .int .i64 0, .int .i64 0, strV [], .slice x.1 (v.list.take i ++ v.list.drop j).length x.2, .slice none 0 0].toArray)])
    (fun x d L => RVals d (.slice x.1 (v.list.take i ++ v.list.drop j).length x.2) (v.list.take i ++ v.list.drop j) ∧ L = []) (fun y => [(9, .pointer (some ⟨y.1, 0, none⟩))]) (fun y d L => L = [bx y.1 y.2 zVal]) [] [] rfl
    (fun x d d' M hl h => ⟨RVals.mono h.1 hl, h.2⟩) (fun y d d' M hl h => h) (fun x => rfl) (fun y => rfl) rfl ⟨rfl, rfl, rfl, rfl, rfl, trivial⟩ ?_ ?_ ?_
  · refine w_cat2 (R := RVal) (xs := v.list.take i) (ys := v.list.drop j) mono_val cell1_val (by omega) rfl r68 r73 (fun _ => rfl) (fun _ _ => rfl) (by simp; omega) (by simp; omega) (fun v0 v1 a c d3 hl3 hr3 => ?_)
    refine w_bvKL rfl rfl ?_
    refine w_done ?_
    exact ⟨[], rfl, (a, c), ⟨rfl, trivial⟩, hr3, rfl⟩
  · (apply w_alo; intro _ _; apply w_done)
    exact ⟨_, rfl, (_, _), ⟨rfl, trivial⟩, rfl⟩
  rintro ⟨ra, rc⟩ ⟨b9, T9⟩ ρ d3 M1 M2 hl3 ⟨hr3, hM1⟩ hM2
  subst hM1; subst hM2
  (apply w_bar)
  refine w_stE 4 [.int .i64 v.kind, .int .i64 0, .int .i64 0, strV [], .slice ra (v.list.take i ++ v.list.drop j).length rc, .slice none 0 0] rfl rfl rfl rfl (Nat.le_of_ble_eq_true rfl) rfl rfl ?_
  have hks3 : RSl 1 RStr d3 (.slice ka v.keys.length kc) v.keys := RStrs.mono hks hl3
  by_cases s0 : s.kind = 0
  · rw [if_pos s0]
    have hlens := one_keys hone (by omega)
    (apply w_done0; apply w_sq; apply w_sq; apply w_reg; apply w_fld; rfl; apply w_ld; rfl; exact hc_i 2 rfl rfl; apply w_eql; rfl; rfl; apply w_done0; refine w_ifdT rfl (by omega) ?_)
    refine w_drawn ?_
    (apply w_fld; rfl; apply w_ld; rfl; exact hc_i 3 rfl rfl; apply w_mvi; rfl)
    refine w_slTo (n := i) rfl hks3 rfl rfl (by omega) (fun v83 r83 => ?_)
    (apply w_fld; rfl; apply w_ld; rfl; exact hc_i 3 rfl rfl; apply w_mvi; rfl)
    refine w_slFrom (n := j) rfl hks3 rfl rfl (by omega) (fun v88 r88 => ?_)
    refine w_cat2 (R := RStr) (xs := v.keys.take i) (ys := v.keys.drop j) mono_str cell1_str (by omega) rfl r83 r88 (fun _ => rfl) (fun _ _ => rfl) (by simp; omega) (by simp; omega) (fun v0 v1 a c d4 hl4 hr4 => ?_)
    (apply w_fld; rfl; apply w_bar)
    refine w_stE 4 [.int .i64 v.kind, .int .i64 0, .int .i64 0, strV [], .slice ra (v.list.take i ++ v.list.drop j).length rc, .slice a (v.keys.take i ++ v.keys.drop j).length c] rfl rfl rfl rfl (Nat.le_of_ble_eq_true rfl) rfl rfl ?_
    (apply w_done0; apply w_sq; apply w_reg; apply w_ldb 4; rfl; rfl; rfl)
    refine w_stE 1 [.int .i64 v.kind, .int .i64 0, .int .i64 0, strV [], .slice ra (v.list.take i ++ v.list.drop j).length rc, .slice a (v.keys.take i ++ v.keys.drop j).length c] rfl rfl rfl rfl (Nat.le_of_ble_eq_true rfl) rfl rfl ?_
    (apply w_mvi; rfl; apply w_done0; apply w_ret)
    exact finVDE 1 rfl rfl rfl (RVal.close (v := .mk v.kind 0 0 [] (v.list.take i ++ v.list.drop j) (v.keys.take i ++ v.keys.drop j)) ik i64_0 i64_0 (by simp) (RVals.mono hr3 hl4) hr4)
  · rw [if_neg s0]
    (apply w_done0; apply w_sq; apply w_sq; apply w_reg; apply w_fld; rfl; apply w_ld; rfl; exact hc_i 2 rfl rfl; apply w_eql; rfl; rfl; apply w_done0; refine w_ifdF rfl (by omega) ?_; apply w_skip; apply w_sq; apply w_reg; apply w_ldb 4; rfl; rfl; rfl)
    refine w_stE 1 [.int .i64 v.kind, .int .i64 0, .int .i64 0, strV [], .slice ra (v.list.take i ++ v.list.drop j).length rc, .slice none 0 0] rfl rfl rfl rfl (Nat.le_of_ble_eq_true rfl) rfl rfl ?_
    (apply w_mvi; rfl; apply w_done0; apply w_ret)
    exact finVDE 1 rfl rfl rfl (RVal.close (v := .mk v.kind 0 0 [] (v.list.take i ++ v.list.drop j) []) ik i64_0 i64_0 (by simp) hr3 RSl.nil)
end Go.Gk.Val
end

section
/-
  Values: the reference's objects of keys and values.
-/
namespace Go.Gk.Val
open Go Go.Gk Go.Gk.Utf
attribute [local irreducible] gwp gws

def MakeOk (T : PHeap → Prop) (P : Program) (f : FuncId) : Prop := ∀ {d : PHeap} {w1 w2 : Value} {ks : List (List UInt8)} {l : List V}, T d → RStrs d w1 ks → RVals d w2 l → ks.length = l.length → (∀ k ∈ ks, u8 k = true) → (∀ x ∈ l, rightV x = 0) → ks.length ≤ 1000000000 →
  depthV (.mk 6 0 0 [] (makeL ks l ks.length).2 (makeL ks l ks.length).1) ≤ 48 →
  GCall P f [w1, w2] d [] (Ret fun r d' L' => ∃ a c qa qc h, L' = [h] ∧ r = .tuple #[.agg [.int .i64 6, .int .i64 0, .int .i64 0, strV [], .slice a (makeL ks l ks.length).2.length c, .slice qa (makeL ks l ks.length).1.length qc].toArray, .int .i64 0] ∧
    GRow 6 RVal d' (.slice a (makeL ks l ks.length).2.length c) (makeL ks l ks.length).2 h ∧ RSl 1 RStr d' (.slice qa (makeL ks l ks.length).1.length qc) (makeL ks l ks.length).1)
def g_thimbleref03_Make (f_thimbleref02_Right f_thimbleref03_Right f_thimbleref03_Depth : Nat) : GFun :=
 ⟨131, [(.cell 4 (some 6)), (.tmp 5)],
 (.seq
 (.reg false (.op false ⟨(some 4), none, (.alo (.agg #[(.int .i64 0), (.int .i64 0), (.int .i64 0), (strV []), (.slice none 0 0), (.slice none 0 0)]))⟩
  (.op false ⟨(some 5), none, (.mv (.const (.int .i64 0)))⟩ .done)))
 (.seq (.seq
 (.reg false (.op false ⟨(some 11), none, (.mv (.tmp 0))⟩
  (.op false ⟨(some 12), none, (.len (.tmp 11))⟩
  (.op false ⟨(some 13), none, (.mv (.tmp 1))⟩
  (.op false ⟨(some 14), none, (.len (.tmp 13))⟩
  (.op false ⟨(some 15), none, (.bin .neq (.tmp 12) (.tmp 14))⟩ .done)))))) (.cond (.tmp 15)
 (.seq
 (.reg false (.op false ⟨(some 16), none, (.bld [(0, 1), (1, 2), (3, 1), (4, 1), (5, 1)] [(.int .i64 0), (.int .i64 0), (.int .i64 0), (strV []), (.slice none 0 0), (.slice none 0 0)] [])⟩
  (.op false ⟨none, none, (.st 6 (.tmp 4) (.tmp 16))⟩
  (.op false ⟨(some 5), none, (.mv (.const (.int .i64 2)))⟩ .done)))) .ret) .skip))
 (.seq (.seq
 (.reg false (.op false ⟨(some 6), none, (.mv (.const (.int .i64 0)))⟩ .done)) (.block 0 (.loop
 (.seq (.seq
 (.reg false (.op false ⟨(some 17), none, (.mv (.tmp 6))⟩
  (.op false ⟨(some 18), none, (.mv (.tmp 0))⟩
  (.op false ⟨(some 19), none, (.len (.tmp 18))⟩
  (.op false ⟨(some 20), none, (.bin .lss (.tmp 17) (.tmp 19))⟩ .done))))) (.cond (.tmp 20) .skip (.exit 0)))
 (.seq (.block 1
 (.seq
 (.reg false (.op false ⟨(some 23), none, (.mv (.tmp 0))⟩
  (.op false ⟨(some 24), none, (.mv (.tmp 6))⟩
  (.op false ⟨(some 25), none, (.idx 1 (.tmp 23) (.tmp 24))⟩
  (.op false ⟨(some 26), none, (.ld none (.tmp 25))⟩
  (.op false ⟨(some 27), none, (.call f_thimbleref02_Right [(.tmp 26)])⟩
  (.op false ⟨(some 28), none, (.un .not (.tmp 27))⟩ .done))))))) (.cond (.tmp 28)
 (.seq
 (.reg false (.op false ⟨(some 29), none, (.bld [(0, 1), (1, 2), (3, 1), (4, 1), (5, 1)] [(.int .i64 0), (.int .i64 0), (.int .i64 0), (strV []), (.slice none 0 0), (.slice none 0 0)] [])⟩
  (.op false ⟨none, none, (.st 6 (.tmp 4) (.tmp 29))⟩
  (.op false ⟨(some 5), none, (.mv (.const (.int .i64 30)))⟩ .done)))) .ret) .skip)))
 (.reg false (.op false ⟨(some 21), none, (.mv (.tmp 6))⟩
  (.op false ⟨(some 22), none, (.bin .add (.tmp 21) (.const (.int .i64 1)))⟩
  (.op false ⟨(some 6), none, (.mv (.tmp 22))⟩ .done)))))))))
 (.seq
 (.reg false (.op false ⟨(some 30), none, (.bld [(0, 1), (1, 2), (3, 1), (4, 1), (5, 1)] [(.int .i64 0), (.int .i64 0), (.int .i64 0), (strV []), (.slice none 0 0), (.slice none 0 0)] [(0, (.const (.int .i64 6)))])⟩
  (.op false ⟨(some 7), none, (.alo (.agg #[(.int .i64 0), (.int .i64 0), (.int .i64 0), (strV []), (.slice none 0 0), (.slice none 0 0)]))⟩
  (.op false ⟨none, none, (.st 6 (.tmp 7) (.tmp 30))⟩ .done))))
 (.seq (.seq
 (.reg false (.op false ⟨(some 8), none, (.mv (.const (.int .i64 0)))⟩ .done)) (.block 2 (.loop
 (.seq (.seq
 (.reg false (.op false ⟨(some 31), none, (.mv (.tmp 8))⟩
  (.op false ⟨(some 32), none, (.mv (.tmp 0))⟩
  (.op false ⟨(some 33), none, (.len (.tmp 32))⟩
  (.op false ⟨(some 34), none, (.bin .lss (.tmp 31) (.tmp 33))⟩ .done))))) (.cond (.tmp 34) .skip (.exit 2)))
 (.seq (.block 3
 (.seq
 (.reg false (.op false ⟨(some 37), none, (.mv (.tmp 1))⟩
  (.op false ⟨(some 38), none, (.mv (.tmp 8))⟩
  (.op false ⟨(some 39), none, (.idx 6 (.tmp 37) (.tmp 38))⟩
  (.op false ⟨(some 40), none, (.ld (some 6) (.tmp 39))⟩
  (.op false ⟨(some 41), none, (.call f_thimbleref03_Right [(.tmp 40)])⟩
  (.op false ⟨(some 9), none, (.mv (.tmp 41))⟩ .done)))))))
 (.seq (.seq
 (.reg false (.op false ⟨(some 42), none, (.mv (.tmp 9))⟩
  (.op false ⟨(some 43), none, (.bin .neq (.tmp 42) (.const (.int .i64 0)))⟩ .done))) (.cond (.tmp 43)
 (.seq
 (.reg false (.op false ⟨(some 44), none, (.bld [(0, 1), (1, 2), (3, 1), (4, 1), (5, 1)] [(.int .i64 0), (.int .i64 0), (.int .i64 0), (strV []), (.slice none 0 0), (.slice none 0 0)] [])⟩
  (.op false ⟨(some 45), none, (.mv (.tmp 9))⟩
  (.op false ⟨none, none, (.st 6 (.tmp 4) (.tmp 44))⟩
  (.op false ⟨(some 5), none, (.mv (.tmp 45))⟩ .done))))) .ret) .skip))
 (.seq
 (.reg false (.op false ⟨(some 10), none, (.mv (.const (.int .i64 0)))⟩ .done))
 (.seq (.block 4 (.loop
 (.seq (.seq
 (.reg true (.op true ⟨(some 46), none, (.mv (.tmp 10))⟩
  (.op true ⟨(some 47), none, (.fld 5 (.tmp 7))⟩
  (.op true ⟨(some 48), none, (.ld none (.tmp 47))⟩
  (.op true ⟨(some 49), none, (.len (.tmp 48))⟩
  (.op true ⟨(some 50), none, (.bin .lss (.tmp 46) (.tmp 49))⟩
  (.op true ⟨(some 51), none, (.mv (.tmp 50))⟩
  (.op true ⟨(some 52), (some (51, true)), (.fld 5 (.tmp 7))⟩
  (.op true ⟨(some 53), (some (51, true)), (.ld none (.tmp 52))⟩
  (.op true ⟨(some 54), (some (51, true)), (.mv (.tmp 10))⟩
  (.op true ⟨(some 55), (some (51, true)), (.idx 1 (.tmp 53) (.tmp 54))⟩
  (.op true ⟨(some 56), (some (51, true)), (.ld none (.tmp 55))⟩
  (.op true ⟨(some 57), (some (51, true)), (.mv (.tmp 0))⟩
  (.op true ⟨(some 58), (some (51, true)), (.mv (.tmp 8))⟩
  (.op true ⟨(some 59), (some (51, true)), (.idx 1 (.tmp 57) (.tmp 58))⟩
  (.op true ⟨(some 60), (some (51, true)), (.ld none (.tmp 59))⟩
  (.op true ⟨(some 61), (some (51, true)), (.bin .lss (.tmp 56) (.tmp 60))⟩
  (.op true ⟨(some 62), none, (.pick (.tmp 51) (.tmp 61) (.const (.bool false)))⟩ .done)))))))))))))))))) (.cond (.tmp 62) .skip (.exit 4))) (.block 5
 (.reg false (.op false ⟨(some 63), none, (.mv (.tmp 10))⟩
  (.op false ⟨(some 64), none, (.bin .add (.tmp 63) (.const (.int .i64 1)))⟩
  (.op false ⟨(some 10), none, (.mv (.tmp 64))⟩ .done))))))))
 (.seq (.seq
 (.reg true (.op true ⟨(some 65), none, (.mv (.tmp 10))⟩
  (.op true ⟨(some 66), none, (.fld 5 (.tmp 7))⟩
  (.op true ⟨(some 67), none, (.ld none (.tmp 66))⟩
  (.op true ⟨(some 68), none, (.len (.tmp 67))⟩
  (.op true ⟨(some 69), none, (.bin .eql (.tmp 65) (.tmp 68))⟩
  (.op true ⟨(some 70), none, (.mv (.tmp 69))⟩
  (.op true ⟨(some 71), (some (70, false)), (.fld 5 (.tmp 7))⟩
  (.op true ⟨(some 72), (some (70, false)), (.ld none (.tmp 71))⟩
  (.op true ⟨(some 73), (some (70, false)), (.mv (.tmp 10))⟩
  (.op true ⟨(some 74), (some (70, false)), (.idx 1 (.tmp 72) (.tmp 73))⟩
  (.op true ⟨(some 75), (some (70, false)), (.ld none (.tmp 74))⟩
  (.op true ⟨(some 76), (some (70, false)), (.mv (.tmp 0))⟩
  (.op true ⟨(some 77), (some (70, false)), (.mv (.tmp 8))⟩
  (.op true ⟨(some 78), (some (70, false)), (.idx 1 (.tmp 76) (.tmp 77))⟩
  (.op true ⟨(some 79), (some (70, false)), (.ld none (.tmp 78))⟩
  (.op true ⟨(some 80), (some (70, false)), (.bin .neq (.tmp 75) (.tmp 79))⟩
  (.op true ⟨(some 81), none, (.pick (.tmp 70) (.const (.bool true)) (.tmp 80))⟩ .done)))))))))))))))))) (.cond (.tmp 81)
 (.seq
 (.reg true (.op true ⟨(some 83), none, (.fld 5 (.tmp 7))⟩
  (.op true ⟨(some 84), none, (.ld none (.tmp 83))⟩
  (.op true ⟨(some 85), none, (.mv (.tmp 10))⟩
  (.op true ⟨(some 86), none, (.sl 1 (.tmp 84) none (some (.tmp 85)) none)⟩
  (.op true ⟨(some 88), none, (.mv (.tmp 0))⟩
  (.op true ⟨(some 89), none, (.mv (.tmp 8))⟩
  (.op true ⟨(some 90), none, (.idx 1 (.tmp 88) (.tmp 89))⟩
  (.op true ⟨(some 91), none, (.ld none (.tmp 90))⟩
  (.op true ⟨(some 94), none, (.fld 5 (.tmp 7))⟩
  (.op true ⟨(some 95), none, (.ld none (.tmp 94))⟩
  (.op true ⟨(some 96), none, (.mv (.tmp 10))⟩
  (.op true ⟨(some 97), none, (.sl 1 (.tmp 95) (some (.tmp 96)) none none)⟩ (.par (.op false ⟨(some 92), none, (.bsl 1 1 [(strV [])] [(0, (.tmp 91))])⟩ .done) (.op false ⟨(some 82), none, (.bsl 0 1 [(strV [])] [])⟩
  (.op false ⟨(some 87), none, (.app 1 16 [(strV [])] (.tmp 82) (.tmp 86))⟩ .done)) (.op false ⟨(some 93), none, (.app 1 16 [(strV [])] (.tmp 87) (.tmp 92))⟩
  (.op false ⟨(some 98), none, (.app 1 16 [(strV [])] (.tmp 93) (.tmp 97))⟩
  (.op true ⟨(some 99), none, (.fld 5 (.tmp 7))⟩
  (.bar (.op false ⟨none, none, (.st 1 (.tmp 99) (.tmp 98))⟩ .done)))))))))))))))))))
 (.reg true (.op true ⟨(some 101), none, (.fld 4 (.tmp 7))⟩
  (.op true ⟨(some 102), none, (.ld none (.tmp 101))⟩
  (.op true ⟨(some 103), none, (.mv (.tmp 10))⟩
  (.op true ⟨(some 104), none, (.sl 6 (.tmp 102) none (some (.tmp 103)) none)⟩
  (.op true ⟨(some 106), none, (.mv (.tmp 1))⟩
  (.op true ⟨(some 107), none, (.mv (.tmp 8))⟩
  (.op true ⟨(some 108), none, (.idx 6 (.tmp 106) (.tmp 107))⟩
  (.op true ⟨(some 109), none, (.ld (some 6) (.tmp 108))⟩
  (.op true ⟨(some 112), none, (.fld 4 (.tmp 7))⟩
  (.op true ⟨(some 113), none, (.ld none (.tmp 112))⟩
  (.op true ⟨(some 114), none, (.mv (.tmp 10))⟩
  (.op true ⟨(some 115), none, (.sl 6 (.tmp 113) (some (.tmp 114)) none none)⟩ (.par (.op false ⟨(some 110), none, (.bsl 1 6 [(.int .i64 0), (.int .i64 0), (.int .i64 0), (strV []), (.slice none 0 0), (.slice none 0 0)] [(0, (.tmp 109))])⟩ .done) (.op false ⟨(some 100), none, (.bsl 0 6 [(.int .i64 0), (.int .i64 0), (.int .i64 0), (strV []), (.slice none 0 0), (.slice none 0 0)] [])⟩
  (.op false ⟨(some 105), none, (.app 6 88 [(.int .i64 0), (.int .i64 0), (.int .i64 0), (strV []), (.slice none 0 0), (.slice none 0 0)] (.tmp 100) (.tmp 104))⟩ .done)) (.op false ⟨(some 111), none, (.app 6 88 [(.int .i64 0), (.int .i64 0), (.int .i64 0), (strV []), (.slice none 0 0), (.slice none 0 0)] (.tmp 105) (.tmp 110))⟩
  (.op false ⟨(some 116), none, (.app 6 88 [(.int .i64 0), (.int .i64 0), (.int .i64 0), (strV []), (.slice none 0 0), (.slice none 0 0)] (.tmp 111) (.tmp 115))⟩
  (.op true ⟨(some 117), none, (.fld 4 (.tmp 7))⟩
  (.bar (.op false ⟨none, none, (.st 1 (.tmp 117) (.tmp 116))⟩ .done)))))))))))))))))))) .skip))
 (.reg true (.op true ⟨(some 118), none, (.fld 4 (.tmp 7))⟩
  (.op true ⟨(some 119), none, (.ld none (.tmp 118))⟩
  (.op true ⟨(some 120), none, (.mv (.tmp 10))⟩
  (.op true ⟨(some 121), none, (.mv (.tmp 1))⟩
  (.op true ⟨(some 122), none, (.mv (.tmp 8))⟩
  (.op true ⟨(some 123), none, (.idx 6 (.tmp 121) (.tmp 122))⟩
  (.op true ⟨(some 124), none, (.ld (some 6) (.tmp 123))⟩
  (.op true ⟨(some 125), none, (.idx 6 (.tmp 119) (.tmp 120))⟩
  (.bar (.op false ⟨none, none, (.st 6 (.tmp 125) (.tmp 124))⟩ .done)))))))))))))))))
 (.reg false (.op false ⟨(some 35), none, (.mv (.tmp 8))⟩
  (.op false ⟨(some 36), none, (.bin .add (.tmp 35) (.const (.int .i64 1)))⟩
  (.op false ⟨(some 8), none, (.mv (.tmp 36))⟩ .done)))))))))
 (.seq (.seq
 (.reg false (.op false ⟨(some 126), none, (.ld (some 6) (.tmp 7))⟩
  (.op false ⟨(some 127), none, (.call f_thimbleref03_Depth [(.tmp 126)])⟩
  (.op false ⟨(some 128), none, (.bin .gtr (.tmp 127) (.const (.int .i64 48)))⟩ .done)))) (.cond (.tmp 128)
 (.seq
 (.reg false (.op false ⟨(some 129), none, (.bld [(0, 1), (1, 2), (3, 1), (4, 1), (5, 1)] [(.int .i64 0), (.int .i64 0), (.int .i64 0), (strV []), (.slice none 0 0), (.slice none 0 0)] [])⟩
  (.op false ⟨none, none, (.st 6 (.tmp 4) (.tmp 129))⟩
  (.op false ⟨(some 5), none, (.mv (.const (.int .i64 31)))⟩ .done)))) .ret) .skip))
 (.seq
 (.reg false (.op false ⟨(some 130), none, (.ld (some 6) (.tmp 7))⟩
  (.op false ⟨none, none, (.st 6 (.tmp 4) (.tmp 130))⟩
  (.op false ⟨(some 5), none, (.mv (.const (.int .i64 0)))⟩ .done)))) .ret)))))))⟩

set_option maxHeartbeats 4000000 in
theorem make_ok {T : PHeap → Prop} (hTm : ∀ {d d' : PHeap}, T d → Le d d' → T d') {P : Program} {f f1 f2 f3 : FuncId} (hd : decp P f = some (g_thimbleref03_Make f1 f2 f3)) (h1 : QuoteOk T P f1) (h2 : RRightOk T P f2) (h3 : RDepthOk P f3) : MakeOk T P f := by
  intro d w1 w2 ks l ht hks hl hlen hu hrt hb hdep
  refine GCall_of hd (Nat.le_of_ble_eq_true rfl) ?_
  obtain ⟨ka, kc, rfl⟩ := RSl.val hks
  obtain ⟨la, lc, rfl⟩ := RSl.val hl
  have hks0 : RSl 1 RStr d (.slice ka ks.length kc) ks := hks
  have hl0 : RSl 6 RVal d (.slice la l.length lc) l := hl
  have hk0 : (ks.length : Int) = l.length := by omega
  have hright : ∀ x ∈ l, depthV x ≤ 1000000000 := fun x hx => by
    have := hrt x hx
    unfold rightV at this
    split at this
    · omega
    · cases this
  show gwp P _ _ _ _ _
  (apply w_sq; apply w_reg; apply w_alo; intro _ _; apply w_mvi; rfl; apply w_done0; apply w_sq; apply w_sq; apply w_reg; apply w_mvs; rfl; apply w_len; rfl; apply w_mvs; rfl; apply w_len; rfl; apply w_neq; rfl; rfl; apply w_done0; refine w_ifdF rfl (by omega) ?_; apply w_skip; apply w_sq; apply w_sq; apply w_reg; apply w_mvi; rfl; apply w_done0; apply w_block)
  rename_i b4 T4
  refine w_loopN (α := Nat) (fun i => [(0, .slice ka ks.length kc), (1, .slice la l.length lc), (4, .pointer (some ⟨b4, 0, none⟩)), (6, .int .i64 i)]) (fun _ => [bx b4 T4 zVal])
    (fun i => i ≤ ks.length) (fun i => ks.length - i) 0 ⟨rfl, rfl, rfl, rfl, trivial⟩ rfl (Nat.zero_le _) ?_
  rintro i ρ hi
  by_cases hc : i < ks.length
  · (apply w_sq; apply w_sq; apply w_reg; apply w_mvi; rfl; apply w_mvs; rfl; apply w_len; rfl; apply w_lss; rfl; rfl; apply w_done0; refine w_ifdT rfl (by omega) ?_; apply w_skip; apply w_sq; apply w_block; apply w_sq; apply w_reg; apply w_mvs; rfl; apply w_mvi; rfl; refine w_idxR (sz := 1) (R := RStr) (by rfl) (by assumption) (by rfl) rfl (by omega) ?_; rintro _ _ _ _ _ ⟨rfl, _⟩; apply w_ld; rfl; exact hc_ds0 (by assumption) rfl)
    refine w_pure rfl (h1 ht (by assumption)) ?_
    rw [hu _ (List.getElem_mem hc)]
    (apply w_not; rfl; apply w_done0; apply w_ifF; rfl; apply w_skip; apply w_reg; apply w_mvi; rfl; apply w_add; rfl; rfl; omega; omega; apply w_mvi; rfl; apply w_done0)
    exact ⟨i + 1, by omega, ⟨rfl, rfl, rfl, int_eq (by omega), trivial⟩, rfl, rfl, hc⟩
  obtain rfl : i = ks.length := by omega
  (apply w_sq; apply w_sq; apply w_reg; apply w_mvi; rfl; apply w_mvs; rfl; apply w_len; rfl; apply w_lss; rfl; rfl; apply w_done0; refine w_ifdF rfl (by omega) ?_; apply w_exit; apply w_sq; apply w_reg; apply w_bvK; rfl; apply w_alo; intro _ _)
  rename_i b7 T7
  refine w_vs d [bx b7 T7 zVal, bx b4 T4 zVal, emp] (Vs.emp.trans (Vs.pick [1, 2, 0] rfl)) ?_
  refine w_stE 0 [.int .i64 6, .int .i64 0, .int .i64 0, strV [], .slice none 0 0, .slice none 0 0] rfl rfl rfl rfl (Nat.le_of_ble_eq_true rfl) rfl rfl ?_
  (apply w_done0; apply w_sq; apply w_sq; apply w_reg; apply w_mvi; rfl; apply w_done0; apply w_block)
  refine w_loopS (α := Nat) (fun i => [(0, .slice ka ks.length kc), (1, .slice la l.length lc), (4, .pointer (some ⟨b4, 0, none⟩)), (7, .pointer (some ⟨b7, 0, none⟩)), (8, .int .i64 i)])
    (fun i d' L' => Le d d' ∧ i ≤ ks.length ∧ ∃ ra rc qa qc h, RSl 1 RStr d' (.slice qa (makeL ks l i).1.length qc) (makeL ks l i).1 ∧ GRow 6 RVal d' (.slice ra (makeL ks l i).2.length rc) (makeL ks l i).2 h ∧
      L' = [bx b7 T7 [.int .i64 6, .int .i64 0, .int .i64 0, strV [], .slice ra (makeL ks l i).2.length rc, .slice qa (makeL ks l i).1.length qc], bx b4 T4 zVal, h])
    (fun i => ks.length - i) 0 ⟨rfl, rfl, rfl, rfl, rfl, trivial⟩ ⟨Le.refl _, Nat.zero_le _, none, 0, none, 0, emp, RSl.nil, GRow.nil, rfl⟩ ?_
  rintro i ρ d1 L' ⟨hl1, hi, ra, rc, qa, qc, h, hok, hol, hL⟩
  subst hL
  have hks1 : RSl 1 RStr d1 (.slice ka ks.length kc) ks := RStrs.mono hks hl1
  have hlv1 : RSl 6 RVal d1 (.slice la l.length lc) l := RVals.mono hl hl1
  have hml := make_len ks l i
  obtain ⟨oks, ol, hM⟩ : ∃ oks ol, makeL ks l i = (oks, ol) := ⟨_, _, rfl⟩
  rw [hM] at hok hol hml ⊢
  simp only at hok hol hml ⊢
  by_cases hc : i < ks.length
  · have hcl : i < l.length := by omega
    have hM1 : makeL ks l (i + 1) = insK (oks, ol) ks[i] l[i] := by rw [makeL, hM]; simp [List.getD, hc, hcl]
    have hlow := lowK_le oks ks[i]
    (apply w_sq; apply w_sq; apply w_reg; apply w_mvi; rfl; apply w_mvs; rfl; apply w_len; rfl; apply w_lss; rfl; rfl; apply w_done0; refine w_ifdT rfl (by omega) ?_; apply w_skip; apply w_sq; apply w_block; apply w_sq; apply w_reg; apply w_mvs; rfl; apply w_mvi; rfl; refine w_idxR (sz := 6) (R := RVal) (by rfl) (by assumption) (by rfl) rfl (by omega) ?_; rintro _ _ _ _ _ _; apply w_ldd; rfl; assumption; assumption)
    rename_i hcs hD hR
    refine w_pure rfl (h2 (hTm ht hl1) hR (hright _ (List.getElem_mem hcl))) ?_
    rw [hrt _ (List.getElem_mem hcl)]
    (apply w_mvi; rfl; apply w_done0; apply w_sq; apply w_sq; apply w_reg; apply w_mvi; rfl; apply w_neq; rfl; rfl; apply w_done0; refine w_ifdF rfl (by omega) ?_)
    apply w_skip
    apply w_sq; apply w_reg
    (apply w_mvi; rfl; apply w_done0)
    refine w_mid (fun ρ d' L' => d' = d1 ∧ SlotsAre ρ [(0, .slice ka ks.length kc), (1, .slice la l.length lc), (4, .pointer (some ⟨b4, 0, none⟩)), (7, .pointer (some ⟨b7, 0, none⟩)), (8, .int .i64 i), (10, .int .i64 (lowK oks ks[i] : Nat))] ∧ L' = [bx b7 T7 [.int .i64 6, .int .i64 0, .int .i64 0, strV [], .slice ra ol.length rc, .slice qa oks.length qc], bx b4 T4 zVal, h]) ?_ ?_
    · apply w_block
      refine w_loopN (α := Nat) (fun j => [(0, .slice ka ks.length kc), (1, .slice la l.length lc), (4, .pointer (some ⟨b4, 0, none⟩)), (7, .pointer (some ⟨b7, 0, none⟩)), (8, .int .i64 i), (10, .int .i64 j)]) (fun _ => [bx b7 T7 [.int .i64 6, .int .i64 0, .int .i64 0, strV [], .slice ra ol.length rc, .slice qa oks.length qc], bx b4 T4 zVal, h]) (fun j => j ≤ lowK oks ks[i]) (fun j => oks.length - j) 0 ⟨rfl, rfl, rfl, rfl, rfl, rfl, trivial⟩ rfl (Nat.zero_le _) ?_
      rintro j ρ hj
      by_cases hjl : j < oks.length
      · by_cases hjk : j < lowK oks ks[i]
        · have hbl := low_lt hjk hjl
          (apply w_sq; apply w_sq; apply w_drawn; apply w_mvi; rfl; apply w_fld; rfl; apply w_ld; rfl; exact hc_i 0 rfl rfl; apply w_len; rfl; apply w_lss; rfl; rfl; apply w_mvb; rfl; refine w_gdT rfl (by omega) ?_; apply w_gT; rfl; apply w_fld; rfl; apply w_gT; rfl; apply w_ld; rfl; exact hc_i 0 rfl rfl; apply w_gT; rfl; apply w_mvi; rfl; apply w_gT; rfl; refine w_idxR (sz := 1) (R := RStr) (by rfl) (by assumption) (by rfl) rfl (by omega) ?_; rintro _ _ _ _ _ ⟨rfl, _⟩; apply w_gT; rfl; apply w_ld; rfl; exact hc_ds0 (by assumption) rfl; apply w_gT; rfl; apply w_mvs; rfl; apply w_gT; rfl; apply w_mvi; rfl; apply w_gT; rfl; refine w_idxR (sz := 1) (R := RStr) (by rfl) (by assumption) (by rfl) rfl (by omega) ?_; rintro _ _ _ _ _ ⟨rfl, _⟩; apply w_gT; rfl; apply w_ld; rfl; exact hc_ds0 (by assumption) rfl; apply w_gT; rfl; apply w_slt; rfl; rfl; apply w_pickTb; rfl; rfl; apply w_done; apply w_ifbT; rfl; (with_reducible assumption); apply w_skip; apply w_block; apply w_reg; apply w_mvi; rfl; apply w_add; rfl; rfl; omega; omega; apply w_mvi; rfl; apply w_done0)
          exact ⟨j + 1, by omega, ⟨rfl, rfl, rfl, rfl, rfl, int_eq (by omega), trivial⟩, rfl, rfl, hjk⟩
        · obtain rfl : j = lowK oks ks[i] := by omega
          have hbl := low_at hjl
          (apply w_sq; apply w_sq; apply w_drawn; apply w_mvi; rfl; apply w_fld; rfl; apply w_ld; rfl; exact hc_i 0 rfl rfl; apply w_len; rfl; apply w_lss; rfl; rfl; apply w_mvb; rfl; refine w_gdT rfl (by omega) ?_; apply w_gT; rfl; apply w_fld; rfl; apply w_gT; rfl; apply w_ld; rfl; exact hc_i 0 rfl rfl; apply w_gT; rfl; apply w_mvi; rfl; apply w_gT; rfl; refine w_idxR (sz := 1) (R := RStr) (by rfl) (by assumption) (by rfl) rfl (by omega) ?_; rintro _ _ _ _ _ ⟨rfl, _⟩; apply w_gT; rfl; apply w_ld; rfl; exact hc_ds0 (by assumption) rfl; apply w_gT; rfl; apply w_mvs; rfl; apply w_gT; rfl; apply w_mvi; rfl; apply w_gT; rfl; refine w_idxR (sz := 1) (R := RStr) (by rfl) (by assumption) (by rfl) rfl (by omega) ?_; rintro _ _ _ _ _ ⟨rfl, _⟩; apply w_gT; rfl; apply w_ld; rfl; exact hc_ds0 (by assumption) rfl; apply w_gT; rfl; apply w_slt; rfl; rfl; apply w_pickTb; rfl; rfl; apply w_done; apply w_ifbF; rfl; (with_reducible assumption); apply w_exit)
          exact ⟨rfl, ⟨rfl, rfl, rfl, rfl, rfl, rfl, trivial⟩, rfl⟩
      · obtain rfl : j = lowK oks ks[i] := by omega
        (apply w_sq; apply w_sq; apply w_drawn; apply w_mvi; rfl; apply w_fld; rfl; apply w_ld; rfl; exact hc_i 0 rfl rfl; apply w_len; rfl; apply w_lss; rfl; rfl; apply w_mvb; rfl; refine w_gdF rfl (by omega) ?_; apply w_gF; rfl; apply w_gF; rfl; apply w_gF; rfl; apply w_gF; rfl; apply w_gF; rfl; apply w_gF; rfl; apply w_gF; rfl; apply w_gF; rfl; apply w_gF; rfl; apply w_gF; rfl; apply w_pickFb; rfl; rfl; apply w_done; apply w_ifF; rfl; apply w_exit)
        exact ⟨rfl, ⟨rfl, rfl, rfl, rfl, rfl, rfl, trivial⟩, rfl⟩
    rintro ρ d2 L' ⟨hdd, hsl, hL⟩
    subst hdd; subst hL
    refine gwp_slots _ hsl ?_
    clear hsl
    refine w_mid (fun ρ d3 L' => Le d2 d3 ∧ SlotsAre ρ [(0, .slice ka ks.length kc), (1, .slice la l.length lc), (4, .pointer (some ⟨b4, 0, none⟩)), (7, .pointer (some ⟨b7, 0, none⟩)), (8, .int .i64 i), (10, .int .i64 (lowK oks ks[i] : Nat))] ∧ ∃ ra rc qa qc h ol', RSl 1 RStr d3 (.slice qa (insK (oks, ol) ks[i] l[i]).1.length qc) (insK (oks, ol) ks[i] l[i]).1 ∧
      GRow 6 RVal d3 (.slice ra ol'.length rc) ol' h ∧ lowK oks ks[i] < ol'.length ∧ ol'.set (lowK oks ks[i]) l[i] = (insK (oks, ol) ks[i] l[i]).2 ∧
      L' = [bx b7 T7 [.int .i64 6, .int .i64 0, .int .i64 0, strV [], .slice ra ol'.length rc, .slice qa (insK (oks, ol) ks[i] l[i]).1.length qc], bx b4 T4 zVal, h]) ?_ ?_
    · refine w_mid (fun ρ d' L' => d' = d2 ∧ SlotsAre ρ [(0, .slice ka ks.length kc), (1, .slice la l.length lc), (4, .pointer (some ⟨b4, 0, none⟩)), (7, .pointer (some ⟨b7, 0, none⟩)), (8, .int .i64 i), (10, .int .i64 (lowK oks ks[i] : Nat)), (81, .bool (!decide (oks[lowK oks ks[i]]? = some ks[i])))] ∧ L' = [bx b7 T7 [.int .i64 6, .int .i64 0, .int .i64 0, strV [], .slice ra ol.length rc, .slice qa oks.length qc], bx b4 T4 zVal, h]) ?_ ?_
      · by_cases hjl : lowK oks ks[i] < oks.length
        · by_cases he : oks[lowK oks ks[i]] = ks[i]
          · have e81 : (!decide (oks[lowK oks ks[i]]? = some ks[i])) = false := by simp [hjl, he]
            rw [e81]
            (apply w_drawn; apply w_mvi; rfl; apply w_fld; rfl; apply w_ld; rfl; exact hc_i 0 rfl rfl; apply w_len; rfl; apply w_eql; rfl; rfl; apply w_mvb; rfl; refine w_gdF rfl (by omega) ?_; apply w_gT; rfl; apply w_fld; rfl; apply w_gT; rfl; apply w_ld; rfl; exact hc_i 0 rfl rfl; apply w_gT; rfl; apply w_mvi; rfl; apply w_gT; rfl; refine w_idxR (sz := 1) (R := RStr) (by rfl) (by assumption) (by rfl) rfl (by omega) ?_; rintro _ _ _ _ _ ⟨rfl, _⟩; apply w_gT; rfl; apply w_ld; rfl; exact hc_ds0 (by assumption) rfl; apply w_gT; rfl; apply w_mvs; rfl; apply w_gT; rfl; apply w_mvi; rfl; apply w_gT; rfl; refine w_idxR (sz := 1) (R := RStr) (by rfl) (by assumption) (by rfl) rfl (by omega) ?_; rintro _ _ _ _ _ ⟨rfl, _⟩; apply w_gT; rfl; apply w_ld; rfl; exact hc_ds0 (by assumption) rfl; apply w_gT; rfl; apply w_sne; rfl; rfl; apply w_pickFb; rfl; rfl; apply w_done)
            exact ⟨rfl, ⟨rfl, rfl, rfl, rfl, rfl, rfl, by simp [upd, updL, he], trivial⟩, rfl⟩
          · have e81 : (!decide (oks[lowK oks ks[i]]? = some ks[i])) = true := by simp [hjl, he]
            rw [e81]
            (apply w_drawn; apply w_mvi; rfl; apply w_fld; rfl; apply w_ld; rfl; exact hc_i 0 rfl rfl; apply w_len; rfl; apply w_eql; rfl; rfl; apply w_mvb; rfl; refine w_gdF rfl (by omega) ?_; apply w_gT; rfl; apply w_fld; rfl; apply w_gT; rfl; apply w_ld; rfl; exact hc_i 0 rfl rfl; apply w_gT; rfl; apply w_mvi; rfl; apply w_gT; rfl; refine w_idxR (sz := 1) (R := RStr) (by rfl) (by assumption) (by rfl) rfl (by omega) ?_; rintro _ _ _ _ _ ⟨rfl, _⟩; apply w_gT; rfl; apply w_ld; rfl; exact hc_ds0 (by assumption) rfl; apply w_gT; rfl; apply w_mvs; rfl; apply w_gT; rfl; apply w_mvi; rfl; apply w_gT; rfl; refine w_idxR (sz := 1) (R := RStr) (by rfl) (by assumption) (by rfl) rfl (by omega) ?_; rintro _ _ _ _ _ ⟨rfl, _⟩; apply w_gT; rfl; apply w_ld; rfl; exact hc_ds0 (by assumption) rfl; apply w_gT; rfl; apply w_sne; rfl; rfl; apply w_pickFb; rfl; rfl; apply w_done)
            exact ⟨rfl, ⟨rfl, rfl, rfl, rfl, rfl, rfl, by simp [upd, updL, he], trivial⟩, rfl⟩
        · have e81 : (!decide (oks[lowK oks ks[i]]? = some ks[i])) = true := by simp [List.getElem?_eq_none (show oks.length ≤ lowK oks ks[i] by omega)]
          rw [e81]
          (apply w_drawn; apply w_mvi; rfl; apply w_fld; rfl; apply w_ld; rfl; exact hc_i 0 rfl rfl; apply w_len; rfl; apply w_eql; rfl; rfl; apply w_mvb; rfl; refine w_gdT rfl (by omega) ?_; apply w_gF; rfl; apply w_gF; rfl; apply w_gF; rfl; apply w_gF; rfl; apply w_gF; rfl; apply w_gF; rfl; apply w_gF; rfl; apply w_gF; rfl; apply w_gF; rfl; apply w_gF; rfl; apply w_pickTb; rfl; rfl; apply w_done)
          exact ⟨rfl, ⟨rfl, rfl, rfl, rfl, rfl, rfl, rfl, trivial⟩, rfl⟩
      rintro ρ d3 L' ⟨hdd, hsl, hL⟩
      subst hdd; subst hL
      refine gwp_slots _ hsl ?_
      clear hsl
      by_cases hp : oks[lowK oks ks[i]]? = some ks[i]
      · have hI : insK (oks, ol) ks[i] l[i] = (oks, ol.set (lowK oks ks[i]) l[i]) := by simp only [insK]; rw [if_pos hp]
        rw [hI]
        have hlt : lowK oks ks[i] < oks.length := by
          rcases Nat.lt_or_ge (lowK oks ks[i]) oks.length with q | q
          · exact q
          · rw [List.getElem?_eq_none q] at hp; cases hp
        have e81 : (!decide (oks[lowK oks ks[i]]? = some ks[i])) = false := by simp [hp]
        rw [e81]
        (apply w_ifF; rfl; apply w_skip)
        exact ⟨Le.refl _, ⟨rfl, rfl, rfl, rfl, rfl, rfl, trivial⟩, ra, rc, qa, qc, h, ol, hok, hol, by omega, rfl, rfl⟩
      · have hI : insK (oks, ol) ks[i] l[i] = (oks.take (lowK oks ks[i]) ++ [ks[i]] ++ oks.drop (lowK oks ks[i]), (ol.take (lowK oks ks[i]) ++ [l[i]] ++ ol.drop (lowK oks ks[i])).set (lowK oks ks[i]) l[i]) := by simp only [insK]; rw [if_neg hp]
        rw [hI]
        have e81 : (!decide (oks[lowK oks ks[i]]? = some ks[i])) = true := by simp [hp]
        rw [e81]
        generalize hpp : lowK oks ks[i] = p at *
        (apply w_ifT; rfl; apply w_sq)
        have hl4 : Le d3 (join d3 h) := Le.join_left _ _
        have hol4 : RSl 6 RVal (join d3 h) (.slice ra ol.length rc) ol := hol.rsl (R := RVal) mono_val (by omega) (Le.join_left _ _) (Le.join_right _ _)
        refine w_drawnV (d1 := join d3 h) [bx b7 T7 [.int .i64 6, .int .i64 0, .int .i64 0, strV [], .slice ra ol.length rc, .slice qa oks.length qc], bx b4 T4 zVal] [] ((Vs.pick [2, 0, 1] rfl).trans Vs.freeze) ?_
        generalize join d3 h = d4 at *
        have hks4 : RSl 1 RStr d4 (.slice ka ks.length kc) ks := RStrs.mono hks1 hl4
        have hok4 : RSl 1 RStr d4 (.slice qa oks.length qc) oks := RStrs.mono hok hl4
        have hlv4 : RSl 6 RVal d4 (.slice la l.length lc) l := RVals.mono hlv1 hl4
        (apply w_fld; rfl; apply w_ld; rfl; exact hc_i 0 rfl rfl; apply w_mvi; rfl)
        refine w_slTo (n := p) rfl hok4 rfl rfl hlow (fun v86 r86 => ?_)
        (apply w_mvs; rfl; apply w_mvi; rfl; refine w_idxR (sz := 1) (R := RStr) (by rfl) (by assumption) (by rfl) rfl (by omega) ?_; rintro _ _ _ _ _ ⟨rfl, _⟩; apply w_ld; rfl; exact hc_ds0 (by assumption) rfl; apply w_fld; rfl; apply w_ld; rfl; exact hc_i 0 rfl rfl; apply w_mvi; rfl)
        have hkl : ks[i].length ≤ 140737488355328 := by assumption
        refine w_slFrom (n := p) rfl hok4 rfl rfl hlow (fun v97 r97 => ?_)
        refine w_par (α := Nat × TypeId) (β := Value × PHeap) [(0, .slice ka ks.length kc), (1, .slice la l.length lc), (4, .pointer (some ⟨b4, 0, none⟩)), (7, .pointer (some ⟨b7, 0, none⟩)), (8, .int .i64 i), (10, .int .i64 p), (97, v97)]
          (fun x => [(92, .slice (some ⟨x.1, 0, none⟩) 1 1)]) (fun x d L => L = [bx x.1 x.2 [strV ks[i]]])
          (fun y => [(87, y.1)]) (fun y d L => GRow 1 RStr d y.1 (oks.take p) y.2 ∧ L = [y.2]) [] [] rfl
          (fun x d d' M hl h => h) (fun y d d' M hl h => ⟨GRow.mono (R := RStr) mono_str h.1 hl, h.2⟩) (fun x => rfl) (fun y => rfl) rfl ⟨rfl, rfl, rfl, rfl, rfl, rfl, rfl, trivial⟩ ?_ ?_ ?_
        · refine w_bs1 (v0 := strV ks[i]) rfl rfl (fun b92 T92 => ?_)
          refine w_done ?_
          exact ⟨_, rfl, (b92, T92), ⟨rfl, trivial⟩, rfl⟩
        · refine w_cat1 (R := RStr) (xs := oks.take p) mono_str cell1_str (by omega) r86 (fun _ => rfl) (by simp; omega) (by simp; omega) (fun v0 v1 g1 o1 => ?_)
          refine w_done ?_
          exact ⟨_, rfl, (v1, g1), ⟨rfl, trivial⟩, o1, rfl⟩
        rintro ⟨b92, T92⟩ ⟨v87, g87⟩ ρ d5 M1 M2 hl5 hM1 ⟨o87, hM2⟩
        subst hM1; subst hM2
        refine w_appL (R := RStr) 0 rfl rfl o87 rfl (GRow.lit1 (R := RStr) rfl ⟨rfl, hkl⟩) cell1_str (by omega) (by simp; omega) (by simp; omega) (fun v93 g93 o93 => ?_)
        refine w_appGF (R := RStr) (xs := oks.take p ++ [ks[i]]) (ys := oks.drop p) mono_str rfl o93 rfl (RSl.src (R := RStr) (RStrs.mono r97 hl5) cell1_str (by omega) _) (by omega) (by simp; omega) (by simp; omega) (fun a98 c98 d6 hl6 r98 => ?_)
        (apply w_fld; rfl; apply w_bar)
        refine w_stE 0 [.int .i64 6, .int .i64 0, .int .i64 0, strV [], .slice ra ol.length rc, .slice a98 (oks.take p ++ [ks[i]] ++ oks.drop p).length c98] rfl rfl rfl rfl (Nat.le_of_ble_eq_true rfl) rfl rfl ?_
        have hl46 := hl5.trans hl6
        have hol6 : RSl 6 RVal d6 (.slice ra ol.length rc) ol := RVals.mono hol4 hl46
        have hlv6 : RSl 6 RVal d6 (.slice la l.length lc) l := RVals.mono hlv4 hl46
        clear hks1 hlv1 hks4 hok4 hlv4 hol4 hks0 hl0 hok
        (apply w_done0)
        refine w_drawn ?_
        (apply w_fld; rfl; apply w_ld; rfl; exact hc_i 0 rfl rfl; apply w_mvi; rfl)
        refine w_slTo (n := p) rfl hol6 rfl rfl (by omega) (fun v104 r104 => ?_)
        (apply w_mvs; rfl; apply w_mvi; rfl; refine w_idxR (sz := 6) (R := RVal) (by rfl) (by assumption) (by rfl) rfl (by omega) ?_; rintro _ _ _ _ _ _; apply w_ldd; rfl; assumption; assumption; apply w_fld; rfl; apply w_ld; rfl; exact hc_i 0 rfl rfl; apply w_mvi; rfl)
        rename_i cs9 hcs9 hD9 hR9
        refine w_slFrom (n := p) rfl hol6 rfl rfl (by omega) (fun v115 r115 => ?_)
        refine w_par (α := Nat × TypeId) (β := Value × PHeap) [(0, .slice ka ks.length kc), (1, .slice la l.length lc), (4, .pointer (some ⟨b4, 0, none⟩)), (7, .pointer (some ⟨b7, 0, none⟩)), (8, .int .i64 i), (10, .int .i64 p), (115, v115)]
          (fun x => [(110, .slice (some ⟨x.1, 0, none⟩) 1 1)]) (fun x d L => L = [bx x.1 x.2 cs9])
          (fun y => [(105, y.1)]) (fun y d L => GRow 6 RVal d y.1 (ol.take p) y.2 ∧ L = [y.2]) [] [] rfl
          (fun x d d' M hl h => h) (fun y d d' M hl h => ⟨GRow.mono (R := RVal) mono_val h.1 hl, h.2⟩) (fun x => rfl) (fun y => rfl) rfl ⟨rfl, rfl, rfl, rfl, rfl, rfl, rfl, trivial⟩ ?_ ?_ ?_
        · refine w_bsV rfl hcs9 (fun b92 T92 => ?_)
          refine w_done ?_
          exact ⟨_, rfl, (b92, T92), ⟨rfl, trivial⟩, rfl⟩
        · refine w_cat1 (R := RVal) (xs := ol.take p) mono_val cell1_val (by omega) r104 (fun _ => rfl) (by simp; omega) (by simp; omega) (fun v0 v1 g1 o1 => ?_)
          refine w_done ?_
          exact ⟨_, rfl, (v1, g1), ⟨rfl, trivial⟩, o1, rfl⟩
        rintro ⟨b110, T110⟩ ⟨v105, g105⟩ ρ d7 M1 M2 hl7 hM1 ⟨o105, hM2⟩
        subst hM1; subst hM2
        refine w_appL (R := RVal) 0 rfl rfl o105 rfl (GRow.lit1 (R := RVal) hcs9 (RVal.mono hl7 hR9)) cell1_val (by omega) (by simp; omega) (by simp; omega) (fun v111 g111 o111 => ?_)
        refine w_appG (R := RVal) (xs := ol.take p ++ [l[i]]) (ys := ol.drop p) 0 rfl rfl o111 rfl (RSl.src (R := RVal) (RVals.mono r115 hl7) cell1_val (by omega) _) (by omega) (by simp; omega) (by simp; omega) (fun v116 g116 o116 => ?_)
        obtain ⟨a116, c116, rfl⟩ := o116.val
        (apply w_fld; rfl; apply w_bar)
        refine w_stE 0 [.int .i64 6, .int .i64 0, .int .i64 0, strV [], .slice a116 (ol.take p ++ [l[i]] ++ ol.drop p).length c116, .slice a98 (oks.take p ++ [ks[i]] ++ oks.drop p).length c98] rfl rfl rfl rfl (Nat.le_of_ble_eq_true rfl) rfl rfl ?_
        (apply w_done0)
        exact ⟨(hl4.trans hl46).trans hl7, ⟨rfl, rfl, rfl, rfl, rfl, rfl, trivial⟩, a116, c116, a98, c98, g116, _, RStrs.mono r98 hl7, o116, by simp; omega, rfl, rfl⟩
    rintro ρ d3 L' ⟨hl3, hsl, ra', rc', qa', qc', h', ol', hok', hol', hplt, hset, hL⟩
    subst hL
    refine gwp_slots _ hsl ?_
    clear hsl
    obtain ⟨b9, T9, l9, c9, hv9, rfl, hlen9, hw9⟩ := hol'.openV (by omega) hplt
    cases hv9
    have hks3 : RSl 1 RStr d3 (.slice ka ks.length kc) ks := RStrs.mono hks1 hl3
    have hlv3 : RSl 6 RVal d3 (.slice la l.length lc) l := RVals.mono hlv1 hl3
    refine w_drawn ?_
    (apply w_fld; rfl; apply w_ld; rfl; exact hc_i 0 rfl rfl; apply w_mvi; rfl; apply w_mvs; rfl; apply w_mvi; rfl; refine w_idxR (sz := 6) (R := RVal) (by rfl) (by assumption) (by rfl) rfl (by omega) ?_; rintro _ _ _ _ _ _; apply w_ldd; rfl; assumption; assumption)
    rename_i cs9 hcs9 hD9 hR9
    refine w_idx (lowK oks ks[i]) rfl rfl rfl hplt (SAd.some _ b9 0) ?_
    (apply w_bar)
    refine w_stE 2 (patch l9 (lowK oks ks[i] * 6) cs9) rfl rfl rfl hcs9 (by omega) (cell1_val _ _ _ hR9) (by rw [Nat.zero_add]; rfl) ?_
    (apply w_done0; apply w_reg; apply w_mvi; rfl; apply w_add; rfl; rfl; omega; omega; apply w_mvi; rfl; apply w_done0)
    refine ⟨i + 1, by omega, ⟨rfl, rfl, rfl, rfl, int_eq (by omega), trivial⟩, hl1.trans hl3, hc, ?_⟩
    rw [hM1, ← hset, List.length_set]
    exact ⟨some ⟨b9, 0, none⟩, _, qa', qc', _, hok', hw9 cs9 l[i] hcs9 hR9, rfl⟩
  · obtain rfl : i = ks.length := by omega
    have hdep' : depthV (.mk 6 0 0 [] ol oks) ≤ 48 := by rw [hM] at hdep; exact hdep
    rw [hM]
    (apply w_sq; apply w_sq; apply w_reg; apply w_mvi; rfl; apply w_mvs; rfl; apply w_len; rfl; apply w_lss; rfl; rfl; apply w_done0; refine w_ifdF rfl (by omega) ?_; apply w_exit; apply w_sq; apply w_sq; apply w_reg; apply w_ldb 0; rfl; rfl; rfl)
    refine w_pureB rfl (fun d9 hl9 hk9 => h3 (.mk 6 0 0 [] ol oks) (RVal.close (v := .mk 6 0 0 [] ol oks) i64_6 i64_0 i64_0 (by simp) (hol.rsl (R := RVal) mono_val (by omega) hl9 (hk9 h (by simp))) (RStrs.mono hok hl9)) (by omega)) ?_
    (apply w_gtr; rfl; rfl; apply w_done0; refine w_ifdF rfl (by omega) ?_; apply w_skip; apply w_sq; apply w_reg; apply w_ldb 0; rfl; rfl; rfl)
    refine w_stE 1 [.int .i64 6, .int .i64 0, .int .i64 0, strV [], .slice ra ol.length rc, .slice qa oks.length qc] rfl rfl rfl rfl (Nat.le_of_ble_eq_true rfl) rfl rfl ?_
    (apply w_mvi; rfl; apply w_done0; apply w_ret)
    exact finS (L' := [h]) [.agg [.int .i64 6, .int .i64 0, .int .i64 0, strV [], .slice ra ol.length rc, .slice qa oks.length qc].toArray, .int .i64 0] ⟨res_cell 1 rfl rfl rfl, res_tmp rfl, trivial⟩ (by simp) ⟨ra, rc, qa, qc, h, rfl, rfl, hol, hok⟩
end Go.Gk.Val
end

section
/-
  The laws of ways, plain: what was dropped by keys is gone.
-/
namespace Go.Gk.Val
open Go Go.Gk

theorem keyed_mem {v : V} (h1 : oneB v = true) (h6 : v.kind = 6) {k : List UInt8} (hk : k ∈ v.keys) (y : V) : keyedF v k y = .mk 6 0 0 [] (v.list.set (lowK v.keys k) y) v.keys := by
  have hr := one_rising h1
  obtain ⟨hlo, he⟩ := (mem_iff hr).1 hk
  have hl := one_keys h1 h6
  have e1 : v.list.set (lowK v.keys k) y = v.list.take (lowK v.keys k) ++ [y] ++ v.list.drop (lowK v.keys k + 1) := by
    rw [List.set_eq_take_append_cons_drop, if_pos (by omega)]; simp
  have e2 : v.keys.take (lowK v.keys k) ++ [k] ++ v.keys.drop (lowK v.keys k + 1) = v.keys := by
    have : v.keys.set (lowK v.keys k) k = v.keys := by
      apply List.ext_getElem?
      intro i
      rw [List.getElem?_set]
      split
      · rename_i e
        subst e
        rw [List.getElem?_eq_getElem hlo, he]
      · rfl
    rw [List.set_eq_take_append_cons_drop, if_pos hlo] at this
    simpa using this
  simp only [keyedF, toK, if_pos hk, e1, e2]
theorem one_set {v : V} (h1 : oneB v = true) (h6 : v.kind = 6) (i : Nat) (y : V) : oneB (.mk 6 0 0 [] (v.list.set i y) v.keys) = true := by
  have hr := one_rising h1
  have hl := one_keys h1 h6
  simp [oneB, bareB, V.kind, V.m, V.e, V.text, V.list, V.keys, numRight, u8, Lib.validD_nil]
  exact ⟨hr, hl⟩
theorem may_set {v : V} (h : mayV v = true) (h6 : v.kind = 6) (i : Nat) {y : V} (hy : mayV y = true) : mayV (.mk 6 0 0 [] (v.list.set i y) v.keys) = true := by
  rw [mayV_eq, Bool.and_eq_true, List.all_eq_true] at h ⊢
  refine ⟨one_set h.1 h6 i y, fun x hx => ?_⟩
  rcases List.mem_or_eq_of_mem_set hx with hx | rfl
  · exact h.2 x hx
  · exact hy
theorem depth_set {v : V} {N : Nat} (h : depthV v ≤ N) (i : Nat) {y : V} (hy : depthV y + 1 ≤ N) (ks : List (List UInt8)) : depthV (.mk 6 0 0 [] (v.list.set i y) ks) ≤ N := by
  obtain ⟨n, rfl⟩ : ∃ n, N = n + 1 := ⟨N - 1, by omega⟩
  rw [depth_le] at h ⊢
  intro x hx
  rcases List.mem_or_eq_of_mem_set hx with hx | rfl
  · exact h x hx
  · omega
theorem walk_null : ∀ (l : List St) (v : V), v.kind = 0 → (walkF v l).2 = 0 ∧ (walkF v l).1.kind = 0
  | [], v, h => ⟨rfl, h⟩
  | s :: l, v, h => by
    have e : intoF v s = (V.zero, 0) := by rw [intoF, if_pos h]
    rw [walkF, e, if_neg (by simp)]
    exact walk_null l V.zero rfl

/-! ### rising keys -/
theorem low_erase {ks : List (List UInt8)} (h : rising ks = true) {k : List UInt8} (hk : k ∈ ks) : k ∉ ks.eraseIdx (lowK ks k) := by
  obtain ⟨hlo, he⟩ := (mem_iff h).1 hk
  have hn := rise_nodup (rising_iff.1 h).2
  have e : ks = ks.take (lowK ks k) ++ k :: ks.drop (lowK ks k + 1) := by
    conv => lhs; rw [← List.take_append_drop (lowK ks k) ks, List.drop_eq_getElem_cons hlo, he]
  generalize lowK ks k = i at *
  rw [List.eraseIdx_eq_take_drop_succ]
  rw [e, List.nodup_append] at hn
  obtain ⟨_, h2, h3⟩ := hn
  rw [List.nodup_cons] at h2
  intro hm
  rcases List.mem_append.1 hm with hm | hm
  · exact h3 k hm k (List.mem_cons_self ..) rfl
  · exact h2.1 hm

/-! ### one key goes -/
theorem one_erase {v : V} (h1 : oneB v = true) (h6 : v.kind = 6) (i : Nat) : oneB (.mk 6 0 0 [] (v.list.eraseIdx i) (v.keys.eraseIdx i)) = true := by
  have hr := rising_sub (one_rising h1) (List.eraseIdx_sublist v.keys i)
  have hl := one_keys h1 h6
  have hl2 : (v.keys.eraseIdx i).length = (v.list.eraseIdx i).length := by
    rw [List.length_eraseIdx, List.length_eraseIdx, hl]
  simp [oneB, bareB, V.kind, V.m, V.e, V.text, V.list, V.keys, numRight, u8, Lib.validD_nil]
  exact ⟨hr, hl2⟩
theorem may_erase {v : V} (h : mayV v = true) (h6 : v.kind = 6) (i : Nat) : mayV (.mk 6 0 0 [] (v.list.eraseIdx i) (v.keys.eraseIdx i)) = true := by
  rw [mayV_eq, Bool.and_eq_true, List.all_eq_true] at h ⊢
  exact ⟨one_erase h.1 h6 i, fun x hx => h.2 x ((List.eraseIdx_sublist v.list i).subset hx)⟩
theorem without_key {v : V} (h6 : v.kind = 6) {s : St} (hs : s.kind = 0) (hk : s.text ∈ v.keys) :
    withoutF v s = (.mk 6 0 0 [] (v.list.eraseIdx (lowK v.keys s.text)) (v.keys.eraseIdx (lowK v.keys s.text)), 0) := by
  have e : ∀ {α : Type} (l : List α) (i : Nat), l.take i ++ [] ++ l.drop (i + 1) = l.eraseIdx i := by
    intro α l i; rw [List.append_nil, List.eraseIdx_eq_take_drop_succ]
  rw [withoutF, if_neg (by omega), if_pos ⟨hs, h6⟩, if_pos hk, e, e]
theorem without_none {v : V} (h6 : v.kind = 6) {s : St} (hs : s.kind = 0) (hk : s.text ∉ v.keys) : withoutF v s = (v, 0) := by
  rw [withoutF, if_neg (by omega), if_pos ⟨hs, h6⟩, if_neg hk]
theorem without_null {v : V} (h6 : v.kind = 0) (s : St) : withoutF v s = (v, 0) := by rw [withoutF, if_pos h6]
theorem into_key {v : V} (h6 : v.kind = 6) {s : St} (hs : s.kind = 0) : intoF v s = (if s.text ∈ v.keys then v.list.getD (lowK v.keys s.text) V.zero else V.zero, 0) := by
  rw [intoF, if_neg (by omega), if_pos ⟨hs, h6⟩]
theorem into_null {v : V} (h6 : v.kind = 0) (s : St) : intoF v s = (V.zero, 0) := by rw [intoF, if_pos h6]
theorem into_field_err {v : V} {s : St} (hs : s.kind = 0) (h0 : v.kind ≠ 0) (h6 : v.kind ≠ 6) : intoF v s = (V.zero, 80) := by
  rw [intoF, if_neg h0, if_neg (by omega), if_neg (by omega), if_neg (by omega), if_neg (by omega)]
theorem without_field_err {v : V} {s : St} (hs : s.kind = 0) (h0 : v.kind ≠ 0) (h6 : v.kind ≠ 6) : withoutF v s = (V.zero, 80) := by
  rw [withoutF, if_neg h0, if_neg (by omega), if_neg (by omega), if_neg (by omega)]
theorem gone : ∀ (l : List St) (v : V), (∀ s ∈ l, s.kind = 0) → mayV v = true → (dropF v l).2 = 0 →
    mayV (dropF v l).1 = true ∧ depthV (dropF v l).1 ≤ depthV v ∧ (walkF (dropF v l).1 l).2 = 0 ∧ (walkF (dropF v l).1 l).1.kind = 0 ∧ dropF (dropF v l).1 l = ((dropF v l).1, 0)
  | [], v, _, _, _ => by
    have := depth_pos v
    have ez : dropF v [] = (V.zero, 0) := by rw [dropF]
    rw [ez]
    refine ⟨by decide, ?_, rfl, rfl, by rw [dropF]⟩
    have e : depthV V.zero = 1 := by decide
    show depthV V.zero ≤ _
    omega
  | [s], v, hl, hm, h => by
    have hs := hl s (List.mem_cons_self ..)
    rw [dropF] at h ⊢
    by_cases h0 : v.kind = 0
    · rw [without_null h0]
      exact ⟨hm, Nat.le_refl _, (walk_null _ v h0).1, (walk_null _ v h0).2, by rw [dropF, without_null h0]⟩
    by_cases h6 : v.kind = 6
    · by_cases hk : s.text ∈ v.keys
      · have hr := one_rising (may_one hm)
        have hne := low_erase hr hk
        rw [without_key h6 hs hk]
        refine ⟨may_erase hm h6 _, ?_, ?_, ?_, ?_⟩
        · obtain ⟨n, hn⟩ : ∃ n, depthV v = n + 1 := ⟨depthV v - 1, by have := depth_pos v; omega⟩
          rw [hn, depth_le]
          intro x hx
          exact depth_le.1 (Nat.le_of_eq hn) x ((List.eraseIdx_sublist v.list _).subset hx)
        · rw [walkF, into_key rfl hs]; rfl
        · rw [walkF, into_key rfl hs]
          show (walkF (if s.text ∈ v.keys.eraseIdx (lowK v.keys s.text) then _ else V.zero) []).1.kind = 0
          rw [if_neg hne]; rfl
        · show withoutF _ s = _
          exact without_none (v := .mk 6 0 0 [] (v.list.eraseIdx (lowK v.keys s.text)) (v.keys.eraseIdx (lowK v.keys s.text))) rfl hs hne
      · rw [without_none h6 hs hk]
        refine ⟨hm, Nat.le_refl _, ?_, ?_, ?_⟩
        · rw [walkF, into_key h6 hs]; rfl
        · rw [walkF, into_key h6 hs, if_neg hk]; rfl
        · rw [dropF, without_none h6 hs hk]
    · rw [without_field_err hs h0 h6] at h; cases h
  | s :: s2 :: l, v, hl, hm, h => by
    have hs := hl s (List.mem_cons_self ..)
    have hl2 : ∀ x ∈ s2 :: l, x.kind = 0 := fun x hx => hl x (List.mem_cons_of_mem _ hx)
    by_cases h0 : v.kind = 0
    · have e : dropF v (s :: s2 :: l) = (v, 0) := by rw [dropF, into_null h0, if_pos (.inr rfl)]
      rw [e]
      exact ⟨hm, Nat.le_refl _, (walk_null _ v h0).1, (walk_null _ v h0).2, e⟩
    by_cases h6 : v.kind = 6
    · by_cases hk : s.text ∈ v.keys
      · have h1 := may_one hm
        obtain ⟨hlo, hke⟩ := (mem_iff (one_rising h1)).1 hk
        have hkl := one_keys h1 h6
        generalize hlow : lowK v.keys s.text = i at *
        have hi : i < v.list.length := by omega
        have hin : intoF v s = (v.list[i], 0) := by
          rw [into_key h6 hs, if_pos hk, hlow]; simp [List.getD, hi]
        have hym := may_mem hm (List.getElem_mem hi)
        by_cases hy0 : (v.list[i]).kind = 0
        · have e : dropF v (s :: s2 :: l) = (v, 0) := by rw [dropF, hin, if_pos (.inr hy0)]
          rw [e]
          refine ⟨hm, Nat.le_refl _, ?_, ?_, e⟩
          · rw [walkF, hin, if_neg (by simp)]; exact (walk_null _ _ hy0).1
          · rw [walkF, hin, if_neg (by simp)]; exact (walk_null _ _ hy0).2
        · by_cases hd : (dropF v.list[i] (s2 :: l)).2 = 0
          · obtain ⟨a1, a2, a3, a4, a5⟩ := gone (s2 :: l) v.list[i] hl2 hym hd
            generalize hb : (dropF v.list[i] (s2 :: l)).1 = b at *
            have e : dropF v (s :: s2 :: l) = (.mk 6 0 0 [] (v.list.set i b) v.keys, 0) := by
              rw [dropF, hin, if_neg (by simp [hy0]), if_neg (by simp [hd]), hb, setF, if_pos ⟨hs, .inr h6⟩, keyed_mem h1 h6 hk, hlow]
            rw [e]
            have hin2 : intoF (.mk 6 0 0 [] (v.list.set i b) v.keys) s = (b, 0) := by
              rw [into_key rfl hs]
              show (if s.text ∈ v.keys then (v.list.set i b).getD (lowK v.keys s.text) V.zero else V.zero, (0 : Int)) = _
              rw [if_pos hk, hlow]; simp [List.getD, hi]
            refine ⟨may_set hm h6 i a1, ?_, ?_, ?_, ?_⟩
            · obtain ⟨n, hn⟩ : ∃ n, depthV v = n + 1 := ⟨depthV v - 1, by have := depth_pos v; omega⟩
              rw [hn]
              refine depth_set (Nat.le_of_eq hn) i ?_ _
              have := depth_le.1 (Nat.le_of_eq hn) _ (List.getElem_mem hi)
              omega
            · rw [walkF, hin2, if_neg (by simp)]; exact a3
            · rw [walkF, hin2, if_neg (by simp)]; exact a4
            · rw [dropF, hin2]
              by_cases hb0 : b.kind = 0
              · rw [if_pos (.inr hb0)]
              · rw [if_neg (by simp [hb0]), a5, if_neg (by simp), setF, if_pos ⟨hs, .inr rfl⟩, keyed_mem (one_set h1 h6 i b) rfl hk]
                show (V.mk 6 0 0 [] ((v.list.set i b).set (lowK v.keys s.text) b) v.keys, (0 : Int)) = _
                rw [hlow, List.set_set]
          · rw [dropF, hin, if_neg (by simp [hy0]), if_pos hd] at h
            exact absurd h hd
      · have hin : intoF v s = (V.zero, 0) := by rw [into_key h6 hs, if_neg hk]
        have e : dropF v (s :: s2 :: l) = (v, 0) := by rw [dropF, hin, if_pos (.inr rfl)]
        rw [e]
        refine ⟨hm, Nat.le_refl _, ?_, ?_, e⟩
        · rw [walkF, hin, if_neg (by simp)]; exact (walk_null _ _ rfl).1
        · rw [walkF, hin, if_neg (by simp)]; exact (walk_null _ _ rfl).2
    · rw [dropF, into_field_err hs h0 h6, if_pos (.inl (by decide))] at h
      cases h

/-! ### it grows no greater -/
theorem klens_erase : ∀ (l : List (List UInt8)) (i : Nat), klens (l.eraseIdx i) ≤ klens l
  | [], i => by simp
  | x :: l, 0 => by simp [klens]
  | x :: l, i + 1 => by have := klens_erase l i; simp only [List.eraseIdx_cons_succ, klens]; omega
theorem txts_erase : ∀ (l : List V) (i : Nat), txts (l.eraseIdx i) ≤ txts l
  | [], i => by simp
  | x :: l, 0 => by simp [txts]
  | x :: l, i + 1 => by have := txts_erase l i; simp only [List.eraseIdx_cons_succ, txts]; omega
theorem txts_set : ∀ (l : List V) (i : Nat) (h : i < l.length) (y : V), txts (l.set i y) + txtV l[i] = txts l + txtV y
  | x :: l, 0, _, y => by simp only [List.set_cons_zero, txts, List.getElem_cons_zero]; omega
  | x :: l, i + 1, h, y => by have := txts_set l i (by simpa using h) y; simp only [List.set_cons_succ, txts, List.getElem_cons_succ]; omega
theorem zero_txt (v : V) : txtV V.zero ≤ txtV v := by
  have h1 := txtV_eq v
  have e : txtV V.zero = 1 := by decide
  omega
theorem drop_keys_txt : ∀ (l : List St) (v : V), (∀ s ∈ l, s.kind = 0) → mayV v = true → txtV (dropF v l).1 ≤ txtV v
  | [], v, _, _ => by rw [dropF]; exact zero_txt v
  | [s], v, hl, hm => by
    have hs := hl s (List.mem_cons_self ..)
    rw [dropF]
    by_cases h0 : v.kind = 0
    · rw [without_null h0]; exact Nat.le_refl _
    by_cases h6 : v.kind = 6
    · by_cases hk : s.text ∈ v.keys
      · rw [without_key h6 hs hk, txtV_eq v, txtV_eq]
        have h1 : (v.keys.eraseIdx (lowK v.keys s.text)).length ≤ v.keys.length := (List.eraseIdx_sublist ..).length_le
        have h2 := txts_erase v.list (lowK v.keys s.text)
        simp only [V.text, V.keys, V.list, List.length_nil] at h1 h2 ⊢
        omega
      · rw [without_none h6 hs hk]; exact Nat.le_refl _
    · rw [without_field_err hs h0 h6]; exact zero_txt v
  | s :: s2 :: l, v, hl, hm => by
    have hs := hl s (List.mem_cons_self ..)
    have hl2 : ∀ x ∈ s2 :: l, x.kind = 0 := fun x hx => hl x (List.mem_cons_of_mem _ hx)
    rw [dropF]
    by_cases h6 : v.kind = 6
    · by_cases hk : s.text ∈ v.keys
      · have h1 := may_one hm
        obtain ⟨hlo, hke⟩ := (mem_iff (one_rising h1)).1 hk
        have hkl := one_keys h1 h6
        generalize hlow : lowK v.keys s.text = i at *
        have hi : i < v.list.length := by omega
        have hin : intoF v s = (v.list[i], 0) := by
          rw [into_key h6 hs, if_pos hk, hlow]; simp [List.getD, hi]
        have ih := drop_keys_txt (s2 :: l) v.list[i] hl2 (may_mem hm (List.getElem_mem hi))
        rw [hin]
        split
        · exact Nat.le_refl _
        split
        · exact Nat.le_refl _
        · rw [setF, if_pos ⟨hs, .inr h6⟩, keyed_mem h1 h6 hk, hlow, txtV_eq v, txtV_eq]
          have h3 := txts_set v.list i hi (dropF v.list[i] (s2 :: l)).1
          simp only [V.text, V.keys, V.list, List.length_nil] at ih h3 ⊢
          omega
      · rw [into_key h6 hs, if_neg hk, if_pos (.inr rfl)]; exact Nat.le_refl _
    · by_cases h0 : v.kind = 0
      · rw [into_null h0, if_pos (.inr rfl)]; exact Nat.le_refl _
      · rw [into_field_err hs h0 h6, if_pos (.inl (by decide))]; exact Nat.le_refl _
/-- StepsGone, plain. -/
theorem gone_top {v : V} {l : List St} (hl : ∀ s ∈ l, s.kind = 0) (h : (dropTop v l).2 = 0) :
    (getF (dropTop v l).1 l).2 = 0 ∧ (getF (dropTop v l).1 l).1.kind = 0 ∧ dropTop (dropTop v l).1 l = ((dropTop v l).1, 0) ∧ txtV (dropTop v l).1 ≤ txtV v := by
  unfold dropTop at h ⊢
  by_cases hw : wrongF v l ≠ 0
  · rw [if_pos hw] at h; exact absurd h hw
  have hw : wrongF v l = 0 := by simpa using hw
  rw [if_neg (by simp [hw])] at h ⊢
  by_cases hd : (dropF v l).2 ≠ 0
  · rw [if_pos hd] at h; exact absurd h hd
  have hd : (dropF v l).2 = 0 := by simpa using hd
  rw [if_neg (by simp [hd])]
  unfold wrongF at hw
  have hr : rightV v = 0 := by
    by_cases hr : rightV v = 0
    · exact hr
    · rw [if_pos hr] at hw; exact hw
  rw [if_neg (by simp [hr])] at hw
  have hst : l.all stepB = true := by
    by_cases hs : l.all stepB = true
    · exact hs
    · rw [if_neg hs] at hw; cases hw
  unfold rightV at hr
  have hdep : depthV v ≤ 48 := by
    by_cases hs : depthV v ≤ 48
    · exact hs
    · rw [if_neg hs] at hr; cases hr
  rw [if_pos hdep] at hr
  have hm : mayV v = true := by
    by_cases hs : mayV v = true
    · exact hs
    · rw [if_neg hs] at hr; cases hr
  obtain ⟨a1, a2, a3, a4, a5⟩ := gone l v hl hm hd
  have hb := drop_keys_txt l v hl hm
  have hwa : wrongF (dropF v l).1 l = 0 := by
    have : rightV (dropF v l).1 = 0 := by rw [rightV, if_pos (by omega), if_pos a1]
    rw [wrongF, if_neg (by simp [this]), if_pos hst]
  simp only
  rw [getF, if_neg (by simp [hwa])]
  refine ⟨a3, a4, ?_, hb⟩
  rw [if_neg (by simp [hwa]), a5, if_neg (by simp)]
theorem wrongF_eq {v : V} {l : List St} : wrongF v l = 0 ↔ mayV v = true ∧ depthV v ≤ 48 ∧ l.all stepB = true := by
  unfold wrongF rightV
  constructor
  · intro h
    by_cases h1 : depthV v ≤ 48
    · by_cases h2 : mayV v = true
      · rw [if_pos h1, if_pos h2, if_neg (by simp)] at h
        by_cases h3 : l.all stepB = true
        · exact ⟨h2, h1, h3⟩
        · rw [if_neg h3] at h; cases h
      · rw [if_pos h1, if_neg h2] at h; simp at h
    · rw [if_neg h1] at h; simp at h
  · rintro ⟨h1, h2, h3⟩
    rw [if_pos h2, if_pos h1, if_neg (by simp), if_pos h3]
end Go.Gk.Val
end

section
/-
  The laws of ways, plain: what was put is got; putting twice; what lies beside.
-/
namespace Go.Gk.Val
open Go Go.Gk

/-! ### keys -/
theorem take_low (ks : List (List UInt8)) (k : List UInt8) : ks.take (lowK ks k) = ks.takeWhile fun x => Op.bytesLess x k :=
  (List.prefix_iff_eq_take.1 (List.takeWhile_prefix _)).symm
theorem low_keyed (ks zs : List (List UInt8)) (k : List UInt8) : lowK (ks.take (lowK ks k) ++ [k] ++ zs) k = lowK ks k := by
  have hall : ∀ a ∈ ks.takeWhile (fun x => Op.bytesLess x k), Op.bytesLess a k = true := fun a ha =>
    List.all_eq_true.1 (List.all_takeWhile (p := fun x => Op.bytesLess x k) (l := ks)) a ha
  have e : (ks.takeWhile (fun x => Op.bytesLess x k) ++ [k] ++ zs).takeWhile (fun x => Op.bytesLess x k) = ks.takeWhile (fun x => Op.bytesLess x k) := by
    rw [List.append_assoc, List.takeWhile_append_of_pos hall, List.singleton_append, List.takeWhile_cons_of_neg (by simp [bl_irrefl]), List.append_nil]
  have : lowK (ks.take (lowK ks k) ++ [k] ++ zs) k = (ks.takeWhile (fun x => Op.bytesLess x k)).length := by
    rw [take_low]; show (List.takeWhile _ _).length = _; rw [e]
  rw [this]; rfl
theorem getD_mid {α : Type} (a b : List α) (x z : α) : (a ++ [x] ++ b).getD a.length z = x := by simp [List.getD]
theorem low_list {v : V} (h : oneB v = true) (h6 : v.kind = 0 ∨ v.kind = 6) (k : List UInt8) : lowK v.keys k ≤ v.list.length := by
  have := lowK_le v.keys k
  rw [one_lens h h6] at this; exact this
theorem into_keyed {v : V} (h : oneB v = true) (h6 : v.kind = 0 ∨ v.kind = 6) {s : St} (hs : s.kind = 0) (z : V) : intoF (keyedF v s.text z) s = (z, 0) := by
  have hl := low_list h h6 s.text
  have e : s.text ∈ (keyedF v s.text z).keys := by simp [keyedF]
  have e2 : lowK (keyedF v s.text z).keys s.text = lowK v.keys s.text := low_keyed _ _ _
  rw [into_key rfl hs, if_pos e, e2]
  show ((v.list.take (lowK v.keys s.text) ++ [z] ++ v.list.drop (toK v.keys s.text)).getD (lowK v.keys s.text) V.zero, (0 : Int)) = _
  have : (v.list.take (lowK v.keys s.text)).length = lowK v.keys s.text := by simp; omega
  conv => lhs; lhs; arg 2; rw [← this]
  rw [getD_mid]
theorem take_mid {α : Type} (a b : List α) (x : α) {n : Nat} (hn : a.length = n) : (a ++ [x] ++ b).take n = a := by subst hn; simp
theorem drop_mid {α : Type} (a b : List α) (x : α) {n : Nat} (hn : a.length = n) : (a ++ [x] ++ b).drop (n + 1) = b := by subst hn; simp
theorem keyed_keyed {v : V} (h : oneB v = true) (h6 : v.kind = 0 ∨ v.kind = 6) (k : List UInt8) (y z : V) : keyedF (keyedF v k y) k z = keyedF v k z := by
  have hl := low_list h h6 k
  have hk := lowK_le v.keys k
  have e1 : lowK (keyedF v k y).keys k = lowK v.keys k := low_keyed _ _ _
  have e2 : toK (keyedF v k y).keys k = lowK v.keys k + 1 := by
    rw [toK, if_pos (by simp [keyedF]), e1]
  rw [keyedF, e1, e2]
  have l1 : (v.list.take (lowK v.keys k)).length = lowK v.keys k := by simp; omega
  have l2 : (v.keys.take (lowK v.keys k)).length = lowK v.keys k := by simp; omega
  simp only [keyedF]
  rw [take_mid _ _ _ l1, drop_mid _ _ _ l1, take_mid _ _ _ l2, drop_mid _ _ _ l2]

/-! ### places -/
theorem pad_len (l : List V) (n : Nat) : (padL l n).length = max l.length n := by simp [padL]; omega
theorem setI_eq {v y : V} {s : St} (hs : s.kind = 1) (h5 : v.kind = 0 ∨ v.kind = 5) (h : (setF v s y).2 = 0) : ∃ n : Nat, placeF s.src v.list.length = (n : Int) ∧ n ≤ 4095 ∧
    setF v s y = (.mk 5 0 0 [] ((padL v.list (n + 1)).take n ++ [y] ++ (padL v.list (n + 1)).drop (n + 1)) [], 0) := by
  have e : setF v s y = (if placeF s.src v.list.length < 0 ∨ 4095 < placeF s.src v.list.length then (V.zero, 4)
    else (.mk 5 0 0 [] ((padL v.list ((placeF s.src v.list.length).toNat + 1)).take (placeF s.src v.list.length).toNat ++ [y] ++ (padL v.list ((placeF s.src v.list.length).toNat + 1)).drop ((placeF s.src v.list.length).toNat + 1)) [], 0)) := by
    rw [setF, if_neg (by omega), if_pos ⟨hs, h5⟩]
  rw [e] at h ⊢
  by_cases hp : placeF s.src v.list.length < 0 ∨ 4095 < placeF s.src v.list.length
  · rw [if_pos hp] at h; cases h
  · rw [if_neg hp]
    obtain ⟨n, hn⟩ : ∃ n : Nat, placeF s.src v.list.length = (n : Int) := ⟨(placeF s.src v.list.length).toNat, by omega⟩
    rw [hn] at hp ⊢
    exact ⟨n, rfl, by omega, rfl⟩
theorem mid_len {α : Type} {l : List α} {n : Nat} (hn : n < l.length) (y : α) : (l.take n ++ [y] ++ l.drop (n + 1)).length = l.length := by simp; omega
theorem place_same {s : St} {v : V} {n : Nat} (h : placeF s.src v.list.length = (n : Int)) : placeF s.src ((max v.list.length (n + 1) : Nat) : Int) = (n : Int) := by
  unfold placeF at h ⊢
  split at h
  · rename_i hs
    rw [if_pos hs]
    have : max v.list.length (n + 1) = v.list.length := by omega
    rw [this]; exact h
  · rename_i hs
    rw [if_neg hs]; exact h
theorem into_set1 {v y : V} {s : St} (hs : s.kind = 1) (h5 : v.kind = 0 ∨ v.kind = 5) (h : (setF v s y).2 = 0) : intoF (setF v s y).1 s = (y, 0) := by
  obtain ⟨n, hp, hn, e⟩ := setI_eq hs h5 h
  rw [e]
  have hl : n < (padL v.list (n + 1)).length := by rw [pad_len]; omega
  have hlen := mid_len hl y
  rw [intoF, if_neg (show ¬ (5 : Int) = 0 by decide), if_neg (by omega), if_pos ⟨hs, rfl⟩]
  simp only
  rw [hlen, pad_len, place_same hp, nthV, hlen, if_pos ⟨by omega, by omega⟩, Int.toNat_natCast]
  have : ((padL v.list (n + 1)).take n).length = n := by simp; omega
  conv => lhs; lhs; arg 2; rw [← this]
  rw [getD_mid]
theorem set_set1 {v y : V} {s : St} (hs : s.kind = 1) (h5 : v.kind = 0 ∨ v.kind = 5) (h : (setF v s y).2 = 0) (z : V) : setF (setF v s y).1 s z = setF v s z := by
  obtain ⟨n, hp, hn, e⟩ := setI_eq hs h5 h
  have e2 : ∀ w : V, setF v s w = (.mk 5 0 0 [] ((padL v.list (n + 1)).take n ++ [w] ++ (padL v.list (n + 1)).drop (n + 1)) [], 0) := by
    intro w
    rw [setF, if_neg (by omega), if_pos ⟨hs, h5⟩, hp, if_neg (by omega), Int.toNat_natCast]
  rw [e2 z, e]
  have hl : n < (padL v.list (n + 1)).length := by rw [pad_len]; omega
  have hlen := mid_len hl y
  rw [setF, if_neg (by omega), if_pos ⟨hs, .inr rfl⟩]
  simp only
  rw [hlen, pad_len, place_same hp, if_neg (by omega), Int.toNat_natCast]
  have hl2 : n + 1 ≤ ((padL v.list (n + 1)).take n ++ [y] ++ (padL v.list (n + 1)).drop (n + 1)).length := by rw [hlen]; omega
  have ep : ∀ l : List V, n + 1 ≤ l.length → padL l (n + 1) = l := by
    intro l hl; rw [padL, show n + 1 - l.length = 0 by omega]; simp
  rw [ep _ hl2]
  have ht : ((padL v.list (n + 1)).take n).length = n := by simp; omega
  rw [take_mid _ _ _ ht, drop_mid _ _ _ ht]

/-! ### putting -/
theorem set_kind {v y : V} {s : St} (hs2 : s.kind ≠ 2) (h : (setF v s y).2 = 0) : (s.kind = 0 ∧ (v.kind = 0 ∨ v.kind = 6)) ∨ (s.kind = 1 ∧ (v.kind = 0 ∨ v.kind = 5)) := by
  by_cases h0 : s.kind = 0 ∧ (v.kind = 0 ∨ v.kind = 6)
  · exact .inl h0
  · by_cases h1 : s.kind = 1 ∧ (v.kind = 0 ∨ v.kind = 5)
    · exact .inr h1
    · rw [setF, if_neg h0, if_neg h1, if_neg (by omega)] at h; cases h
theorem set_key {v y : V} {s : St} (h0 : s.kind = 0 ∧ (v.kind = 0 ∨ v.kind = 6)) : setF v s y = (keyedF v s.text y, 0) := by rw [setF, if_pos h0]
theorem into_set {v y : V} {s : St} (h1 : oneB v = true) (hs2 : s.kind ≠ 2) (h : (setF v s y).2 = 0) : intoF (setF v s y).1 s = (y, 0) := by
  rcases set_kind hs2 h with h0 | h0
  · rw [set_key h0]; exact into_keyed h1 h0.2 h0.1 y
  · exact into_set1 h0.1 h0.2 h
theorem set_set {v y : V} {s : St} (h1 : oneB v = true) (hs2 : s.kind ≠ 2) (h : (setF v s y).2 = 0) (z : V) : setF (setF v s y).1 s z = setF v s z := by
  rcases set_kind hs2 h with h0 | h0
  · rw [set_key h0, set_key h0]
    rw [set_key (v := keyedF v s.text y) ⟨h0.1, .inr rfl⟩, keyed_keyed h1 h0.2]
  · exact set_set1 h0.1 h0.2 h z
theorem put_cons {v x : V} {s : St} {l : List St} (h : (putF v (s :: l) x).2 = 0) : (intoF v s).2 = 0 ∧ (putF (intoF v s).1 l x).2 = 0 ∧ putF v (s :: l) x = setF v s (putF (intoF v s).1 l x).1 := by
  rw [putF] at h ⊢
  by_cases h1 : (intoF v s).2 ≠ 0
  · rw [if_pos h1] at h; exact absurd h h1
  rw [if_neg h1] at h ⊢
  by_cases h2 : (putF (intoF v s).1 l x).2 ≠ 0
  · rw [if_pos h2] at h; exact absurd h h2
  rw [if_neg h2]
  exact ⟨by simpa using h1, by simpa using h2, rfl⟩
theorem put_back : ∀ (l : List St) (v x : V), (∀ s ∈ l, s.kind ≠ 2) → Gd v → (putF v l x).2 = 0 → walkF (putF v l x).1 l = (x, 0)
  | [], v, x, _, _, _ => by rw [putF]; rfl
  | s :: l, v, x, hl, hg, h => by
    obtain ⟨h1, h2, e⟩ := put_cons h
    rw [e] at h ⊢
    have hs := hl s (List.mem_cons_self ..)
    rw [walkF, into_set (gd_one hg) hs h, if_neg (by simp)]
    exact put_back l _ x (fun s hs => hl s (List.mem_cons_of_mem _ hs)) (into_gd hg s) h2
theorem put_put : ∀ (l : List St) (v x y : V), (∀ s ∈ l, s.kind ≠ 2) → Gd v → (putF v l x).2 = 0 → putF (putF v l x).1 l y = putF v l y
  | [], v, x, y, _, _, _ => by simp only [putF]
  | s :: l, v, x, y, hl, hg, h => by
    obtain ⟨h1, h2, e⟩ := put_cons h
    rw [e] at h ⊢
    have hs := hl s (List.mem_cons_self ..)
    have ih := put_put l _ x y (fun s hs => hl s (List.mem_cons_of_mem _ hs)) (into_gd hg s) h2
    rw [putF, into_set (gd_one hg) hs h, if_neg (by simp)]
    simp only
    rw [ih]
    conv => rhs; rw [putF, if_neg (by simp [h1])]
    split
    · rfl
    · rw [set_set (gd_one hg) hs h]

theorem put_top {v x : V} {l : List St} (h : (putTop v l x).2 = 0) : rightV v = 0 ∧ rightV x = 0 ∧ wrongF v l = 0 ∧ (putF v l x).2 = 0 ∧ rightV (putF v l x).1 = 0 ∧ putTop v l x = ((putF v l x).1, 0) := by
  unfold putTop at h ⊢
  by_cases h1 : rightV v ≠ 0
  · rw [if_pos h1] at h; exact absurd h h1
  rw [if_neg h1] at h ⊢
  by_cases h2 : rightV x ≠ 0
  · rw [if_pos h2] at h; exact absurd h h2
  rw [if_neg h2] at h ⊢
  by_cases h3 : wrongF v l ≠ 0
  · rw [if_pos h3] at h; exact absurd h h3
  rw [if_neg h3] at h ⊢
  by_cases h4 : (putF v l x).2 ≠ 0
  · rw [if_pos h4] at h; exact absurd h h4
  rw [if_neg h4] at h ⊢
  by_cases h5 : rightV (putF v l x).1 ≠ 0
  · rw [if_pos h5] at h; exact absurd h h5
  rw [if_neg h5]
  exact ⟨by simpa using h1, by simpa using h2, by simpa using h3, by simpa using h4, by simpa using h5, rfl⟩
theorem put_err {v x : V} {l : List St} (h : (putTop v l x).2 ≠ 0) : (putTop v l x).1 = V.zero := by
  unfold putTop at h ⊢
  split
  · rfl
  split
  · rfl
  split
  · rfl
  split
  · rfl
  split
  · rfl
  · rename_i h1 h2 h3 h4 h5
    rw [if_neg h1, if_neg h2, if_neg h3, if_neg h4, if_neg h5] at h
    exact absurd rfl h
theorem wrong_iff {v : V} {l : List St} : wrongF v l = 0 ↔ rightV v = 0 ∧ l.all stepB = true := by
  rw [wrongF_eq, right_iff]; exact ⟨fun ⟨a, b, c⟩ => ⟨⟨a, b⟩, c⟩, fun ⟨⟨a, b⟩, c⟩ => ⟨a, b, c⟩⟩
/-- StepsBack, plain. -/
theorem back_top {v x : V} {l : List St} (hl : ∀ s ∈ l, s.kind ≠ 2) (hg : txtV v ≤ 1000000000) (h : (putTop v l x).2 = 0) : getF (putTop v l x).1 l = (x, 0) := by
  obtain ⟨h1, h2, h3, h4, h5, e⟩ := put_top h
  rw [e]
  simp only
  rw [getF, if_neg (by simp [wrong_iff.2 ⟨h5, (wrong_iff.1 h3).2⟩])]
  exact put_back l v x hl (right_gd h1 hg) h4
/-- StepsTwice, plain. -/
theorem twice_top {v x y : V} {l : List St} (hl : ∀ s ∈ l, s.kind ≠ 2) (hg : txtV v ≤ 1000000000) (h : (putTop v l x).2 = 0) (hy : (putTop v l y).2 = 0) : putTop (putTop v l x).1 l y = putTop v l y := by
  obtain ⟨h1, h2, h3, h4, h5, e⟩ := put_top h
  obtain ⟨k1, k2, k3, k4, k5, e'⟩ := put_top hy
  rw [e', e]
  simp only
  have := put_put l v x y hl (right_gd h1 hg) h4
  rw [putTop, if_neg (by simp [h5]), if_neg (by simp [k2]), if_neg (by simp [wrong_iff.2 ⟨h5, (wrong_iff.1 h3).2⟩]), this, if_neg (by simp [k4]), if_neg (by simp [k5])]

/-! ### how great -/
theorem txts_app : ∀ a b : List V, txts (a ++ b) = txts a + txts b
  | [], b => by simp [txts]
  | x :: a, b => by simp only [List.cons_append, txts, txts_app a b]; omega
theorem txts_cut {l : List V} {i j : Nat} (h : i ≤ j) : txts (l.take i) + txts (l.drop j) ≤ txts l := by
  have h1 := txts_app (l.take i) (l.drop i)
  rw [List.take_append_drop] at h1
  have h2 := txts_app ((l.drop i).take (j - i)) ((l.drop i).drop (j - i))
  rw [List.take_append_drop, List.drop_drop, show i + (j - i) = j by omega] at h2
  omega
theorem txts_rep (n : Nat) : txts (List.replicate n V.zero) = n := by
  induction n with
  | zero => rfl
  | succ n ih =>
    rw [List.replicate_succ]
    have : txtV V.zero = 1 := by decide
    simp only [txts, ih, this]; omega
theorem set_txt (v : V) (s : St) (y : V) : txtV (setF v s y).1 ≤ txtV v + txtV y + 4100 := by
  have h3 := txtV_eq v
  have hy := txtV_eq y
  have hz : txtV V.zero = 1 := by decide
  unfold setF
  split
  · simp only [keyedF]
    have hlt : lowK v.keys s.text ≤ toK v.keys s.text := by unfold toK; split <;> omega
    have h4 := txts_cut (l := v.list) hlt
    have h5 : (v.keys.take (lowK v.keys s.text)).length + (v.keys.drop (toK v.keys s.text)).length ≤ v.keys.length := by simp; omega
    rw [txtV_eq]
    show 1 + 0 + (v.keys.take (lowK v.keys s.text) ++ [s.text] ++ v.keys.drop (toK v.keys s.text)).length + txts (v.list.take (lowK v.keys s.text) ++ [y] ++ v.list.drop (toK v.keys s.text)) ≤ _
    rw [txts_app, txts_app]
    simp only [List.length_append, List.length_singleton, txts]
    omega
  split
  · split
    · simp only [hz]; omega
    · rename_i hp
      obtain ⟨n, hn⟩ : ∃ n : Nat, placeF s.src v.list.length = (n : Int) := ⟨(placeF s.src v.list.length).toNat, by omega⟩
      rw [hn] at hp ⊢
      simp only [Int.toNat_natCast]
      have h4 := txts_cut (l := padL v.list (n + 1)) (show n ≤ n + 1 by omega)
      have h5 : txts (padL v.list (n + 1)) ≤ txts v.list + (n + 1) := by rw [padL, txts_app, txts_rep]; omega
      rw [txtV_eq]
      show 1 + 0 + 0 + txts ((padL v.list (n + 1)).take n ++ [y] ++ (padL v.list (n + 1)).drop (n + 1)) ≤ _
      rw [txts_app, txts_app]
      simp only [txts]
      omega
  split
  · have he := ends_le s (k := v.list.length) (by omega)
    have h4 := txts_cut (l := v.list) (show (endsF s v.list.length).1.toNat ≤ (endsF s v.list.length).2.toNat by omega)
    rw [txtV_eq]
    show 1 + 0 + 0 + txts (v.list.take (endsF s v.list.length).1.toNat ++ y.list ++ v.list.drop (endsF s v.list.length).2.toNat) ≤ _
    rw [txts_app, txts_app]
    omega
  · simp only [hz]; omega
theorem ar3 {a b c d e m : Nat} (h3 : a ≤ b + c + 4100) (h2 : c ≤ d + m) (hb : b ≤ e) : a ≤ d + (m + (e + 4100)) := by
  have e1 : d + (m + (e + 4100)) = e + (d + m) + 4100 := by rw [← Nat.add_assoc, ← Nat.add_assoc, Nat.add_comm (d + m) e]
  rw [e1]
  exact Nat.le_trans h3 (Nat.add_le_add_right (Nat.add_le_add hb h2) _)
theorem put_txt : ∀ (l : List St) (v x : V) (B : Nat), txtV v ≤ B → txtV (putF v l x).1 ≤ txtV x + l.length * (B + 4100)
  | [], v, x, B, _ => by simp [putF]
  | s :: l, v, x, B, hb => by
    have hz : txtV V.zero = 1 := by decide
    have h1 := txt_pos x
    have h2 := put_txt l (intoF v s).1 x B (Nat.le_trans (into_txt v s) hb)
    have h3 := set_txt v s (putF (intoF v s).1 l x).1
    have e : (l.length + 1) * (B + 4100) = l.length * (B + 4100) + (B + 4100) := Nat.succ_mul _ _
    simp only [putF, List.length_cons, e]
    obtain ⟨M, hM⟩ : ∃ M, M = l.length * (B + 4100) := ⟨_, rfl⟩
    rw [← hM] at h2 ⊢
    clear hM e
    split
    · simp only [hz]; omega
    split
    · simp only [hz]; omega
    · exact ar3 h3 h2 hb
theorem without_txt (v : V) (s : St) : txtV (withoutF v s).1 ≤ txtV v := by
  have h3 := txtV_eq v
  have hz : txtV V.zero = 1 := by decide
  have key : ∀ (i j : Nat), i ≤ j → ∀ ks : List (List UInt8), ks.length ≤ v.keys.length → txtV (.mk 5 0 0 [] (v.list.take i ++ [] ++ v.list.drop j) ks) ≤ txtV v ∧ txtV (.mk 6 0 0 [] (v.list.take i ++ [] ++ v.list.drop j) ks) ≤ txtV v := by
    intro i j hij ks hk
    have h4 := txts_cut (l := v.list) hij
    rw [txtV_eq, txtV_eq]
    show 1 + 0 + ks.length + txts (v.list.take i ++ [] ++ v.list.drop j) ≤ _ ∧ 1 + 0 + ks.length + txts (v.list.take i ++ [] ++ v.list.drop j) ≤ _
    rw [txts_app, txts_app]
    simp only [txts]
    omega
  unfold withoutF
  split
  · exact Nat.le_refl _
  split
  · simp only
    split
    · exact (key _ _ (by omega) _ (by simp; omega)).2
    · exact Nat.le_refl _
  split
  · simp only
    split
    · exact Nat.le_refl _
    · exact (key _ _ (by omega) _ (by simp)).1
  split
  · have he := ends_le s (k := v.list.length) (by omega)
    exact (key _ _ (by omega) _ (by simp)).1
  · simp only [hz]; omega
theorem drop_txt : ∀ (l : List St) (v : V) (B : Nat), txtV v ≤ B → txtV (dropF v l).1 ≤ B + l.length * (B + 4100)
  | [], v, B, hb => by
    have := zero_txt v
    rw [dropF]
    exact Nat.le_trans this (Nat.le_trans hb (Nat.le_add_right _ _))
  | [s], v, B, hb => by
    have h1 := without_txt v s
    rw [dropF]
    exact Nat.le_trans h1 (Nat.le_trans hb (Nat.le_add_right _ _))
  | s :: s2 :: l, v, B, hb => by
    have h2 := drop_txt (s2 :: l) (intoF v s).1 B (Nat.le_trans (into_txt v s) hb)
    have h3 := set_txt v s (dropF (intoF v s).1 (s2 :: l)).1
    rw [dropF]
    have e : (s :: s2 :: l).length * (B + 4100) = (s2 :: l).length * (B + 4100) + (B + 4100) := Nat.succ_mul _ _
    rw [e]
    obtain ⟨M, hM⟩ : ∃ M, M = (s2 :: l).length * (B + 4100) := ⟨_, rfl⟩
    rw [← hM] at h2 ⊢
    clear hM e
    split
    · simp only; omega
    split
    · simp only; omega
    · exact ar3 h3 h2 hb
end Go.Gk.Val
end

section
/-
  The laws of ways, plain: what lies beside.
-/
namespace Go.Gk.Val
open Go Go.Gk

/-! ### what a key has -/
def look (ks : List (List UInt8)) (l : List V) (o : List UInt8) : V := if o ∈ ks then l.getD (ks.idxOf o) V.zero else V.zero
theorem low_idx {ks : List (List UInt8)} (hr : rising ks = true) {k : List UInt8} (h : k ∈ ks) : lowK ks k = ks.idxOf k :=
  mem_low hr (List.idxOf_lt_length_of_mem h) (List.getElem_idxOf _)
theorem into_look {v : V} (h6 : v.kind = 6) (hr : rising v.keys = true) {s : St} (hs : s.kind = 0) : intoF v s = (look v.keys v.list s.text, 0) := by
  rw [into_key h6 hs, look]
  by_cases h : s.text ∈ v.keys
  · rw [if_pos h, if_pos h, low_idx hr h]
  · rw [if_neg h, if_neg h]
theorem getD_right {α : Type} (a b : List α) (i : Nat) (z : α) : (a ++ b).getD (a.length + i) z = b.getD i z := by
  simp [List.getD, List.getElem?_append_right]
theorem look_mid {A M M' B : List (List UInt8)} {LA LM LM' LB : List V} {o : List UInt8} (ha : A.length = LA.length) (hm : M.length = LM.length) (hm' : M'.length = LM'.length) (h : o ∉ M) (h' : o ∉ M') :
    look (A ++ M ++ B) (LA ++ LM ++ LB) o = look (A ++ M' ++ B) (LA ++ LM' ++ LB) o := by
  unfold look
  by_cases hA : o ∈ A
  · have hi : A.idxOf o < LA.length := by rw [← ha]; exact List.idxOf_lt_length_of_mem hA
    have e : ∀ (X : List (List UInt8)) (LX : List V), (LA ++ LX ++ LB).getD ((A ++ X ++ B).idxOf o) V.zero = LA.getD (A.idxOf o) V.zero := by
      intro X LX
      rw [List.append_assoc, List.append_assoc, List.idxOf_append, if_pos hA]
      simp [List.getD, List.getElem?_append_left hi]
    rw [if_pos (by simp [hA]), if_pos (by simp [hA]), e, e]
  · by_cases hB : o ∈ B
    · have e : ∀ (X : List (List UInt8)) (LX : List V), X.length = LX.length → o ∉ X → (LA ++ LX ++ LB).getD ((A ++ X ++ B).idxOf o) V.zero = LB.getD (B.idxOf o) V.zero := by
        intro X LX hX hn
        rw [List.idxOf_append, if_neg (by simp [hA, hn])]
        have : B.idxOf o + (A ++ X).length = (LA ++ LX).length + B.idxOf o := by simp; omega
        rw [this, getD_right]
      rw [if_pos (by simp [hB]), if_pos (by simp [hB]), e M LM hm h, e M' LM' hm' h']
    · rw [if_neg (by simp [hA, hB, h]), if_neg (by simp [hA, hB, h'])]

/-! ### keys that rise -/
theorem take_less {ks : List (List UInt8)} {k a : List UInt8} (h : a ∈ ks.take (lowK ks k)) : Op.bytesLess a k = true := by
  rw [take_low] at h
  exact List.all_eq_true.1 (List.all_takeWhile (p := fun x => Op.bytesLess x k) (l := ks)) a h
theorem drop_more {ks : List (List UInt8)} (hr : rising ks = true) {k b : List UInt8} (h : b ∈ ks.drop (toK ks k)) : Op.bytesLess k b = true := by
  obtain ⟨j, hj, rfl⟩ := List.getElem_of_mem h
  rw [List.getElem_drop]
  have hlt : toK ks k + j < ks.length := by simp at hj; omega
  have hle := (toK_le hr k).1
  have h1 : ¬ Op.bytesLess (ks[toK ks k + j]) k = true := by rw [low_spec hr k _ hlt]; omega
  have h2 : ks[toK ks k + j] ≠ k := by
    intro e
    have hm : k ∈ ks := by rw [← e]; exact List.getElem_mem hlt
    have h3 := mem_low hr hlt e
    have h4 : toK ks k = lowK ks k + 1 := by rw [toK, if_pos hm]
    omega
  rcases bl_total (ks[toK ks k + j]) k with h | h | h
  · exact absurd h h1
  · exact absurd h h2
  · exact h
theorem rising_keyed {ks : List (List UInt8)} (hr : rising ks = true) {k : List UInt8} (hk : u8 k = true) : rising (ks.take (lowK ks k) ++ [k] ++ ks.drop (toK ks k)) = true := by
  have h := rising_iff.1 hr
  refine rising_iff.2 ⟨fun x hx => ?_, ?_⟩
  · simp only [List.mem_append, List.mem_singleton] at hx
    rcases hx with (hx | rfl) | hx
    · exact h.1 x (List.mem_of_mem_take hx)
    · exact hk
    · exact h.1 x (List.mem_of_mem_drop hx)
  · rw [Rise, List.pairwise_append, List.pairwise_append]
    refine ⟨⟨h.2.sublist (List.take_sublist _ _), List.pairwise_singleton _ _, fun a ha b hb => ?_⟩, h.2.sublist (List.drop_sublist _ _), fun a ha b hb => ?_⟩
    · rw [List.mem_singleton] at hb; subst hb; exact take_less ha
    · rcases List.mem_append.1 ha with ha | ha
      · exact bl_trans (take_less ha) (drop_more hr hb)
      · rw [List.mem_singleton] at ha; subst ha; exact drop_more hr hb
theorem mid_split {ks : List (List UInt8)} (hr : rising ks = true) (k : List UInt8) : ∃ M : List (List UInt8), ks = ks.take (lowK ks k) ++ M ++ ks.drop (toK ks k) ∧ (∀ x ∈ M, x = k) ∧ M.length = toK ks k - lowK ks k := by
  have hle := toK_le hr k
  refine ⟨(ks.drop (lowK ks k)).take (toK ks k - lowK ks k), ?_, fun x hx => ?_, by simp; omega⟩
  · conv => lhs; rw [← List.take_append_drop (lowK ks k) ks, ← List.take_append_drop (toK ks k - lowK ks k) (ks.drop (lowK ks k)), List.drop_drop, show lowK ks k + (toK ks k - lowK ks k) = toK ks k by omega]
    rw [List.append_assoc]
  · by_cases hm : k ∈ ks
    · obtain ⟨hlo, he⟩ := (mem_iff hr).1 hm
      rw [toK, if_pos hm, show lowK ks k + 1 - lowK ks k = 1 by omega, List.drop_eq_getElem_cons hlo] at hx
      simp only [List.take_succ_cons, List.take_zero, List.mem_singleton] at hx
      rw [hx, he]
    · rw [toK, if_neg hm, Nat.sub_self, List.take_zero] at hx
      cases hx
theorem list_split (l : List V) {i j : Nat} (h : i ≤ j) (hj : j ≤ l.length) : ∃ M : List V, l = l.take i ++ M ++ l.drop j ∧ M.length = j - i := by
  refine ⟨(l.drop i).take (j - i), ?_, by simp; omega⟩
  conv => lhs; rw [← List.take_append_drop i l, ← List.take_append_drop (j - i) (l.drop i), List.drop_drop, show i + (j - i) = j by omega]
  rw [List.append_assoc]

/-! ### beside -/
theorem null_parts {v : V} (h : oneB v = true) (h0 : v.kind = 0) : v.keys = [] ∧ v.list = [] := by
  obtain ⟨k, m, e, t, l, ks⟩ := v
  have h0 : k = 0 := h0
  subst h0
  simp [oneB, bareB, V.kind, V.m, V.e, V.text, V.list, V.keys] at h
  simp only [V.keys, V.list]
  simp_all
theorem beside_keyed {v : V} (h1 : oneB v = true) (h6 : v.kind = 0 ∨ v.kind = 6) {k : List UInt8} (hk : u8 k = true) (z : V) {s : St} (hs : s.kind = 0) (hne : s.text ≠ k) : intoF (keyedF v k z) s = intoF v s := by
  have hr := one_rising h1
  have hl := one_lens h1 h6
  have hto := toK_le hr k
  rw [into_look (v := keyedF v k z) rfl (rising_keyed hr hk) hs]
  rcases h6 with h0 | h6
  · obtain ⟨e1, e2⟩ := null_parts h1 h0
    rw [into_null h0]
    have e3 : (keyedF v k z).keys = [k] := by simp [keyedF, e1]
    rw [look, if_neg (by rw [e3]; simp [hne])]
  · rw [into_look h6 hr hs]
    obtain ⟨M, hM, hall, hlen⟩ := mid_split hr k
    obtain ⟨LM, hLM, hlen2⟩ := list_split v.list hto.1 (by omega)
    have := look_mid (A := v.keys.take (lowK v.keys k)) (M := M) (M' := [k]) (B := v.keys.drop (toK v.keys k)) (LA := v.list.take (lowK v.keys k)) (LM := LM) (LM' := [z]) (LB := v.list.drop (toK v.keys k)) (o := s.text)
      (by simp; omega) (by omega) rfl (fun hm => hne (hall _ hm)) (by simp [hne])
    rw [← hM, ← hLM] at this
    rw [this]
    rfl
theorem beside_erase {v : V} (h1 : oneB v = true) (h6 : v.kind = 6) {k : List UInt8} (hk : k ∈ v.keys) {s : St} (hs : s.kind = 0) (hne : s.text ≠ k) :
    intoF (.mk 6 0 0 [] (v.list.eraseIdx (lowK v.keys k)) (v.keys.eraseIdx (lowK v.keys k))) s = intoF v s := by
  have hr := one_rising h1
  have hl := one_keys h1 h6
  have hto := toK_le hr k
  have et : toK v.keys k = lowK v.keys k + 1 := by rw [toK, if_pos hk]
  have hr2 : rising (v.keys.eraseIdx (lowK v.keys k)) = true := rising_sub hr (List.eraseIdx_sublist _ _)
  rw [into_look (v := .mk 6 0 0 [] (v.list.eraseIdx (lowK v.keys k)) (v.keys.eraseIdx (lowK v.keys k))) rfl hr2 hs, into_look h6 hr hs]
  obtain ⟨M, hM, hall, hlen⟩ := mid_split hr k
  obtain ⟨LM, hLM, hlen2⟩ := list_split v.list hto.1 (by omega)
  have := look_mid (A := v.keys.take (lowK v.keys k)) (M := M) (M' := []) (B := v.keys.drop (toK v.keys k)) (LA := v.list.take (lowK v.keys k)) (LM := LM) (LM' := []) (LB := v.list.drop (toK v.keys k)) (o := s.text)
    (by simp; omega) (by omega) rfl (fun hm => hne (hall _ hm)) (by simp)
  rw [← hM, ← hLM] at this
  rw [this, et]
  simp only [V.keys, V.list, List.eraseIdx_eq_take_drop_succ, List.append_nil]

/-! ### what may be stays so -/
theorem step_u8 {s : St} (h : stepB s = true) (h0 : s.kind = 0) : u8 s.text = true := by
  simp [stepB, h0] at h; exact h
theorem set_right {v y : V} {s : St} {N : Nat} (hv : mayV v = true) (hy : mayV y = true) (hs : stepB s = true) (h : (setF v s y).2 = 0) (hd : depthV v ≤ N) (hyd : depthV y ≤ N) (hyd2 : s.kind ≠ 2 → depthV y + 1 ≤ N) :
    mayV (setF v s y).1 = true ∧ depthV (setF v s y).1 ≤ N := by
  have h1 := may_one hv
  obtain ⟨n, rfl⟩ : ∃ n, N = n + 1 := ⟨N - 1, by have := depth_pos v; omega⟩
  have hel := (depth_le (v := v)).1 hd
  by_cases h2 : s.kind = 2
  · by_cases hc : s.kind = 2 ∧ (v.kind = 0 ∨ v.kind = 5) ∧ y.kind = 5
    · have hyl := (depth_le (v := y)).1 hyd
      rw [setF, if_neg (by omega), if_neg (by omega), if_pos hc]
      have hm : ∀ x ∈ v.list.take (endsF s v.list.length).1.toNat ++ y.list ++ v.list.drop (endsF s v.list.length).2.toNat, x ∈ v.list ∨ x ∈ y.list := by
        intro x hx
        simp only [List.mem_append] at hx
        rcases hx with (hx | hx) | hx
        · exact .inl (List.mem_of_mem_take hx)
        · exact .inr hx
        · exact .inl (List.mem_of_mem_drop hx)
      exact ⟨may_list fun x hx => (hm x hx).elim (may_mem hv) (may_mem hy), depth_mk fun x hx => (hm x hx).elim (hel x) (hyl x)⟩
    · rw [setF, if_neg (by omega), if_neg (by omega), if_neg hc] at h; cases h
  · have hyn : depthV y ≤ n := by have := hyd2 h2; omega
    rcases set_kind h2 h with h0 | h0
    · rw [set_key h0]
      have hr := one_rising h1
      have hl := one_lens h1 h0.2
      have hto := toK_le hr s.text
      have hm : ∀ x ∈ v.list.take (lowK v.keys s.text) ++ [y] ++ v.list.drop (toK v.keys s.text), x ∈ v.list ∨ x = y := by
        intro x hx
        simp only [List.mem_append, List.mem_singleton] at hx
        rcases hx with (hx | hx) | hx
        · exact .inl (List.mem_of_mem_take hx)
        · exact .inr hx
        · exact .inl (List.mem_of_mem_drop hx)
      refine ⟨may_map (rising_keyed hr (step_u8 hs h0.1)) (by simp; omega) fun x hx => (hm x hx).elim (may_mem hv) (fun e => by rw [e]; exact hy), depth_mk fun x hx => (hm x hx).elim (hel x) (fun e => by rw [e]; exact hyn)⟩
    · obtain ⟨i, _, _, e⟩ := setI_eq h0.1 h0.2 h
      rw [e]
      have hp : ∀ x ∈ padL v.list (i + 1), x ∈ v.list ∨ x = V.zero := by
        intro x hx
        rw [padL, List.mem_append, List.mem_replicate] at hx
        exact hx.imp id (·.2)
      have hm : ∀ x ∈ (padL v.list (i + 1)).take i ++ [y] ++ (padL v.list (i + 1)).drop (i + 1), x ∈ v.list ∨ x = V.zero ∨ x = y := by
        intro x hx
        simp only [List.mem_append, List.mem_singleton] at hx
        rcases hx with (hx | hx) | hx
        · exact (hp x (List.mem_of_mem_take hx)).imp id .inl
        · exact .inr (.inr hx)
        · exact (hp x (List.mem_of_mem_drop hx)).imp id .inl
      have hz : depthV V.zero ≤ n := by have := depth_pos y; have e : depthV V.zero = 1 := by decide
                                        omega
      exact ⟨may_list fun x hx => (hm x hx).elim (may_mem hv) (fun e => e.elim (fun e => by rw [e]; decide) (fun e => by rw [e]; exact hy)),
        depth_mk fun x hx => (hm x hx).elim (hel x) (fun e => e.elim (fun e => by rw [e]; exact hz) (fun e => by rw [e]; exact hyn))⟩
theorem zero_depth (v : V) : depthV V.zero ≤ depthV v := by
  have h1 := depth_pos v
  have e : depthV V.zero = 1 := by decide
  omega
theorem without_right {v : V} {s : St} (hv : mayV v = true) : mayV (withoutF v s).1 = true ∧ depthV (withoutF v s).1 ≤ depthV v := by
  have h1 := may_one hv
  obtain ⟨n, hn⟩ : ∃ n, depthV v = n + 1 := ⟨depthV v - 1, by have := depth_pos v; omega⟩
  have hel := (depth_le (v := v)).1 (Nat.le_of_eq hn)
  have hcut : ∀ (i j : Nat) x, x ∈ v.list.take i ++ [] ++ v.list.drop j → x ∈ v.list := by
    intro i j x hx
    simp only [List.append_nil, List.mem_append] at hx
    exact hx.elim List.mem_of_mem_take List.mem_of_mem_drop
  have hlist : ∀ i j : Nat, mayV (.mk 5 0 0 [] (v.list.take i ++ [] ++ v.list.drop j) []) = true ∧ depthV (.mk 5 0 0 [] (v.list.take i ++ [] ++ v.list.drop j) []) ≤ depthV v := by
    intro i j
    rw [hn]
    exact ⟨may_list fun x hx => may_mem hv (hcut i j x hx), depth_mk fun x hx => hel x (hcut i j x hx)⟩
  unfold withoutF
  split
  · exact ⟨hv, Nat.le_refl _⟩
  split
  · rename_i hk
    simp only
    split
    · rename_i hm
      have hl := one_keys h1 hk.2
      obtain ⟨hlo, _⟩ := (mem_iff (one_rising h1)).1 hm
      rw [hn]
      refine ⟨may_map (rising_sub (one_rising h1) ?_) (by simp; omega) fun x hx => may_mem hv (hcut _ _ x hx), depth_mk fun x hx => hel x (hcut _ _ x hx)⟩
      rw [List.append_nil, ← List.eraseIdx_eq_take_drop_succ]
      exact List.eraseIdx_sublist _ _
    · exact ⟨hv, Nat.le_refl _⟩
  split
  · simp only
    split
    · exact ⟨hv, Nat.le_refl _⟩
    · exact hlist _ _
  split
  · exact hlist _ _
  · exact ⟨by decide, zero_depth v⟩
theorem into_depth (v : V) (s : St) : depthV (intoF v s).1 ≤ depthV v := by
  obtain ⟨n, hn⟩ : ∃ n, depthV v = n + 1 := ⟨depthV v - 1, by have := depth_pos v; omega⟩
  have hel := (depth_le (v := v)).1 (Nat.le_of_eq hn)
  have hg : ∀ i : Nat, depthV (v.list.getD i V.zero) ≤ depthV v := fun i => by
    by_cases hi : i < v.list.length
    · rw [show v.list.getD i V.zero = v.list[i] by simp [hi]]
      have := hel _ (List.getElem_mem hi)
      omega
    · rw [show v.list.getD i V.zero = V.zero by simp [hi]]; exact zero_depth v
  unfold intoF
  split
  · exact zero_depth v
  split
  · simp only
    split
    · exact hg _
    · exact zero_depth v
  split
  · simp only [nthV]
    split
    · exact hg _
    · exact zero_depth v
  split
  · rw [hn]; exact depth_mk fun x hx => hel x (List.mem_of_mem_drop (List.mem_of_mem_take hx))
  split
  · rw [hn]; exact depth_mk fun x hx => by cases hx
  · exact zero_depth v
theorem into_elem {v : V} {s : St} (hs : s.kind ≠ 2) (h : (intoF v s).1.kind ≠ 0) : (intoF v s).1 ∈ v.list := by
  have hg : ∀ i : Nat, (v.list.getD i V.zero).kind ≠ 0 → v.list.getD i V.zero ∈ v.list := fun i hk => by
    by_cases hi : i < v.list.length
    · rw [show v.list.getD i V.zero = v.list[i] by simp [hi]]; exact List.getElem_mem hi
    · rw [show v.list.getD i V.zero = V.zero by simp [hi]] at hk; exact absurd rfl hk
  unfold intoF at h ⊢
  split at h
  · exact absurd rfl h
  rename_i h0
  rw [if_neg h0]
  split at h
  · rename_i h1
    rw [if_pos h1]
    simp only at h ⊢
    split at h
    · rename_i h2
      rw [if_pos h2]; exact hg _ h
    · exact absurd rfl h
  rename_i h1
  rw [if_neg h1]
  split at h
  · rename_i h2
    rw [if_pos h2]
    simp only [nthV] at h ⊢
    split at h
    · rename_i h3
      rw [if_pos h3]; exact hg _ h
    · exact absurd rfl h
  rename_i h2
  rw [if_neg (by omega), if_neg (by omega)] at h
  exact absurd rfl h
theorem drop_right : ∀ (l : List St) (v : V), (∀ s ∈ l, stepB s = true) → Gd v → (dropF v l).2 = 0 → mayV (dropF v l).1 = true ∧ depthV (dropF v l).1 ≤ depthV v
  | [], v, _, _, _ => by
    rw [dropF]; exact ⟨by decide, zero_depth v⟩
  | [s], v, _, hg, _ => by
    rw [dropF]; exact without_right hg.1
  | s :: s2 :: l, v, hl, hg, h => by
    have hs := hl s (List.mem_cons_self ..)
    have hl2 : ∀ x ∈ s2 :: l, stepB x = true := fun x hx => hl x (List.mem_cons_of_mem _ hx)
    rw [dropF] at h ⊢
    by_cases h1 : (intoF v s).2 ≠ 0 ∨ (intoF v s).1.kind = 0
    · rw [if_pos h1]; exact ⟨hg.1, Nat.le_refl _⟩
    rw [if_neg h1] at h ⊢
    by_cases h2 : (dropF (intoF v s).1 (s2 :: l)).2 ≠ 0
    · rw [if_pos h2] at h; exact absurd h h2
    rw [if_neg h2] at h ⊢
    obtain ⟨a1, a2⟩ := drop_right (s2 :: l) _ hl2 (into_gd hg s) (by simpa using h2)
    have hid := into_depth v s
    refine set_right hg.1 a1 hs h (Nat.le_refl _) (by omega) fun hk => ?_
    have := depth_mem (into_elem hk (fun e => h1 (.inr e)))
    omega

/-! ### StepsBeside -/
theorem drop_top {v : V} {l : List St} (h : (dropTop v l).2 = 0) : wrongF v l = 0 ∧ (dropF v l).2 = 0 ∧ dropTop v l = ((dropF v l).1, 0) := by
  unfold dropTop at h ⊢
  by_cases h1 : wrongF v l ≠ 0
  · rw [if_pos h1] at h; exact absurd h h1
  rw [if_neg h1] at h ⊢
  by_cases h2 : (dropF v l).2 ≠ 0
  · rw [if_pos h2] at h; exact absurd h h2
  rw [if_neg h2]
  exact ⟨by simpa using h1, by simpa using h2, rfl⟩
theorem get_one {v w : V} {s : St} (h : (getF v [s]).2 = 0) (hr : rightV w = 0) (hi : intoF w s = intoF v s) : getF w [s] = getF v [s] := by
  have h1 : wrongF v [s] = 0 := by
    by_cases h1 : wrongF v [s] = 0
    · exact h1
    · rw [getF, if_pos h1] at h; exact absurd h h1
  have h2 : wrongF w [s] = 0 := wrong_iff.2 ⟨hr, (wrong_iff.1 h1).2⟩
  rw [getF, if_neg (by simp [h2]), getF, if_neg (by simp [h1])]
  simp only [walkF, hi]
theorem get_wrong {v : V} {l : List St} (h : (getF v l).2 = 0) : wrongF v l = 0 := by
  by_cases h1 : wrongF v l = 0
  · exact h1
  · rw [getF, if_pos h1] at h; exact absurd h h1
theorem beside_put {v x : V} {k : List UInt8} {way : List St} {o : List UInt8} (hne : k ≠ o) (hg : (getF v [fieldS o]).2 = 0) (h : (putTop v (fieldS k :: way) x).2 = 0) : getF (putTop v (fieldS k :: way) x).1 [fieldS o] = getF v [fieldS o] := by
  obtain ⟨h1, h2, h3, h4, h5, e⟩ := put_top h
  rw [e]
  refine get_one hg h5 ?_
  have hm := (right_iff.1 h1).1
  have hst := (wrong_iff.1 h3).2
  obtain ⟨k1, k2, e2⟩ := put_cons h4
  have hk : u8 k = true := step_u8 (List.all_eq_true.1 hst (fieldS k) (List.mem_cons_self ..)) rfl
  rw [e2] at h4
  simp only
  rw [e2]
  rcases set_kind (show (0 : Int) ≠ 2 by decide) h4 with h0 | h0
  · rw [set_key h0]
    exact beside_keyed (may_one hm) h0.2 hk _ rfl (fun e => hne e.symm)
  · exact absurd h0.1 (show ¬ (0 : Int) = 1 by decide)
theorem beside_drop {v : V} {k : List UInt8} {way : List St} {o : List UInt8} (hne : k ≠ o) (ht : txtV v ≤ 1000000000) (hg : (getF v [fieldS o]).2 = 0) (h : (dropTop v (fieldS k :: way)).2 = 0) : getF (dropTop v (fieldS k :: way)).1 [fieldS o] = getF v [fieldS o] := by
  obtain ⟨h1, h2, e⟩ := drop_top h
  have hw := wrong_iff.1 h1
  have hst := List.all_eq_true.1 hw.2
  have hm := right_iff.1 hw.1
  have hgd := right_gd hw.1 ht
  obtain ⟨a1, a2⟩ := drop_right _ v hst hgd h2
  have hone := may_one hm.1
  have hk : u8 k = true := step_u8 (hst (fieldS k) (List.mem_cons_self ..)) rfl
  rw [e]
  refine get_one hg (right_iff.2 ⟨a1, Nat.le_trans a2 hm.2⟩) ?_
  simp only
  have hset : ∀ z : V, (setF v (fieldS k) z).2 = 0 → intoF (setF v (fieldS k) z).1 (fieldS o) = intoF v (fieldS o) := by
    intro z hz
    rcases set_kind (show (0 : Int) ≠ 2 by decide) hz with h0 | h0
    · rw [set_key h0]
      exact beside_keyed hone h0.2 hk _ rfl (fun e => hne e.symm)
    · exact absurd h0.1 (show ¬ (0 : Int) = 1 by decide)
  cases way with
  | nil =>
    rw [dropF] at h2 ⊢
    by_cases h0 : v.kind = 0
    · rw [without_null h0]
    by_cases h6 : v.kind = 6
    · by_cases hk : k ∈ v.keys
      · rw [without_key h6 rfl hk]
        exact beside_erase hone h6 hk rfl (fun e => hne e.symm)
      · rw [without_none h6 rfl hk]
    · rw [without_field_err rfl h0 h6] at h2; cases h2
  | cons s2 l =>
    rw [dropF] at h2 ⊢
    by_cases q1 : (intoF v (fieldS k)).2 ≠ 0 ∨ (intoF v (fieldS k)).1.kind = 0
    · rw [if_pos q1]
    rw [if_neg q1] at h2 ⊢
    by_cases q2 : (dropF (intoF v (fieldS k)).1 (s2 :: l)).2 ≠ 0
    · rw [if_pos q2] at h2; exact absurd h2 q2
    rw [if_neg q2] at h2 ⊢
    exact hset _ h2
theorem dropTop_txt (v : V) (l : List St) (B : Nat) (hb : txtV v ≤ B) : txtV (dropTop v l).1 ≤ B + l.length * (B + 4100) := by
  by_cases h : (dropTop v l).2 = 0
  · rw [(drop_top h).2.2]; exact drop_txt l v B hb
  · have hz : (dropTop v l).1 = V.zero := by
      unfold dropTop at h ⊢
      split
      · rfl
      split
      · rfl
      · rename_i q1 q2
        rw [if_neg q1, if_neg q2] at h; exact absurd rfl h
    rw [hz]
    exact Nat.le_trans (zero_txt v) (Nat.le_trans hb (Nat.le_add_right _ _))
end Go.Gk.Val
end
