/-
  Our own texts, one behind the other: GkT6 GkT7 GkL3 GkT8.
-/
import Derived.Test.YtbnoplhkegcllaaDoorPkF
section
/-
  The laws of ways: StepsBack.
-/
namespace Go.Gk.Val
open Go Go.Gk Go.Gk.Utf
attribute [local irreducible] gwp gws

section
variable {P : Program} {pan : List PanicEntry → Post} {Qn : Env → Post} {Ls L : List PHeap} {ρ : Env} {d : PHeap} {s : GS} {t : Nat} {tk : Bool}
theorem w_bsV2 {x y : Operand} {a b : List Value} (ex : ev ρ x = .agg a.toArray) (ha : a.length = 6) (ey : ev ρ y = .agg b.toArray) (hb : b.length = 6) (h : ∀ q T, gws P pan Qn s Ls (upd ρ t (.slice (some ⟨q, 0, none⟩) 2 2)) d (bx q T (a ++ b) :: L)) :
    gws P pan Qn (.op false ⟨some t, none, .bsl 2 6 [.int .i64 0, .int .i64 0, .int .i64 0, strV [], .slice none 0 0, .slice none 0 0] [(0, x), (1, y)]⟩ s) Ls ρ d L := by
  obtain ⟨a0, a1, a2, a3, a4, a5, rfl⟩ := six ha
  obtain ⟨b0, b1, b2, b3, b4, b5, rfl⟩ := six hb
  refine w_bsl (by omega) ?_ h
  simp [Instr.fill, zrow, List.range, List.range.loop, ex, ey, Value.cells]
theorem w_bsV3 {x y z : Operand} {a b c : List Value} (ex : ev ρ x = .agg a.toArray) (ha : a.length = 6) (ey : ev ρ y = .agg b.toArray) (hb : b.length = 6) (ez : ev ρ z = .agg c.toArray) (hc : c.length = 6)
    (h : ∀ q T, gws P pan Qn s Ls (upd ρ t (.slice (some ⟨q, 0, none⟩) 3 3)) d (bx q T (a ++ b ++ c) :: L)) :
    gws P pan Qn (.op false ⟨some t, none, .bsl 3 6 [.int .i64 0, .int .i64 0, .int .i64 0, strV [], .slice none 0 0, .slice none 0 0] [(0, x), (1, y), (2, z)]⟩ s) Ls ρ d L := by
  obtain ⟨a0, a1, a2, a3, a4, a5, rfl⟩ := six ha
  obtain ⟨b0, b1, b2, b3, b4, b5, rfl⟩ := six hb
  obtain ⟨c0, c1, c2, c3, c4, c5, rfl⟩ := six hc
  refine w_bsl (by omega) ?_ h
  simp [Instr.fill, zrow, List.range, List.range.loop, ex, ey, ez, Value.cells]
end
theorem rvals2 {d d' : PHeap} {q : Nat} {T : TypeId} {a b : List Value} {x y : V} (hx : RVal d a x) (hy : RVal d b y) (hl : Le d d') (h : Le (bx q T (a ++ b)) d') : RVals d' (.slice (some ⟨q, 0, none⟩) 2 2) [x, y] := by
  obtain ⟨a0, a1, a2, a3, a4, a5, rfl⟩ := six hx.len
  obtain ⟨b0, b1, b2, b3, b4, b5, rfl⟩ := six hy.len
  have o := ORow.lit (sz := 6) (b := q) (T := T) (n := 2) (l := [a0, a1, a2, a3, a4, a5] ++ [b0, b1, b2, b3, b4, b5]) rfl (by omega)
  refine o.rsl (R := RVal) h rfl (by omega) (fun i hi => ?_)
  have hi2 : i < 2 := hi
  obtain rfl | rfl : i = 0 ∨ i = 1 := by omega
  · exact RVal.mono hl hx
  · exact RVal.mono hl hy
theorem rvals3 {d d' : PHeap} {q : Nat} {T : TypeId} {a b c : List Value} {x y z : V} (hx : RVal d a x) (hy : RVal d b y) (hz : RVal d c z) (hl : Le d d') (h : Le (bx q T (a ++ b ++ c)) d') : RVals d' (.slice (some ⟨q, 0, none⟩) 3 3) [x, y, z] := by
  obtain ⟨a0, a1, a2, a3, a4, a5, rfl⟩ := six hx.len
  obtain ⟨b0, b1, b2, b3, b4, b5, rfl⟩ := six hy.len
  obtain ⟨c0, c1, c2, c3, c4, c5, rfl⟩ := six hz.len
  have o := ORow.lit (sz := 6) (b := q) (T := T) (n := 3) (l := [a0, a1, a2, a3, a4, a5] ++ [b0, b1, b2, b3, b4, b5] ++ [c0, c1, c2, c3, c4, c5]) rfl (by omega)
  refine o.rsl (R := RVal) h rfl (by omega) (fun i hi => ?_)
  have hi2 : i < 3 := hi
  obtain rfl | rfl | rfl : i = 0 ∨ i = 1 ∨ i = 2 := by omega
  · exact RVal.mono hl hx
  · exact RVal.mono hl hy
  · exact RVal.mono hl hz

def PlainOk (P : Program) (f : FuncId) : Prop := ∀ {d : PHeap} {w : Value} {l : List St}, RSl 6 RSt d w l → GPure P f [w] d (.bool (l.all fun s => decide (s.kind ≠ 2)))
theorem plain_false {l : List St} {i : Nat} (h : i < l.length) (hb : l[i].kind = 2) : (l.all fun s => decide (s.kind ≠ 2)) = false := by
  rw [← Bool.not_eq_true, List.all_eq_true]
  intro ha
  have := ha _ (List.getElem_mem h)
  simp [hb] at this
def g_thimblelaw08_plain : GFun :=
 ⟨15, [(.tmp 2)],
 (.seq
 (.reg false (.op false ⟨(some 2), none, (.mv (.const (.bool false)))⟩ .done))
 (.seq (.seq
 (.reg false (.op false ⟨(some 5), none, (.mv (.tmp 0))⟩
  (.op false ⟨(some 6), none, (.len (.tmp 5))⟩
  (.op false ⟨(some 7), none, (.mv (.const (.int .i64 0)))⟩ .done)))) (.block 0 (.loop
 (.seq
 (.reg false (.op false ⟨(some 8), none, (.bin .lss (.tmp 7) (.tmp 6))⟩ .done))
 (.seq (.cond (.tmp 8) .skip (.exit 0))
 (.seq (.block 1
 (.seq
 (.reg false (.op false ⟨(some 9), none, (.idx 6 (.tmp 5) (.tmp 7))⟩
  (.op false ⟨(some 10), none, (.ld (some 6) (.tmp 9))⟩
  (.op false ⟨(some 4), none, (.alo (.agg #[(.int .i64 0), (strV []), (.int .i64 0), (.int .i64 0), (.bool false), (.bool false)]))⟩
  (.op false ⟨none, none, (.st 6 (.tmp 4) (.tmp 10))⟩ .done)))))
 (.seq
 (.reg false (.op false ⟨(some 11), none, (.fld 0 (.tmp 4))⟩
  (.op false ⟨(some 12), none, (.ld none (.tmp 11))⟩
  (.op false ⟨(some 13), none, (.bin .eql (.tmp 12) (.const (.int .i64 2)))⟩ .done)))) (.cond (.tmp 13)
 (.seq
 (.reg false (.op false ⟨(some 2), none, (.mv (.const (.bool false)))⟩ .done)) .ret) .skip))))
 (.reg false (.op false ⟨(some 14), none, (.bin .add (.tmp 7) (.const (.int .i64 1)))⟩
  (.op false ⟨(some 7), none, (.mv (.tmp 14))⟩ .done)))))))))
 (.seq
 (.reg false (.op false ⟨(some 2), none, (.mv (.const (.bool true)))⟩ .done)) .ret)))⟩

theorem plain_ok {P : Program} {f : FuncId} (hd : dec P f = some g_thimblelaw08_plain) : PlainOk P f := by
  intro d w l hw
  have n1 := RSl.len_le hw
  obtain ⟨a, c, rfl⟩ := RSl.val hw
  have hw' : RSl 6 RSt d (.slice a l.length c) l := hw
  refine GPure.of' hd (Nat.le_of_ble_eq_true rfl) ?_
  show gwp P _ _ _ _ _
  (apply w_sq; apply w_reg; apply w_mvb; rfl; apply w_done0; apply w_sq; apply w_sq; apply w_reg; apply w_mvs; rfl; apply w_len; rfl; apply w_mvi; rfl; apply w_done0; apply w_block)
  refine w_loopN (α := Nat) (fun i => [(5, .slice a l.length c), (6, .int .i64 l.length), (7, .int .i64 i)]) (fun _ => []) (fun i => i ≤ l.length ∧ (l.take i).all (fun s => decide (s.kind ≠ 2)) = true) (fun i => l.length - i) 0 ⟨rfl, rfl, rfl, trivial⟩ rfl ⟨Nat.zero_le _, rfl⟩ ?_
  rintro i ρ ⟨hi, hall⟩
  by_cases hc : i < l.length
  · (apply w_sq; apply w_reg; apply w_lss; rfl; rfl; apply w_done0; apply w_sq; refine w_ifdT rfl (by omega) ?_; apply w_skip; apply w_sq; apply w_block; apply w_sq; apply w_reg; refine w_idxR (sz := 6) (R := RSt) (by rfl) (by assumption) (by rfl) rfl (by omega) ?_; rintro _ _ _ _ _ ⟨rfl, _, _, _, _⟩; apply w_ldd; rfl; assumption; rfl; apply w_alo; intro _ _)
    rename_i b4 T4
    refine w_stE 0 [.int .i64 l[i].kind, strV l[i].text, .int .i64 l[i].src, .int .i64 l[i].dst, .bool l[i].hf, .bool l[i].ht] rfl rfl rfl rfl (Nat.le_of_ble_eq_true rfl) rfl rfl ?_
    by_cases hk : l[i].kind = 2
    · (apply w_done0; apply w_sq; apply w_reg; apply w_fld; rfl; apply w_ld; rfl; exact hc_i 0 rfl rfl; apply w_eql; rfl; rfl; apply w_done0; refine w_ifdT rfl (by omega) ?_; apply w_sq; apply w_reg; apply w_mvb; rfl; apply w_done0; apply w_ret)
      apply finQb; rfl
      exact (plain_false hc hk).symm
    · (apply w_done0; apply w_sq; apply w_reg; apply w_fld; rfl; apply w_ld; rfl; exact hc_i 0 rfl rfl; apply w_eql; rfl; rfl; apply w_done0; refine w_ifdF rfl (by omega) ?_)
      apply w_skip; apply w_reg
      refine w_vs d [] (Vs.drop (List.nil_sublist _)) ?_
      (apply w_add; rfl; rfl; omega; omega; apply w_mvi; rfl; apply w_done0)
      exact ⟨i + 1, by omega, ⟨rfl, rfl, int_eq (by omega), trivial⟩, rfl, rfl, by omega, by rw [List.take_add_one, List.getElem?_eq_getElem hc, List.all_append, hall]; simp [hk]⟩
  · obtain rfl : i = l.length := by omega
    rw [List.take_length] at hall
    (apply w_sq; apply w_reg; apply w_lss; rfl; rfl; apply w_done0; apply w_sq; refine w_ifdF rfl (by omega) ?_; apply w_exit; apply w_sq; apply w_reg; apply w_mvb; rfl; apply w_done0; apply w_ret)
    apply finQb; rfl
    exact hall.symm

def g_thimblelaw08_StepsBack (f_thimblelaw08_works f_thimblelaw08_great f_thimblelaw08_plain f_steps_Put f_thimbleref03_Same f_steps_Get : Nat) : GFun :=
 ⟨48, [(.tmp 6)],
 (.seq
 (.reg false (.op false ⟨(some 3), none, (.box (.tmp 0))⟩
  (.op false ⟨(some 5), none, (.box (.tmp 2))⟩
  (.op false ⟨(some 6), none, (.mv (.const (.bool false)))⟩ .done))))
 (.seq (.seq
 (.reg false (.op false ⟨(some 11), none, (.call f_thimblelaw08_works [])⟩
  (.op false ⟨(some 12), none, (.un .not (.tmp 11))⟩ .done))) (.cond (.tmp 12)
 (.seq
 (.reg false (.op false ⟨(some 6), none, (.mv (.const (.bool false)))⟩ .done)) .ret) .skip))
 (.seq (.seq
 (.reg false (.op false ⟨(some 13), none, (.mv (.tmp 1))⟩
  (.op false ⟨(some 14), none, (.ld (some 6) (.tmp 3))⟩
  (.op false ⟨(some 15), none, (.ld (some 6) (.tmp 5))⟩
  (.op false ⟨(some 16), none, (.bsl 2 6 [(.int .i64 0), (.int .i64 0), (.int .i64 0), (strV []), (.slice none 0 0), (.slice none 0 0)] [(0, (.tmp 14)), (1, (.tmp 15))])⟩
  (.op false ⟨(some 17), none, (.call f_thimblelaw08_great [(.tmp 13), (.tmp 16)])⟩
  (.op false ⟨(some 18), none, (.mv (.tmp 17))⟩
  (.op false ⟨(some 19), (some (18, false)), (.mv (.tmp 1))⟩
  (.op false ⟨(some 20), (some (18, false)), (.call f_thimblelaw08_plain [(.tmp 19)])⟩
  (.op false ⟨(some 21), (some (18, false)), (.un .not (.tmp 20))⟩
  (.op false ⟨(some 22), none, (.pick (.tmp 18) (.const (.bool true)) (.tmp 21))⟩ .done))))))))))) (.cond (.tmp 22)
 (.seq
 (.reg false (.op false ⟨(some 6), none, (.mv (.const (.bool true)))⟩ .done)) .ret) .skip))
 (.seq
 (.reg false (.op false ⟨(some 24), none, (.ld (some 6) (.tmp 3))⟩
  (.op false ⟨(some 25), none, (.mv (.tmp 1))⟩
  (.op false ⟨(some 26), none, (.ld (some 6) (.tmp 5))⟩
  (.op false ⟨(some 27), none, (.call f_steps_Put [(.tmp 24), (.tmp 25), (.tmp 26)])⟩
  (.op false ⟨(some 23), none, (.mv (.tmp 27))⟩
  (.op false ⟨(some 28), none, (.ext (.tmp 23) 0)⟩
  (.op false ⟨(some 29), none, (.ext (.tmp 23) 1)⟩
  (.op false ⟨(some 7), none, (.alo (.agg #[(.int .i64 0), (.int .i64 0), (.int .i64 0), (strV []), (.slice none 0 0), (.slice none 0 0)]))⟩
  (.op false ⟨none, none, (.st 6 (.tmp 7) (.tmp 28))⟩
  (.op false ⟨(some 8), none, (.mv (.tmp 29))⟩ .done)))))))))))
 (.seq (.seq
 (.reg false (.op false ⟨(some 30), none, (.mv (.tmp 8))⟩
  (.op false ⟨(some 31), none, (.bin .neq (.tmp 30) (.const (.int .i64 0)))⟩ .done))) (.cond (.tmp 31)
 (.seq
 (.reg false (.op false ⟨(some 32), none, (.ld (some 6) (.tmp 7))⟩
  (.op false ⟨(some 33), none, (.bld [(0, 1), (1, 2), (3, 1), (4, 1), (5, 1)] [(.int .i64 0), (.int .i64 0), (.int .i64 0), (strV []), (.slice none 0 0), (.slice none 0 0)] [])⟩
  (.op false ⟨(some 34), none, (.call f_thimbleref03_Same [(.tmp 32), (.tmp 33)])⟩
  (.op false ⟨(some 6), none, (.mv (.tmp 34))⟩ .done))))) .ret) .skip))
 (.seq
 (.reg false (.op false ⟨(some 36), none, (.ld (some 6) (.tmp 7))⟩
  (.op false ⟨(some 37), none, (.mv (.tmp 1))⟩
  (.op false ⟨(some 38), none, (.call f_steps_Get [(.tmp 36), (.tmp 37)])⟩
  (.op false ⟨(some 35), none, (.mv (.tmp 38))⟩
  (.op false ⟨(some 39), none, (.ext (.tmp 35) 0)⟩
  (.op false ⟨(some 40), none, (.ext (.tmp 35) 1)⟩
  (.op false ⟨(some 9), none, (.alo (.agg #[(.int .i64 0), (.int .i64 0), (.int .i64 0), (strV []), (.slice none 0 0), (.slice none 0 0)]))⟩
  (.op false ⟨none, none, (.st 6 (.tmp 9) (.tmp 39))⟩
  (.op false ⟨(some 10), none, (.mv (.tmp 40))⟩ .done))))))))))
 (.seq
 (.reg false (.op false ⟨(some 41), none, (.mv (.tmp 10))⟩
  (.op false ⟨(some 42), none, (.bin .eql (.tmp 41) (.const (.int .i64 0)))⟩
  (.op false ⟨(some 43), none, (.mv (.tmp 42))⟩
  (.op false ⟨(some 44), (some (43, true)), (.ld (some 6) (.tmp 5))⟩
  (.op false ⟨(some 45), (some (43, true)), (.ld (some 6) (.tmp 9))⟩
  (.op false ⟨(some 46), (some (43, true)), (.call f_thimbleref03_Same [(.tmp 44), (.tmp 45)])⟩
  (.op false ⟨(some 47), none, (.pick (.tmp 43) (.tmp 46) (.const (.bool false)))⟩
  (.op false ⟨(some 6), none, (.mv (.tmp 47))⟩ .done))))))))) .ret)))))))⟩

set_option maxHeartbeats 2000000 in
theorem stepsBack_ok {T : PHeap → Prop} {P : Program} {f f1 f2 f3 f4 f5 f6 : FuncId} (hT : ∀ {d d' : PHeap}, Le d d' → T d → T d') (hd : dec P f = some (g_thimblelaw08_StepsBack f1 f2 f3 f4 f5 f6)) (h1 : WorksOk T P f1) (h2 : GreatOk P f2) (h3 : PlainOk P f3) (h4 : PutOk T P f4) (h5 : SameOk P f5) (h6 : GetOk T P f6)
    {d : PHeap} {cs es : List Value} {w : Value} {v x : V} {l : List St} (ht : T d) (hv : RVal d cs v) (hw : RSl 6 RSt d w l) (hx : RVal d es x) : GPure P f [.agg cs.toArray, w, .agg es.toArray] d (.bool true) := by
  have n1 := RSl.len_le hw
  obtain ⟨a, c, rfl⟩ := RSl.val hw
  have hw' : RSl 6 RSt d (.slice a l.length c) l := hw
  obtain ⟨c0, c1, c2, c3, c4, c5, rfl⟩ := six hv.len
  obtain ⟨x0, x1, x2, x3, x4, x5, rfl⟩ := six hx.len
  refine GPure.of' hd (Nat.le_of_ble_eq_true rfl) ?_
  show gwp P _ _ _ _ _
  apply w_sq; apply w_reg
  refine w_boxa (l := [c0, c1, c2, c3, c4, c5]) rfl (fun b3 T3 => ?_)
  refine w_boxa (l := [x0, x1, x2, x3, x4, x5]) rfl (fun b5 T5 => ?_)
  (apply w_mvb; rfl; apply w_done0; apply w_sq; apply w_sq; apply w_reg)
  refine w_pure rfl (h1 ht) ?_
  (apply w_not; rfl; apply w_done0; apply w_ifF; rfl; apply w_skip; apply w_sq; apply w_sq; apply w_reg; apply w_mvs; rfl; apply w_ldb 1; rfl; rfl; rfl; apply w_ldb 0; rfl; rfl; rfl)
  refine w_bsV2 (a := [c0, c1, c2, c3, c4, c5]) (b := [x0, x1, x2, x3, x4, x5]) rfl rfl rfl rfl (fun b16 T16 => ?_)
  refine w_frz (fun d1 hl1 hg1 => ?_)
  have hv1 := RVal.mono hl1 hv
  have hx1 := RVal.mono hl1 hx
  have hw1 : RSl 6 RSt d1 (.slice a l.length c) l := RSl.mono (R := RSt) (fun hl h => h) hw hl1
  have ht1 := hT hl1 ht
  refine w_call0 rfl (h2 hw1 (rvals2 hv hx hl1 hg1)) (fun r d3 L3 _ ⟨hdd, hL, b, hr, hb⟩ => ?_)
  subst hdd; subst hL; subst hr
  cases b with
  | true =>
    (apply w_mvb; rfl; apply w_gF; rfl; apply w_gF; rfl; apply w_gF; rfl; apply w_pickTb; rfl; rfl; apply w_done0; apply w_ifT; rfl; apply w_sq; apply w_reg; apply w_mvb; rfl; apply w_done0; apply w_ret)
    exact finQ rfl
  | false =>
  obtain ⟨hll, hbv⟩ := hb rfl
  have hbv : bulkV v + bulkV x ≤ 1000 := by
    have e : bulkV (.mk 0 0 0 [] [v, x] []) = 1 + 0 + 0 + (bulkV v + (bulkV x + 0)) := rfl
    omega
  have htv := txt_bulk v
  have htx := txt_bulk x
  have hcx := cnt_txt x
  (apply w_mvb; rfl; apply w_gT; rfl; apply w_mvs; rfl; apply w_gT; rfl)
  refine w_pure rfl (h3 hw1) ?_
  by_cases hp : (l.all fun s => decide (s.kind ≠ 2)) = true
  · rw [hp]
    have hpl : ∀ s ∈ l, s.kind ≠ 2 := fun s hs => by simpa using List.all_eq_true.1 hp s hs
    (apply w_gT; rfl; apply w_not; rfl; apply w_pickFb; rfl; rfl; apply w_done0; apply w_ifF; rfl; apply w_skip; apply w_sq; apply w_reg; apply w_ldb 1; rfl; rfl; rfl; apply w_mvs; rfl; apply w_ldb 0; rfl; rfl; rfl)
    refine w_call0 rfl (h4 ht1 hv1 hw1 hx1 (by omega) (by omega) (by omega)) (fun r d4 L4 _ ⟨hdd, cs6, g, hr, hL, ho⟩ => ?_)
    subst hdd; subst hL; subst hr
    refine w_frz (fun d4 hl4 hg4 => ?_)
    have ha := ho.rval hg4
    obtain ⟨g0, g1, g2, g3, g4, g5, rfl⟩ := six ha.len
    have hw4 : RSl 6 RSt d4 (.slice a l.length c) l := RSl.mono (R := RSt) (fun hl h => h) hw1 hl4
    have ht4 := hT hl4 ht1
    have hx4 := RVal.mono hl4 hx1
    (apply w_mvu; rfl; apply w_ext; rfl; rfl; apply w_ext; rfl; rfl; apply w_alo; intro _ _)
    rename_i b7 T7
    refine w_stE 0 [g0, g1, g2, g3, g4, g5] rfl rfl rfl rfl (Nat.le_of_ble_eq_true rfl) (cell1_val _ _ _ ha) rfl ?_
    by_cases he : (putTop v l x).2 = 0
    · have e1 := back_top hpl (by omega) he
      have hta : txtV (putTop v l x).1 ≤ 1000000000 := by
        rw [(put_top he).2.2.2.2.2]
        have := put_txt l v x 1000 (by omega)
        have : l.length * (1000 + 4100) ≤ 12 * (1000 + 4100) := Nat.mul_le_mul_right _ hll
        simp only; omega
      generalize (putTop v l x).1 = av at *
      (apply w_mvi; rfl; apply w_done0; apply w_sq; apply w_sq; apply w_reg; apply w_mvi; rfl; apply w_neq; rfl; rfl; apply w_done0; refine w_ifdF rfl (by omega) ?_; apply w_skip; apply w_sq; apply w_reg; apply w_ldb 0; rfl; rfl; rfl; apply w_mvs; rfl)
      refine w_call0 rfl (h6 ht4 ha hw4 hta) (fun r d5 L5 _ ⟨hdd, cs8, g', hr, hL, ho8⟩ => ?_)
      subst hdd; subst hL; subst hr
      refine w_frz (fun d5 hl5 hg5 => ?_)
      rw [e1] at ho8
      have hy := ho8.rval hg5
      obtain ⟨k0, k1, k2, k3, k4, k5, rfl⟩ := six hy.len
      have hx5 := RVal.mono hl5 hx4
      rw [e1]
      (apply w_mvu; rfl; apply w_ext; rfl; rfl; apply w_ext; rfl; rfl; apply w_alo; intro _ _)
      rename_i b9 T9
      refine w_stE 0 [k0, k1, k2, k3, k4, k5] rfl rfl rfl rfl (Nat.le_of_ble_eq_true rfl) (cell1_val _ _ _ hy) rfl ?_
      (apply w_mvi; rfl; apply w_done0; apply w_sq; apply w_reg; apply w_mvi; rfl; apply w_eql; rfl; rfl; apply w_mvb; rfl; refine w_gdT rfl (by omega) ?_; apply w_gT; rfl; apply w_ldb 2; rfl; rfl; rfl; apply w_gT; rfl; apply w_ldb 0; rfl; rfl; rfl; apply w_gT; rfl)
      have hs : sameV x x = true := (sameV_iff _ _).2 rfl
      refine w_pure rfl (h5 x x hx5 hy) ?_
      rw [hs]
      (apply w_pickTb; rfl; rfl; apply w_mvb; rfl; apply w_done0; apply w_ret)
      exact finQ rfl
    · have hz := put_err he
      rw [hz] at ha
      (apply w_mvi; rfl; apply w_done0; apply w_sq; apply w_sq; apply w_reg; apply w_mvi; rfl; apply w_neq; rfl; rfl; apply w_done0; refine w_ifdT rfl (by omega) ?_; apply w_sq; apply w_reg; apply w_ldb 0; rfl; rfl; rfl; apply w_bvZ)
      have hs : sameV V.zero V.zero = true := (sameV_iff _ _).2 rfl
      refine w_pure rfl (h5 _ _ ha RVal.zero) ?_
      rw [hs]
      (apply w_mvb; rfl; apply w_done0; apply w_ret)
      exact finQ rfl
  · rw [Bool.not_eq_true] at hp
    rw [hp]
    (apply w_gT; rfl; apply w_not; rfl; apply w_pickFb; rfl; rfl; apply w_done0; apply w_ifT; rfl; apply w_sq; apply w_reg; apply w_mvb; rfl; apply w_done0; apply w_ret)
    exact finQ rfl
end Go.Gk.Val
end

section
/-
  The laws of ways: StepsTwice.
-/
namespace Go.Gk.Val
open Go Go.Gk Go.Gk.Utf
attribute [local irreducible] gwp gws

theorem putTop_txt (v x : V) (l : List St) (B : Nat) (hb : txtV v ≤ B) : txtV (putTop v l x).1 ≤ txtV x + l.length * (B + 4100) := by
  by_cases h : (putTop v l x).2 = 0
  · rw [(put_top h).2.2.2.2.2]; exact put_txt l v x B hb
  · rw [put_err h]
    exact Nat.le_trans (zero_txt x) (Nat.le_add_right _ _)
def g_thimblelaw08_StepsTwice (f_thimblelaw08_works f_thimblelaw08_great f_thimblelaw08_plain f_steps_Put f_thimbleref03_Same : Nat) : GFun :=
 ⟨79, [(.tmp 8)],
 (.seq
 (.reg false (.op false ⟨(some 4), none, (.box (.tmp 0))⟩
  (.op false ⟨(some 6), none, (.box (.tmp 2))⟩
  (.op false ⟨(some 7), none, (.box (.tmp 3))⟩
  (.op false ⟨(some 8), none, (.mv (.const (.bool false)))⟩ .done)))))
 (.seq (.seq
 (.reg false (.op false ⟨(some 17), none, (.call f_thimblelaw08_works [])⟩
  (.op false ⟨(some 18), none, (.un .not (.tmp 17))⟩ .done))) (.cond (.tmp 18)
 (.seq
 (.reg false (.op false ⟨(some 8), none, (.mv (.const (.bool false)))⟩ .done)) .ret) .skip))
 (.seq (.seq
 (.reg false (.op false ⟨(some 19), none, (.mv (.tmp 1))⟩
  (.op false ⟨(some 20), none, (.ld (some 6) (.tmp 4))⟩
  (.op false ⟨(some 21), none, (.ld (some 6) (.tmp 6))⟩
  (.op false ⟨(some 22), none, (.ld (some 6) (.tmp 7))⟩
  (.op false ⟨(some 23), none, (.bsl 3 6 [(.int .i64 0), (.int .i64 0), (.int .i64 0), (strV []), (.slice none 0 0), (.slice none 0 0)] [(0, (.tmp 20)), (1, (.tmp 21)), (2, (.tmp 22))])⟩
  (.op false ⟨(some 24), none, (.call f_thimblelaw08_great [(.tmp 19), (.tmp 23)])⟩
  (.op false ⟨(some 25), none, (.mv (.tmp 24))⟩
  (.op false ⟨(some 26), (some (25, false)), (.mv (.tmp 1))⟩
  (.op false ⟨(some 27), (some (25, false)), (.call f_thimblelaw08_plain [(.tmp 26)])⟩
  (.op false ⟨(some 28), (some (25, false)), (.un .not (.tmp 27))⟩
  (.op false ⟨(some 29), none, (.pick (.tmp 25) (.const (.bool true)) (.tmp 28))⟩ .done)))))))))))) (.cond (.tmp 29)
 (.seq
 (.reg false (.op false ⟨(some 8), none, (.mv (.const (.bool true)))⟩ .done)) .ret) .skip))
 (.seq (.seq
 (.reg false (.op false ⟨(some 30), none, (.mv (.tmp 1))⟩
  (.op false ⟨(some 31), none, (.len (.tmp 30))⟩
  (.op false ⟨(some 32), none, (.mv (.const (.int .i64 0)))⟩ .done)))) (.block 0 (.loop
 (.seq
 (.reg false (.op false ⟨(some 33), none, (.bin .lss (.tmp 32) (.tmp 31))⟩ .done))
 (.seq (.cond (.tmp 33) .skip (.exit 0))
 (.seq (.block 1
 (.seq
 (.reg false (.op false ⟨(some 34), none, (.idx 6 (.tmp 30) (.tmp 32))⟩
  (.op false ⟨(some 35), none, (.ld (some 6) (.tmp 34))⟩
  (.op false ⟨(some 10), none, (.alo (.agg #[(.int .i64 0), (strV []), (.int .i64 0), (.int .i64 0), (.bool false), (.bool false)]))⟩
  (.op false ⟨none, none, (.st 6 (.tmp 10) (.tmp 35))⟩ .done)))))
 (.seq
 (.reg false (.op false ⟨(some 36), none, (.fld 0 (.tmp 10))⟩
  (.op false ⟨(some 37), none, (.ld none (.tmp 36))⟩
  (.op false ⟨(some 38), none, (.bin .eql (.tmp 37) (.const (.int .i64 1)))⟩
  (.op false ⟨(some 39), none, (.mv (.tmp 38))⟩
  (.op false ⟨(some 40), (some (39, true)), (.fld 2 (.tmp 10))⟩
  (.op false ⟨(some 41), (some (39, true)), (.ld none (.tmp 40))⟩
  (.op false ⟨(some 42), (some (39, true)), (.bin .lss (.tmp 41) (.const (.int .i64 0)))⟩
  (.op false ⟨(some 43), none, (.pick (.tmp 39) (.tmp 42) (.const (.bool false)))⟩ .done))))))))) (.cond (.tmp 43)
 (.seq
 (.reg false (.op false ⟨(some 8), none, (.mv (.const (.bool true)))⟩ .done)) .ret) .skip))))
 (.reg false (.op false ⟨(some 44), none, (.bin .add (.tmp 32) (.const (.int .i64 1)))⟩
  (.op false ⟨(some 32), none, (.mv (.tmp 44))⟩ .done)))))))))
 (.seq
 (.reg false (.op false ⟨(some 46), none, (.ld (some 6) (.tmp 4))⟩
  (.op false ⟨(some 47), none, (.mv (.tmp 1))⟩
  (.op false ⟨(some 48), none, (.ld (some 6) (.tmp 6))⟩
  (.op false ⟨(some 49), none, (.call f_steps_Put [(.tmp 46), (.tmp 47), (.tmp 48)])⟩
  (.op false ⟨(some 45), none, (.mv (.tmp 49))⟩
  (.op false ⟨(some 50), none, (.ext (.tmp 45) 0)⟩
  (.op false ⟨(some 51), none, (.ext (.tmp 45) 1)⟩
  (.op false ⟨(some 11), none, (.alo (.agg #[(.int .i64 0), (.int .i64 0), (.int .i64 0), (strV []), (.slice none 0 0), (.slice none 0 0)]))⟩
  (.op false ⟨none, none, (.st 6 (.tmp 11) (.tmp 50))⟩
  (.op false ⟨(some 12), none, (.mv (.tmp 51))⟩ .done)))))))))))
 (.seq
 (.reg false (.op false ⟨(some 53), none, (.ld (some 6) (.tmp 11))⟩
  (.op false ⟨(some 54), none, (.mv (.tmp 1))⟩
  (.op false ⟨(some 55), none, (.ld (some 6) (.tmp 7))⟩
  (.op false ⟨(some 56), none, (.call f_steps_Put [(.tmp 53), (.tmp 54), (.tmp 55)])⟩
  (.op false ⟨(some 52), none, (.mv (.tmp 56))⟩
  (.op false ⟨(some 57), none, (.ext (.tmp 52) 0)⟩
  (.op false ⟨(some 58), none, (.ext (.tmp 52) 1)⟩
  (.op false ⟨(some 13), none, (.alo (.agg #[(.int .i64 0), (.int .i64 0), (.int .i64 0), (strV []), (.slice none 0 0), (.slice none 0 0)]))⟩
  (.op false ⟨none, none, (.st 6 (.tmp 13) (.tmp 57))⟩
  (.op false ⟨(some 14), none, (.mv (.tmp 58))⟩ .done)))))))))))
 (.seq
 (.reg false (.op false ⟨(some 60), none, (.ld (some 6) (.tmp 4))⟩
  (.op false ⟨(some 61), none, (.mv (.tmp 1))⟩
  (.op false ⟨(some 62), none, (.ld (some 6) (.tmp 7))⟩
  (.op false ⟨(some 63), none, (.call f_steps_Put [(.tmp 60), (.tmp 61), (.tmp 62)])⟩
  (.op false ⟨(some 59), none, (.mv (.tmp 63))⟩
  (.op false ⟨(some 64), none, (.ext (.tmp 59) 0)⟩
  (.op false ⟨(some 65), none, (.ext (.tmp 59) 1)⟩
  (.op false ⟨(some 15), none, (.alo (.agg #[(.int .i64 0), (.int .i64 0), (.int .i64 0), (strV []), (.slice none 0 0), (.slice none 0 0)]))⟩
  (.op false ⟨none, none, (.st 6 (.tmp 15) (.tmp 64))⟩
  (.op false ⟨(some 16), none, (.mv (.tmp 65))⟩ .done)))))))))))
 (.seq (.seq
 (.reg false (.op false ⟨(some 66), none, (.mv (.tmp 12))⟩
  (.op false ⟨(some 67), none, (.bin .neq (.tmp 66) (.const (.int .i64 0)))⟩
  (.op false ⟨(some 68), none, (.mv (.tmp 67))⟩
  (.op false ⟨(some 69), (some (68, false)), (.mv (.tmp 16))⟩
  (.op false ⟨(some 70), (some (68, false)), (.bin .neq (.tmp 69) (.const (.int .i64 0)))⟩
  (.op false ⟨(some 71), none, (.pick (.tmp 68) (.const (.bool true)) (.tmp 70))⟩ .done))))))) (.cond (.tmp 71)
 (.seq
 (.reg false (.op false ⟨(some 8), none, (.mv (.const (.bool true)))⟩ .done)) .ret) .skip))
 (.seq
 (.reg false (.op false ⟨(some 72), none, (.mv (.tmp 14))⟩
  (.op false ⟨(some 73), none, (.bin .eql (.tmp 72) (.const (.int .i64 0)))⟩
  (.op false ⟨(some 74), none, (.mv (.tmp 73))⟩
  (.op false ⟨(some 75), (some (74, true)), (.ld (some 6) (.tmp 13))⟩
  (.op false ⟨(some 76), (some (74, true)), (.ld (some 6) (.tmp 15))⟩
  (.op false ⟨(some 77), (some (74, true)), (.call f_thimbleref03_Same [(.tmp 75), (.tmp 76)])⟩
  (.op false ⟨(some 78), none, (.pick (.tmp 74) (.tmp 77) (.const (.bool false)))⟩
  (.op false ⟨(some 8), none, (.mv (.tmp 78))⟩ .done))))))))) .ret)))))))))⟩

set_option maxHeartbeats 2000000 in
theorem stepsTwice_ok {T : PHeap → Prop} {P : Program} {f f1 f2 f3 f4 f5 : FuncId} (hT : ∀ {d d' : PHeap}, Le d d' → T d → T d') (hd : dec P f = some (g_thimblelaw08_StepsTwice f1 f2 f3 f4 f5)) (h1 : WorksOk T P f1) (h2 : GreatOk P f2) (h3 : PlainOk P f3) (h4 : PutOk T P f4) (h5 : SameOk P f5)
    {d : PHeap} {cs es us : List Value} {w : Value} {v x y : V} {l : List St} (ht : T d) (hv : RVal d cs v) (hw : RSl 6 RSt d w l) (hx : RVal d es x) (hy : RVal d us y) : GPure P f [.agg cs.toArray, w, .agg es.toArray, .agg us.toArray] d (.bool true) := by
  have n1 := RSl.len_le hw
  obtain ⟨a, c, rfl⟩ := RSl.val hw
  have hw' : RSl 6 RSt d (.slice a l.length c) l := hw
  obtain ⟨c0, c1, c2, c3, c4, c5, rfl⟩ := six hv.len
  obtain ⟨x0, x1, x2, x3, x4, x5, rfl⟩ := six hx.len
  obtain ⟨y0, y1, y2, y3, y4, y5, rfl⟩ := six hy.len
  refine GPure.of' hd (Nat.le_of_ble_eq_true rfl) ?_
  show gwp P _ _ _ _ _
  apply w_sq; apply w_reg
  refine w_boxa (l := [c0, c1, c2, c3, c4, c5]) rfl (fun b4 T4 => ?_)
  refine w_boxa (l := [x0, x1, x2, x3, x4, x5]) rfl (fun b6 T6 => ?_)
  refine w_boxa (l := [y0, y1, y2, y3, y4, y5]) rfl (fun b7 T7 => ?_)
  (apply w_mvb; rfl; apply w_done0; apply w_sq; apply w_sq; apply w_reg)
  refine w_pure rfl (h1 ht) ?_
  (apply w_not; rfl; apply w_done0; apply w_ifF; rfl; apply w_skip; apply w_sq; apply w_sq; apply w_reg; apply w_mvs; rfl; apply w_ldb 2; rfl; rfl; rfl; apply w_ldb 1; rfl; rfl; rfl; apply w_ldb 0; rfl; rfl; rfl)
  refine w_bsV3 (a := [c0, c1, c2, c3, c4, c5]) (b := [x0, x1, x2, x3, x4, x5]) (c := [y0, y1, y2, y3, y4, y5]) rfl rfl rfl rfl rfl rfl (fun b16 T16 => ?_)
  refine w_frz (fun d1 hl1 hg1 => ?_)
  have hv1 := RVal.mono hl1 hv
  have hx1 := RVal.mono hl1 hx
  have hy1 := RVal.mono hl1 hy
  have hw1 : RSl 6 RSt d1 (.slice a l.length c) l := RSl.mono (R := RSt) (fun hl h => h) hw hl1
  have ht1 := hT hl1 ht
  refine w_call0 rfl (h2 hw1 (rvals3 hv hx hy hl1 hg1)) (fun r d3 L3 _ ⟨hdd, hL, b, hr, hb⟩ => ?_)
  subst hdd; subst hL; subst hr
  cases b with
  | true =>
    (apply w_mvb; rfl; apply w_gF; rfl; apply w_gF; rfl; apply w_gF; rfl; apply w_pickTb; rfl; rfl; apply w_done0; apply w_ifT; rfl; apply w_sq; apply w_reg; apply w_mvb; rfl; apply w_done0; apply w_ret)
    exact finQ rfl
  | false =>
  obtain ⟨hll, hbv⟩ := hb rfl
  have hbv : bulkV v + bulkV x + bulkV y ≤ 1000 := by
    have e : bulkV (.mk 0 0 0 [] [v, x, y] []) = 1 + 0 + 0 + (bulkV v + (bulkV x + (bulkV y + 0))) := rfl
    omega
  have htv := txt_bulk v
  have htx := txt_bulk x
  have hty := txt_bulk y
  have hcx := cnt_txt x
  have hcy := cnt_txt y
  (apply w_mvb; rfl; apply w_gT; rfl; apply w_mvs; rfl; apply w_gT; rfl)
  refine w_pure rfl (h3 hw1) ?_
  by_cases hp : (l.all fun s => decide (s.kind ≠ 2)) = true
  · rw [hp]
    have hpl : ∀ s ∈ l, s.kind ≠ 2 := fun s hs => by simpa using List.all_eq_true.1 hp s hs
    (apply w_gT; rfl; apply w_not; rfl; apply w_pickFb; rfl; rfl; apply w_done0; apply w_ifF; rfl; apply w_skip; apply w_sq; apply w_sq; apply w_reg; apply w_mvs; rfl; apply w_len; rfl; apply w_mvi; rfl; apply w_done0; apply w_block)
    refine w_loopN (α := Nat) (fun i => [(1, .slice a l.length c), (4, .pointer (some ⟨b4, 0, none⟩)), (6, .pointer (some ⟨b6, 0, none⟩)), (7, .pointer (some ⟨b7, 0, none⟩)), (30, .slice a l.length c), (31, .int .i64 l.length), (32, .int .i64 i)])
      (fun _ => [bx b7 T7 [y0, y1, y2, y3, y4, y5], bx b6 T6 [x0, x1, x2, x3, x4, x5], bx b4 T4 [c0, c1, c2, c3, c4, c5]]) (fun i => i ≤ l.length) (fun i => l.length - i) 0 ⟨rfl, rfl, rfl, rfl, rfl, rfl, rfl, trivial⟩ rfl (Nat.zero_le _) ?_
    rintro i ρ hi
    by_cases hc : i < l.length
    · (apply w_sq; apply w_reg; apply w_lss; rfl; rfl; apply w_done0; apply w_sq; refine w_ifdT rfl (by omega) ?_; apply w_skip; apply w_sq; apply w_block; apply w_sq; apply w_reg; refine w_idxR (sz := 6) (R := RSt) (by rfl) (by assumption) (by rfl) rfl (by omega) ?_; rintro _ _ _ _ _ ⟨rfl, _, _, _, _⟩; apply w_ldd; rfl; assumption; rfl; apply w_alo; intro _ _)
      rename_i b10 T10
      refine w_stE 0 [.int .i64 l[i].kind, strV l[i].text, .int .i64 l[i].src, .int .i64 l[i].dst, .bool l[i].hf, .bool l[i].ht] rfl rfl rfl rfl (Nat.le_of_ble_eq_true rfl) rfl rfl ?_
      by_cases hk : l[i].kind = 1
      · by_cases hs : l[i].src < 0
        · (apply w_done0; apply w_sq; apply w_reg; apply w_fld; rfl; apply w_ld; rfl; exact hc_i 0 rfl rfl; apply w_eql; rfl; rfl; apply w_mvb; rfl; refine w_gdT rfl (by omega) ?_; apply w_gT; rfl; apply w_fld; rfl; apply w_gT; rfl; apply w_ld; rfl; exact hc_i 0 rfl rfl; apply w_gT; rfl; apply w_lss; rfl; rfl; apply w_pickTb; rfl; rfl; apply w_done0; refine w_ifdT rfl (by omega) ?_; apply w_sq; apply w_reg; apply w_mvb; rfl; apply w_done0; apply w_ret)
          exact finQ rfl
        · (apply w_done0; apply w_sq; apply w_reg; apply w_fld; rfl; apply w_ld; rfl; exact hc_i 0 rfl rfl; apply w_eql; rfl; rfl; apply w_mvb; rfl; refine w_gdT rfl (by omega) ?_; apply w_gT; rfl; apply w_fld; rfl; apply w_gT; rfl; apply w_ld; rfl; exact hc_i 0 rfl rfl; apply w_gT; rfl; apply w_lss; rfl; rfl; apply w_pickTb; rfl; rfl; apply w_done0; refine w_ifdF rfl (by omega) ?_)
          apply w_skip; apply w_reg
          refine w_vs d3 [bx b7 T7 [y0, y1, y2, y3, y4, y5], bx b6 T6 [x0, x1, x2, x3, x4, x5], bx b4 T4 [c0, c1, c2, c3, c4, c5]] (Vs.drop (List.sublist_cons_self _ _)) ?_
          (apply w_add; rfl; rfl; omega; omega; apply w_mvi; rfl; apply w_done0)
          exact ⟨i + 1, by omega, ⟨rfl, rfl, rfl, rfl, rfl, rfl, int_eq (by omega), trivial⟩, rfl, rfl, hc⟩
      · (apply w_done0; apply w_sq; apply w_reg; apply w_fld; rfl; apply w_ld; rfl; exact hc_i 0 rfl rfl; apply w_eql; rfl; rfl; apply w_mvb; rfl; refine w_gdF rfl (by omega) ?_; apply w_gF; rfl; apply w_gF; rfl; apply w_gF; rfl; apply w_pickFb; rfl; rfl; apply w_done0; apply w_ifF; rfl)
        apply w_skip; apply w_reg
        refine w_vs d3 [bx b7 T7 [y0, y1, y2, y3, y4, y5], bx b6 T6 [x0, x1, x2, x3, x4, x5], bx b4 T4 [c0, c1, c2, c3, c4, c5]] (Vs.drop (List.sublist_cons_self _ _)) ?_
        (apply w_add; rfl; rfl; omega; omega; apply w_mvi; rfl; apply w_done0)
        exact ⟨i + 1, by omega, ⟨rfl, rfl, rfl, rfl, rfl, rfl, int_eq (by omega), trivial⟩, rfl, rfl, hc⟩
    · obtain rfl : i = l.length := by omega
      have hmul : l.length * (1000 + 4100) ≤ 12 * (1000 + 4100) := Nat.mul_le_mul_right _ hll
      have hta := putTop_txt v x l 1000 (by omega)
      (apply w_sq; apply w_reg; apply w_lss; rfl; rfl; apply w_done0; apply w_sq; refine w_ifdF rfl (by omega) ?_; apply w_exit; apply w_sq; apply w_reg; apply w_ldb 2; rfl; rfl; rfl; apply w_mvs; rfl; apply w_ldb 1; rfl; rfl; rfl)
      refine w_call0 rfl (h4 ht1 hv1 hw1 hx1 (by omega) (by omega) (by omega)) (fun r d4 L4 _ ⟨hdd, cs6, g, hr, hL, ho⟩ => ?_)
      subst hdd; subst hL; subst hr
      refine w_frz (fun d4 hl4 hg4 => ?_)
      have ha := ho.rval hg4
      obtain ⟨g0, g1, g2, g3, g4, g5, rfl⟩ := six ha.len
      have hw4 : RSl 6 RSt d4 (.slice a l.length c) l := RSl.mono (R := RSt) (fun hl h => h) hw1 hl4
      have ht4 := hT hl4 ht1
      have hy4 := RVal.mono hl4 hy1
      have hv4 := RVal.mono hl4 hv1
      (apply w_mvu; rfl; apply w_ext; rfl; rfl; apply w_ext; rfl; rfl; apply w_alo; intro _ _)
      rename_i b11 T11
      refine w_stE 0 [g0, g1, g2, g3, g4, g5] rfl rfl rfl rfl (Nat.le_of_ble_eq_true rfl) (cell1_val _ _ _ ha) rfl ?_
      (apply w_mvi; rfl; apply w_done0; apply w_sq; apply w_reg; apply w_ldb 0; rfl; rfl; rfl; apply w_mvs; rfl; apply w_ldb 1; rfl; rfl; rfl)
      refine w_call0 rfl (h4 ht4 ha hw4 hy4 (by omega) (by omega) (by omega)) (fun r d5 L5 _ ⟨hdd, cs8, g', hr, hL, ho8⟩ => ?_)
      subst hdd; subst hL; subst hr
      refine w_frz (fun d5 hl5 hg5 => ?_)
      have hb5 := ho8.rval hg5
      obtain ⟨k0, k1, k2, k3, k4, k5, rfl⟩ := six hb5.len
      have hw5 : RSl 6 RSt d5 (.slice a l.length c) l := RSl.mono (R := RSt) (fun hl h => h) hw4 hl5
      have ht5 := hT hl5 ht4
      have hy5 := RVal.mono hl5 hy4
      have hv5 := RVal.mono hl5 hv4
      (apply w_mvu; rfl; apply w_ext; rfl; rfl; apply w_ext; rfl; rfl; apply w_alo; intro _ _)
      rename_i b13 T13
      refine w_stE 0 [k0, k1, k2, k3, k4, k5] rfl rfl rfl rfl (Nat.le_of_ble_eq_true rfl) (cell1_val _ _ _ hb5) rfl ?_
      (apply w_mvi; rfl; apply w_done0; apply w_sq; apply w_reg; apply w_ldb 4; rfl; rfl; rfl; apply w_mvs; rfl; apply w_ldb 2; rfl; rfl; rfl)
      refine w_call0 rfl (h4 ht5 hv5 hw5 hy5 (by omega) (by omega) (by omega)) (fun r d6 L6 _ ⟨hdd, cs10, g'', hr, hL, ho10⟩ => ?_)
      subst hdd; subst hL; subst hr
      refine w_frz (fun d6 hl6 hg6 => ?_)
      have hc6 := ho10.rval hg6
      obtain ⟨m0, m1, m2, m3, m4, m5, rfl⟩ := six hc6.len
      have hb6 := RVal.mono hl6 hb5
      (apply w_mvu; rfl; apply w_ext; rfl; rfl; apply w_ext; rfl; rfl; apply w_alo; intro _ _)
      rename_i b15 T15
      refine w_stE 0 [m0, m1, m2, m3, m4, m5] rfl rfl rfl rfl (Nat.le_of_ble_eq_true rfl) (cell1_val _ _ _ hc6) rfl ?_
      by_cases he : (putTop v l x).2 = 0
      · by_cases hg : (putTop v l y).2 = 0
        · have e2 := twice_top hpl (by omega) he hg
          have hs : sameV (putTop v l y).1 (putTop v l y).1 = true := (sameV_iff _ _).2 rfl
          rw [e2] at hb6 ⊢
          (apply w_mvi; rfl; apply w_done0; apply w_sq; apply w_sq; apply w_reg; apply w_mvi; rfl; apply w_neq; rfl; rfl; apply w_mvb; rfl; refine w_gdF rfl (by omega) ?_; apply w_gT; rfl; apply w_mvi; rfl; apply w_gT; rfl; apply w_neq; rfl; rfl; apply w_pickFb; rfl; rfl; apply w_done0; refine w_ifdF rfl (by omega) ?_; apply w_skip; apply w_sq; apply w_reg; apply w_mvi; rfl; apply w_eql; rfl; rfl; apply w_mvb; rfl; refine w_gdT rfl (by omega) ?_; apply w_gT; rfl; apply w_ldb 1; rfl; rfl; rfl; apply w_gT; rfl; apply w_ldb 0; rfl; rfl; rfl; apply w_gT; rfl)
          refine w_pure rfl (h5 _ _ hb6 hc6) ?_
          rw [hs]
          (apply w_pickTb; rfl; rfl; apply w_mvb; rfl; apply w_done0; apply w_ret)
          exact finQ rfl
        · (apply w_mvi; rfl; apply w_done0; apply w_sq; apply w_sq; apply w_reg; apply w_mvi; rfl; apply w_neq; rfl; rfl; apply w_mvb; rfl; refine w_gdF rfl (by omega) ?_; apply w_gT; rfl; apply w_mvi; rfl; apply w_gT; rfl; apply w_neq; rfl; rfl; apply w_pickFb; rfl; rfl; apply w_done0; refine w_ifdT rfl (by omega) ?_; apply w_sq; apply w_reg; apply w_mvb; rfl; apply w_done0; apply w_ret)
          exact finQ rfl
      · (apply w_mvi; rfl; apply w_done0; apply w_sq; apply w_sq; apply w_reg; apply w_mvi; rfl; apply w_neq; rfl; rfl; apply w_mvb; rfl; refine w_gdT rfl (by omega) ?_; apply w_gF; rfl; apply w_gF; rfl; apply w_pickTb; rfl; rfl; apply w_done0; apply w_ifT; rfl; apply w_sq; apply w_reg; apply w_mvb; rfl; apply w_done0; apply w_ret)
        exact finQ rfl
  · rw [Bool.not_eq_true] at hp
    rw [hp]
    (apply w_gT; rfl; apply w_not; rfl; apply w_pickFb; rfl; rfl; apply w_done0; apply w_ifT; rfl; apply w_sq; apply w_reg; apply w_mvb; rfl; apply w_done0; apply w_ret)
    exact finQ rfl
end Go.Gk.Val
end

section
/-
  The laws of ways, plain: what lies beside.
-/
namespace Go.Gk.Val
open Go Go.Gk

/-! ### what a key has -/
def look (ks : List (List UInt8)) (l : List V) (o : List UInt8) : V := if o ∈ ks then l.getD (ks.idxOf o) V.zero else V.zero
theorem low_idx {ks : List (List UInt8)} (hr : rising ks = true) {k : List UInt8} (h : k ∈ ks) : lowK ks k = ks.idxOf k :=
  mem_low hr (List.idxOf_lt_length_of_mem h) (List.getElem_idxOf _)
theorem into_look {v : V} (h6 : v.kind = 6) (hr : rising v.keys = true) {s : St} (hs : s.kind = 0) : intoF v s = (look v.keys v.list s.text, 0) := by
  rw [into_key h6 hs, look]
  by_cases h : s.text ∈ v.keys
  · rw [if_pos h, if_pos h, low_idx hr h]
  · rw [if_neg h, if_neg h]
theorem getD_right {α : Type} (a b : List α) (i : Nat) (z : α) : (a ++ b).getD (a.length + i) z = b.getD i z := by
  simp [List.getD, List.getElem?_append_right]
theorem look_mid {A M M' B : List (List UInt8)} {LA LM LM' LB : List V} {o : List UInt8} (ha : A.length = LA.length) (hm : M.length = LM.length) (hm' : M'.length = LM'.length) (h : o ∉ M) (h' : o ∉ M') :
    look (A ++ M ++ B) (LA ++ LM ++ LB) o = look (A ++ M' ++ B) (LA ++ LM' ++ LB) o := by
  unfold look
  by_cases hA : o ∈ A
  · have hi : A.idxOf o < LA.length := by rw [← ha]; exact List.idxOf_lt_length_of_mem hA
    have e : ∀ (X : List (List UInt8)) (LX : List V), (LA ++ LX ++ LB).getD ((A ++ X ++ B).idxOf o) V.zero = LA.getD (A.idxOf o) V.zero := by
      intro X LX
      rw [List.append_assoc, List.append_assoc, List.idxOf_append, if_pos hA]
      simp [List.getD, List.getElem?_append_left hi]
    rw [if_pos (by simp [hA]), if_pos (by simp [hA]), e, e]
  · by_cases hB : o ∈ B
    · have e : ∀ (X : List (List UInt8)) (LX : List V), X.length = LX.length → o ∉ X → (LA ++ LX ++ LB).getD ((A ++ X ++ B).idxOf o) V.zero = LB.getD (B.idxOf o) V.zero := by
        intro X LX hX hn
        rw [List.idxOf_append, if_neg (by simp [hA, hn])]
        have : B.idxOf o + (A ++ X).length = (LA ++ LX).length + B.idxOf o := by simp; omega
        rw [this, getD_right]
      rw [if_pos (by simp [hB]), if_pos (by simp [hB]), e M LM hm h, e M' LM' hm' h']
    · rw [if_neg (by simp [hA, hB, h]), if_neg (by simp [hA, hB, h'])]

/-! ### keys that rise -/
theorem take_less {ks : List (List UInt8)} {k a : List UInt8} (h : a ∈ ks.take (lowK ks k)) : Op.bytesLess a k = true := by
  rw [take_low] at h
  exact List.all_eq_true.1 (List.all_takeWhile (p := fun x => Op.bytesLess x k) (l := ks)) a h
theorem drop_more {ks : List (List UInt8)} (hr : rising ks = true) {k b : List UInt8} (h : b ∈ ks.drop (toK ks k)) : Op.bytesLess k b = true := by
  obtain ⟨j, hj, rfl⟩ := List.getElem_of_mem h
  rw [List.getElem_drop]
  have hlt : toK ks k + j < ks.length := by simp at hj; omega
  have hle := (toK_le hr k).1
  have h1 : ¬ Op.bytesLess (ks[toK ks k + j]) k = true := by rw [low_spec hr k _ hlt]; omega
  have h2 : ks[toK ks k + j] ≠ k := by
    intro e
    have hm : k ∈ ks := by rw [← e]; exact List.getElem_mem hlt
    have h3 := mem_low hr hlt e
    have h4 : toK ks k = lowK ks k + 1 := by rw [toK, if_pos hm]
    omega
  rcases bl_total (ks[toK ks k + j]) k with h | h | h
  · exact absurd h h1
  · exact absurd h h2
  · exact h
theorem rising_keyed {ks : List (List UInt8)} (hr : rising ks = true) {k : List UInt8} (hk : u8 k = true) : rising (ks.take (lowK ks k) ++ [k] ++ ks.drop (toK ks k)) = true := by
  have h := rising_iff.1 hr
  refine rising_iff.2 ⟨fun x hx => ?_, ?_⟩
  · simp only [List.mem_append, List.mem_singleton] at hx
    rcases hx with (hx | rfl) | hx
    · exact h.1 x (List.mem_of_mem_take hx)
    · exact hk
    · exact h.1 x (List.mem_of_mem_drop hx)
  · rw [Rise, List.pairwise_append, List.pairwise_append]
    refine ⟨⟨h.2.sublist (List.take_sublist _ _), List.pairwise_singleton _ _, fun a ha b hb => ?_⟩, h.2.sublist (List.drop_sublist _ _), fun a ha b hb => ?_⟩
    · rw [List.mem_singleton] at hb; subst hb; exact take_less ha
    · rcases List.mem_append.1 ha with ha | ha
      · exact bl_trans (take_less ha) (drop_more hr hb)
      · rw [List.mem_singleton] at ha; subst ha; exact drop_more hr hb
theorem mid_split {ks : List (List UInt8)} (hr : rising ks = true) (k : List UInt8) : ∃ M : List (List UInt8), ks = ks.take (lowK ks k) ++ M ++ ks.drop (toK ks k) ∧ (∀ x ∈ M, x = k) ∧ M.length = toK ks k - lowK ks k := by
  have hle := toK_le hr k
  refine ⟨(ks.drop (lowK ks k)).take (toK ks k - lowK ks k), ?_, fun x hx => ?_, by simp; omega⟩
  · conv => lhs; rw [← List.take_append_drop (lowK ks k) ks, ← List.take_append_drop (toK ks k - lowK ks k) (ks.drop (lowK ks k)), List.drop_drop, show lowK ks k + (toK ks k - lowK ks k) = toK ks k by omega]
    rw [List.append_assoc]
  · by_cases hm : k ∈ ks
    · obtain ⟨hlo, he⟩ := (mem_iff hr).1 hm
      rw [toK, if_pos hm, show lowK ks k + 1 - lowK ks k = 1 by omega, List.drop_eq_getElem_cons hlo] at hx
      simp only [List.take_succ_cons, List.take_zero, List.mem_singleton] at hx
      rw [hx, he]
    · rw [toK, if_neg hm, Nat.sub_self, List.take_zero] at hx
      cases hx
theorem list_split (l : List V) {i j : Nat} (h : i ≤ j) (hj : j ≤ l.length) : ∃ M : List V, l = l.take i ++ M ++ l.drop j ∧ M.length = j - i := by
  refine ⟨(l.drop i).take (j - i), ?_, by simp; omega⟩
  conv => lhs; rw [← List.take_append_drop i l, ← List.take_append_drop (j - i) (l.drop i), List.drop_drop, show i + (j - i) = j by omega]
  rw [List.append_assoc]

/-! ### beside -/
theorem null_parts {v : V} (h : oneB v = true) (h0 : v.kind = 0) : v.keys = [] ∧ v.list = [] := by
  obtain ⟨k, m, e, t, l, ks⟩ := v
  have h0 : k = 0 := h0
  subst h0
  simp [oneB, bareB, V.kind, V.m, V.e, V.text, V.list, V.keys] at h
  simp only [V.keys, V.list]
  simp_all
theorem beside_keyed {v : V} (h1 : oneB v = true) (h6 : v.kind = 0 ∨ v.kind = 6) {k : List UInt8} (hk : u8 k = true) (z : V) {s : St} (hs : s.kind = 0) (hne : s.text ≠ k) : intoF (keyedF v k z) s = intoF v s := by
  have hr := one_rising h1
  have hl := one_lens h1 h6
  have hto := toK_le hr k
  rw [into_look (v := keyedF v k z) rfl (rising_keyed hr hk) hs]
  rcases h6 with h0 | h6
  · obtain ⟨e1, e2⟩ := null_parts h1 h0
    rw [into_null h0]
    have e3 : (keyedF v k z).keys = [k] := by simp [keyedF, e1]
    rw [look, if_neg (by rw [e3]; simp [hne])]
  · rw [into_look h6 hr hs]
    obtain ⟨M, hM, hall, hlen⟩ := mid_split hr k
    obtain ⟨LM, hLM, hlen2⟩ := list_split v.list hto.1 (by omega)
    have := look_mid (A := v.keys.take (lowK v.keys k)) (M := M) (M' := [k]) (B := v.keys.drop (toK v.keys k)) (LA := v.list.take (lowK v.keys k)) (LM := LM) (LM' := [z]) (LB := v.list.drop (toK v.keys k)) (o := s.text)
      (by simp; omega) (by omega) rfl (fun hm => hne (hall _ hm)) (by simp [hne])
    rw [← hM, ← hLM] at this
    rw [this]
    rfl
theorem beside_erase {v : V} (h1 : oneB v = true) (h6 : v.kind = 6) {k : List UInt8} (hk : k ∈ v.keys) {s : St} (hs : s.kind = 0) (hne : s.text ≠ k) :
    intoF (.mk 6 0 0 [] (v.list.eraseIdx (lowK v.keys k)) (v.keys.eraseIdx (lowK v.keys k))) s = intoF v s := by
  have hr := one_rising h1
  have hl := one_keys h1 h6
  have hto := toK_le hr k
  have et : toK v.keys k = lowK v.keys k + 1 := by rw [toK, if_pos hk]
  have hr2 : rising (v.keys.eraseIdx (lowK v.keys k)) = true := rising_sub hr (List.eraseIdx_sublist _ _)
  rw [into_look (v := .mk 6 0 0 [] (v.list.eraseIdx (lowK v.keys k)) (v.keys.eraseIdx (lowK v.keys k))) rfl hr2 hs, into_look h6 hr hs]
  obtain ⟨M, hM, hall, hlen⟩ := mid_split hr k
  obtain ⟨LM, hLM, hlen2⟩ := list_split v.list hto.1 (by omega)
  have := look_mid (A := v.keys.take (lowK v.keys k)) (M := M) (M' := []) (B := v.keys.drop (toK v.keys k)) (LA := v.list.take (lowK v.keys k)) (LM := LM) (LM' := []) (LB := v.list.drop (toK v.keys k)) (o := s.text)
    (by simp; omega) (by omega) rfl (fun hm => hne (hall _ hm)) (by simp)
  rw [← hM, ← hLM] at this
  rw [this, et]
  simp only [V.keys, V.list, List.eraseIdx_eq_take_drop_succ, List.append_nil]

/-! ### what may be stays so -/
theorem may_list {l : List V} (h : ∀ x ∈ l, mayV x = true) : mayV (.mk 5 0 0 [] l []) = true := by
  rw [mayV_eq, Bool.and_eq_true, List.all_eq_true]
  exact ⟨by simp [oneB, bareB, V.kind, V.m, V.e, V.text, V.list, V.keys, numRight, u8, Lib.validD_nil, rising, riseN], h⟩
theorem may_map {l : List V} {ks : List (List UInt8)} (hr : rising ks = true) (hl : ks.length = l.length) (h : ∀ x ∈ l, mayV x = true) : mayV (.mk 6 0 0 [] l ks) = true := by
  rw [mayV_eq, Bool.and_eq_true, List.all_eq_true]
  refine ⟨?_, h⟩
  simp [oneB, bareB, V.kind, V.m, V.e, V.text, V.list, V.keys, numRight, u8, Lib.validD_nil]
  exact ⟨hr, hl⟩
theorem depth_mk {k m e : Int} {t : List UInt8} {l : List V} {ks : List (List UInt8)} {n : Nat} (h : ∀ x ∈ l, depthV x ≤ n) : depthV (.mk k m e t l ks) ≤ n + 1 := depth_le.2 h
theorem step_u8 {s : St} (h : stepB s = true) (h0 : s.kind = 0) : u8 s.text = true := by
  simp [stepB, h0] at h; exact h
theorem set_right {v y : V} {s : St} {N : Nat} (hv : mayV v = true) (hy : mayV y = true) (hs : stepB s = true) (h : (setF v s y).2 = 0) (hd : depthV v ≤ N) (hyd : depthV y ≤ N) (hyd2 : s.kind ≠ 2 → depthV y + 1 ≤ N) :
    mayV (setF v s y).1 = true ∧ depthV (setF v s y).1 ≤ N := by
  have h1 := may_one hv
  obtain ⟨n, rfl⟩ : ∃ n, N = n + 1 := ⟨N - 1, by have := depth_pos v; omega⟩
  have hel := (depth_le (v := v)).1 hd
  by_cases h2 : s.kind = 2
  · by_cases hc : s.kind = 2 ∧ (v.kind = 0 ∨ v.kind = 5) ∧ y.kind = 5
    · have hyl := (depth_le (v := y)).1 hyd
      rw [setF, if_neg (by omega), if_neg (by omega), if_pos hc]
      have hm : ∀ x ∈ v.list.take (endsF s v.list.length).1.toNat ++ y.list ++ v.list.drop (endsF s v.list.length).2.toNat, x ∈ v.list ∨ x ∈ y.list := by
        intro x hx
        simp only [List.mem_append] at hx
        rcases hx with (hx | hx) | hx
        · exact .inl (List.mem_of_mem_take hx)
        · exact .inr hx
        · exact .inl (List.mem_of_mem_drop hx)
      exact ⟨may_list fun x hx => (hm x hx).elim (may_mem hv) (may_mem hy), depth_mk fun x hx => (hm x hx).elim (hel x) (hyl x)⟩
    · rw [setF, if_neg (by omega), if_neg (by omega), if_neg hc] at h; cases h
  · have hyn : depthV y ≤ n := by have := hyd2 h2; omega
    rcases set_kind h2 h with h0 | h0
    · rw [set_key h0]
      have hr := one_rising h1
      have hl := one_lens h1 h0.2
      have hto := toK_le hr s.text
      have hm : ∀ x ∈ v.list.take (lowK v.keys s.text) ++ [y] ++ v.list.drop (toK v.keys s.text), x ∈ v.list ∨ x = y := by
        intro x hx
        simp only [List.mem_append, List.mem_singleton] at hx
        rcases hx with (hx | hx) | hx
        · exact .inl (List.mem_of_mem_take hx)
        · exact .inr hx
        · exact .inl (List.mem_of_mem_drop hx)
      refine ⟨may_map (rising_keyed hr (step_u8 hs h0.1)) (by simp; omega) fun x hx => (hm x hx).elim (may_mem hv) (fun e => by rw [e]; exact hy), depth_mk fun x hx => (hm x hx).elim (hel x) (fun e => by rw [e]; exact hyn)⟩
    · obtain ⟨i, _, _, e⟩ := setI_eq h0.1 h0.2 h
      rw [e]
      have hp : ∀ x ∈ padL v.list (i + 1), x ∈ v.list ∨ x = V.zero := by
        intro x hx
        rw [padL, List.mem_append, List.mem_replicate] at hx
        exact hx.imp id (·.2)
      have hm : ∀ x ∈ (padL v.list (i + 1)).take i ++ [y] ++ (padL v.list (i + 1)).drop (i + 1), x ∈ v.list ∨ x = V.zero ∨ x = y := by
        intro x hx
        simp only [List.mem_append, List.mem_singleton] at hx
        rcases hx with (hx | hx) | hx
        · exact (hp x (List.mem_of_mem_take hx)).imp id .inl
        · exact .inr (.inr hx)
        · exact (hp x (List.mem_of_mem_drop hx)).imp id .inl
      have hz : depthV V.zero ≤ n := by have := depth_pos y; have e : depthV V.zero = 1 := by decide
                                        omega
      exact ⟨may_list fun x hx => (hm x hx).elim (may_mem hv) (fun e => e.elim (fun e => by rw [e]; decide) (fun e => by rw [e]; exact hy)),
        depth_mk fun x hx => (hm x hx).elim (hel x) (fun e => e.elim (fun e => by rw [e]; exact hz) (fun e => by rw [e]; exact hyn))⟩
theorem zero_depth (v : V) : depthV V.zero ≤ depthV v := by
  have h1 := depth_pos v
  have e : depthV V.zero = 1 := by decide
  omega
theorem without_right {v : V} {s : St} (hv : mayV v = true) : mayV (withoutF v s).1 = true ∧ depthV (withoutF v s).1 ≤ depthV v := by
  have h1 := may_one hv
  obtain ⟨n, hn⟩ : ∃ n, depthV v = n + 1 := ⟨depthV v - 1, by have := depth_pos v; omega⟩
  have hel := (depth_le (v := v)).1 (Nat.le_of_eq hn)
  have hcut : ∀ (i j : Nat) x, x ∈ v.list.take i ++ [] ++ v.list.drop j → x ∈ v.list := by
    intro i j x hx
    simp only [List.append_nil, List.mem_append] at hx
    exact hx.elim List.mem_of_mem_take List.mem_of_mem_drop
  have hlist : ∀ i j : Nat, mayV (.mk 5 0 0 [] (v.list.take i ++ [] ++ v.list.drop j) []) = true ∧ depthV (.mk 5 0 0 [] (v.list.take i ++ [] ++ v.list.drop j) []) ≤ depthV v := by
    intro i j
    rw [hn]
    exact ⟨may_list fun x hx => may_mem hv (hcut i j x hx), depth_mk fun x hx => hel x (hcut i j x hx)⟩
  unfold withoutF
  split
  · exact ⟨hv, Nat.le_refl _⟩
  split
  · rename_i hk
    simp only
    split
    · rename_i hm
      have hl := one_keys h1 hk.2
      obtain ⟨hlo, _⟩ := (mem_iff (one_rising h1)).1 hm
      rw [hn]
      refine ⟨may_map (rising_sub (one_rising h1) ?_) (by simp; omega) fun x hx => may_mem hv (hcut _ _ x hx), depth_mk fun x hx => hel x (hcut _ _ x hx)⟩
      rw [List.append_nil, ← List.eraseIdx_eq_take_drop_succ]
      exact List.eraseIdx_sublist _ _
    · exact ⟨hv, Nat.le_refl _⟩
  split
  · simp only
    split
    · exact ⟨hv, Nat.le_refl _⟩
    · exact hlist _ _
  split
  · exact hlist _ _
  · exact ⟨by decide, zero_depth v⟩
theorem into_depth (v : V) (s : St) : depthV (intoF v s).1 ≤ depthV v := by
  obtain ⟨n, hn⟩ : ∃ n, depthV v = n + 1 := ⟨depthV v - 1, by have := depth_pos v; omega⟩
  have hel := (depth_le (v := v)).1 (Nat.le_of_eq hn)
  have hg : ∀ i : Nat, depthV (v.list.getD i V.zero) ≤ depthV v := fun i => by
    by_cases hi : i < v.list.length
    · rw [show v.list.getD i V.zero = v.list[i] by simp [hi]]
      have := hel _ (List.getElem_mem hi)
      omega
    · rw [show v.list.getD i V.zero = V.zero by simp [hi]]; exact zero_depth v
  unfold intoF
  split
  · exact zero_depth v
  split
  · simp only
    split
    · exact hg _
    · exact zero_depth v
  split
  · simp only [nthV]
    split
    · exact hg _
    · exact zero_depth v
  split
  · rw [hn]; exact depth_mk fun x hx => hel x (List.mem_of_mem_drop (List.mem_of_mem_take hx))
  split
  · rw [hn]; exact depth_mk fun x hx => by cases hx
  · exact zero_depth v
theorem into_elem {v : V} {s : St} (hs : s.kind ≠ 2) (h : (intoF v s).1.kind ≠ 0) : (intoF v s).1 ∈ v.list := by
  have hg : ∀ i : Nat, (v.list.getD i V.zero).kind ≠ 0 → v.list.getD i V.zero ∈ v.list := fun i hk => by
    by_cases hi : i < v.list.length
    · rw [show v.list.getD i V.zero = v.list[i] by simp [hi]]; exact List.getElem_mem hi
    · rw [show v.list.getD i V.zero = V.zero by simp [hi]] at hk; exact absurd rfl hk
  unfold intoF at h ⊢
  split at h
  · exact absurd rfl h
  rename_i h0
  rw [if_neg h0]
  split at h
  · rename_i h1
    rw [if_pos h1]
    simp only at h ⊢
    split at h
    · rename_i h2
      rw [if_pos h2]; exact hg _ h
    · exact absurd rfl h
  rename_i h1
  rw [if_neg h1]
  split at h
  · rename_i h2
    rw [if_pos h2]
    simp only [nthV] at h ⊢
    split at h
    · rename_i h3
      rw [if_pos h3]; exact hg _ h
    · exact absurd rfl h
  rename_i h2
  rw [if_neg (by omega), if_neg (by omega)] at h
  exact absurd rfl h
theorem drop_right : ∀ (l : List St) (v : V), (∀ s ∈ l, stepB s = true) → Gd v → (dropF v l).2 = 0 → mayV (dropF v l).1 = true ∧ depthV (dropF v l).1 ≤ depthV v
  | [], v, _, _, _ => by
    rw [dropF]; exact ⟨by decide, zero_depth v⟩
  | [s], v, _, hg, _ => by
    rw [dropF]; exact without_right hg.1
  | s :: s2 :: l, v, hl, hg, h => by
    have hs := hl s (List.mem_cons_self ..)
    have hl2 : ∀ x ∈ s2 :: l, stepB x = true := fun x hx => hl x (List.mem_cons_of_mem _ hx)
    rw [dropF] at h ⊢
    by_cases h1 : (intoF v s).2 ≠ 0 ∨ (intoF v s).1.kind = 0
    · rw [if_pos h1]; exact ⟨hg.1, Nat.le_refl _⟩
    rw [if_neg h1] at h ⊢
    by_cases h2 : (dropF (intoF v s).1 (s2 :: l)).2 ≠ 0
    · rw [if_pos h2] at h; exact absurd h h2
    rw [if_neg h2] at h ⊢
    obtain ⟨a1, a2⟩ := drop_right (s2 :: l) _ hl2 (into_gd hg s) (by simpa using h2)
    have hid := into_depth v s
    refine set_right hg.1 a1 hs h (Nat.le_refl _) (by omega) fun hk => ?_
    have := depth_mem (into_elem hk (fun e => h1 (.inr e)))
    omega

/-! ### StepsBeside -/
theorem drop_top {v : V} {l : List St} (h : (dropTop v l).2 = 0) : wrongF v l = 0 ∧ (dropF v l).2 = 0 ∧ dropTop v l = ((dropF v l).1, 0) := by
  unfold dropTop at h ⊢
  by_cases h1 : wrongF v l ≠ 0
  · rw [if_pos h1] at h; exact absurd h h1
  rw [if_neg h1] at h ⊢
  by_cases h2 : (dropF v l).2 ≠ 0
  · rw [if_pos h2] at h; exact absurd h h2
  rw [if_neg h2]
  exact ⟨by simpa using h1, by simpa using h2, rfl⟩
theorem get_one {v w : V} {s : St} (h : (getF v [s]).2 = 0) (hr : rightV w = 0) (hi : intoF w s = intoF v s) : getF w [s] = getF v [s] := by
  have h1 : wrongF v [s] = 0 := by
    by_cases h1 : wrongF v [s] = 0
    · exact h1
    · rw [getF, if_pos h1] at h; exact absurd h h1
  have h2 : wrongF w [s] = 0 := wrong_iff.2 ⟨hr, (wrong_iff.1 h1).2⟩
  rw [getF, if_neg (by simp [h2]), getF, if_neg (by simp [h1])]
  simp only [walkF, hi]
theorem get_wrong {v : V} {l : List St} (h : (getF v l).2 = 0) : wrongF v l = 0 := by
  by_cases h1 : wrongF v l = 0
  · exact h1
  · rw [getF, if_pos h1] at h; exact absurd h h1
theorem beside_put {v x : V} {k : List UInt8} {way : List St} {o : List UInt8} (hne : k ≠ o) (hg : (getF v [fieldS o]).2 = 0) (h : (putTop v (fieldS k :: way) x).2 = 0) : getF (putTop v (fieldS k :: way) x).1 [fieldS o] = getF v [fieldS o] := by
  obtain ⟨h1, h2, h3, h4, h5, e⟩ := put_top h
  rw [e]
  refine get_one hg h5 ?_
  have hm := (right_iff.1 h1).1
  have hst := (wrong_iff.1 h3).2
  obtain ⟨k1, k2, e2⟩ := put_cons h4
  have hk : u8 k = true := step_u8 (List.all_eq_true.1 hst (fieldS k) (List.mem_cons_self ..)) rfl
  rw [e2] at h4
  simp only
  rw [e2]
  rcases set_kind (show (0 : Int) ≠ 2 by decide) h4 with h0 | h0
  · rw [set_key h0]
    exact beside_keyed (may_one hm) h0.2 hk _ rfl (fun e => hne e.symm)
  · exact absurd h0.1 (show ¬ (0 : Int) = 1 by decide)
theorem beside_drop {v : V} {k : List UInt8} {way : List St} {o : List UInt8} (hne : k ≠ o) (ht : txtV v ≤ 1000000000) (hg : (getF v [fieldS o]).2 = 0) (h : (dropTop v (fieldS k :: way)).2 = 0) : getF (dropTop v (fieldS k :: way)).1 [fieldS o] = getF v [fieldS o] := by
  obtain ⟨h1, h2, e⟩ := drop_top h
  have hw := wrong_iff.1 h1
  have hst := List.all_eq_true.1 hw.2
  have hm := right_iff.1 hw.1
  have hgd := right_gd hw.1 ht
  obtain ⟨a1, a2⟩ := drop_right _ v hst hgd h2
  have hone := may_one hm.1
  have hk : u8 k = true := step_u8 (hst (fieldS k) (List.mem_cons_self ..)) rfl
  rw [e]
  refine get_one hg (right_iff.2 ⟨a1, Nat.le_trans a2 hm.2⟩) ?_
  simp only
  have hset : ∀ z : V, (setF v (fieldS k) z).2 = 0 → intoF (setF v (fieldS k) z).1 (fieldS o) = intoF v (fieldS o) := by
    intro z hz
    rcases set_kind (show (0 : Int) ≠ 2 by decide) hz with h0 | h0
    · rw [set_key h0]
      exact beside_keyed hone h0.2 hk _ rfl (fun e => hne e.symm)
    · exact absurd h0.1 (show ¬ (0 : Int) = 1 by decide)
  cases way with
  | nil =>
    rw [dropF] at h2 ⊢
    by_cases h0 : v.kind = 0
    · rw [without_null h0]
    by_cases h6 : v.kind = 6
    · by_cases hk : k ∈ v.keys
      · rw [without_key h6 rfl hk]
        exact beside_erase hone h6 hk rfl (fun e => hne e.symm)
      · rw [without_none h6 rfl hk]
    · rw [without_field_err rfl h0 h6] at h2; cases h2
  | cons s2 l =>
    rw [dropF] at h2 ⊢
    by_cases q1 : (intoF v (fieldS k)).2 ≠ 0 ∨ (intoF v (fieldS k)).1.kind = 0
    · rw [if_pos q1]
    rw [if_neg q1] at h2 ⊢
    by_cases q2 : (dropF (intoF v (fieldS k)).1 (s2 :: l)).2 ≠ 0
    · rw [if_pos q2] at h2; exact absurd h2 q2
    rw [if_neg q2] at h2 ⊢
    exact hset _ h2
theorem dropTop_txt (v : V) (l : List St) (B : Nat) (hb : txtV v ≤ B) : txtV (dropTop v l).1 ≤ B + l.length * (B + 4100) := by
  by_cases h : (dropTop v l).2 = 0
  · rw [(drop_top h).2.2]; exact drop_txt l v B hb
  · have hz : (dropTop v l).1 = V.zero := by
      unfold dropTop at h ⊢
      split
      · rfl
      split
      · rfl
      · rename_i q1 q2
        rw [if_neg q1, if_neg q2] at h; exact absurd rfl h
    rw [hz]
    exact Nat.le_trans (zero_txt v) (Nat.le_trans hb (Nat.le_add_right _ _))
end Go.Gk.Val
end

section
/-
  The laws of ways: StepsBeside.
-/
namespace Go.Gk.Val
open Go Go.Gk Go.Gk.Utf
attribute [local irreducible] gwp gws

def g_thimblelaw08_StepsBeside (f_thimblelaw08_works f_thimblelaw08_great f_thimblelaw08_field f_steps_Get f_steps_Put f_thimbleref03_Same f_steps_Drop : Nat) : GFun :=
 ⟨107, [(.tmp 10)],
 (.seq
 (.reg false (.op false ⟨(some 5), none, (.box (.tmp 0))⟩
  (.op false ⟨(some 8), none, (.box (.tmp 3))⟩
  (.op false ⟨(some 10), none, (.mv (.const (.bool false)))⟩ .done))))
 (.seq (.seq
 (.reg false (.op false ⟨(some 21), none, (.call f_thimblelaw08_works [])⟩
  (.op false ⟨(some 22), none, (.un .not (.tmp 21))⟩ .done))) (.cond (.tmp 22)
 (.seq
 (.reg false (.op false ⟨(some 10), none, (.mv (.const (.bool false)))⟩ .done)) .ret) .skip))
 (.seq (.seq
 (.reg false (.op false ⟨(some 23), none, (.mv (.tmp 2))⟩
  (.op false ⟨(some 24), none, (.ld (some 6) (.tmp 5))⟩
  (.op false ⟨(some 25), none, (.ld (some 6) (.tmp 8))⟩
  (.op false ⟨(some 26), none, (.bsl 2 6 [(.int .i64 0), (.int .i64 0), (.int .i64 0), (strV []), (.slice none 0 0), (.slice none 0 0)] [(0, (.tmp 24)), (1, (.tmp 25))])⟩
  (.op false ⟨(some 27), none, (.call f_thimblelaw08_great [(.tmp 23), (.tmp 26)])⟩
  (.op false ⟨(some 28), none, (.mv (.tmp 27))⟩
  (.op false ⟨(some 29), (some (28, false)), (.mv (.tmp 1))⟩
  (.op false ⟨(some 30), (some (28, false)), (.lens (.tmp 29))⟩
  (.op false ⟨(some 31), (some (28, false)), (.bin .gtr (.tmp 30) (.const (.int .i64 1000)))⟩
  (.op false ⟨(some 32), none, (.pick (.tmp 28) (.const (.bool true)) (.tmp 31))⟩
  (.op false ⟨(some 33), none, (.mv (.tmp 32))⟩
  (.op false ⟨(some 34), (some (33, false)), (.mv (.tmp 4))⟩
  (.op false ⟨(some 35), (some (33, false)), (.lens (.tmp 34))⟩
  (.op false ⟨(some 36), (some (33, false)), (.bin .gtr (.tmp 35) (.const (.int .i64 1000)))⟩
  (.op false ⟨(some 37), none, (.pick (.tmp 33) (.const (.bool true)) (.tmp 36))⟩
  (.op false ⟨(some 38), none, (.mv (.tmp 37))⟩
  (.op false ⟨(some 39), (some (38, false)), (.mv (.tmp 1))⟩
  (.op false ⟨(some 40), (some (38, false)), (.mv (.tmp 4))⟩
  (.op false ⟨(some 41), (some (38, false)), (.bin .eql (.tmp 39) (.tmp 40))⟩
  (.op false ⟨(some 42), none, (.pick (.tmp 38) (.const (.bool true)) (.tmp 41))⟩ .done))))))))))))))))))))) (.cond (.tmp 42)
 (.seq
 (.reg false (.op false ⟨(some 10), none, (.mv (.const (.bool true)))⟩ .done)) .ret) .skip))
 (.seq
 (.reg false (.op false ⟨(some 43), none, (.mv (.tmp 1))⟩
  (.op false ⟨(some 44), none, (.call f_thimblelaw08_field [(.tmp 43)])⟩
  (.op false ⟨(some 45), none, (.bsl 1 6 [(.int .i64 0), (strV []), (.int .i64 0), (.int .i64 0), (.bool false), (.bool false)] [(0, (.tmp 44))])⟩
  (.op false ⟨(some 46), none, (.mv (.tmp 2))⟩
  (.op false ⟨(some 47), none, (.app 6 48 [(.int .i64 0), (strV []), (.int .i64 0), (.int .i64 0), (.bool false), (.bool false)] (.tmp 45) (.tmp 46))⟩
  (.op false ⟨(some 11), none, (.mv (.tmp 47))⟩ .done)))))))
 (.seq
 (.reg true (.op true ⟨(some 49), none, (.ld (some 6) (.tmp 5))⟩
  (.op true ⟨(some 50), none, (.mv (.tmp 4))⟩
  (.alt ⟨(some 51), none, (.call f_thimblelaw08_field [(.tmp 50)])⟩
  (.alt ⟨(some 52), none, (.bsl 1 6 [(.int .i64 0), (strV []), (.int .i64 0), (.int .i64 0), (.bool false), (.bool false)] [(0, (.tmp 51))])⟩
  (.alt ⟨(some 53), none, (.call f_steps_Get [(.tmp 49), (.tmp 52)])⟩
  (.op true ⟨(some 48), none, (.mv (.tmp 53))⟩
  (.op true ⟨(some 54), none, (.ext (.tmp 48) 0)⟩
  (.op true ⟨(some 55), none, (.ext (.tmp 48) 1)⟩
  (.op false ⟨(some 12), none, (.alo (.agg #[(.int .i64 0), (.int .i64 0), (.int .i64 0), (strV []), (.slice none 0 0), (.slice none 0 0)]))⟩
  (.op false ⟨none, none, (.st 6 (.tmp 12) (.tmp 54))⟩
  (.op true ⟨(some 13), none, (.mv (.tmp 55))⟩ .done)))))) (.op false ⟨(some 12), none, (.alo (.agg #[(.int .i64 0), (.int .i64 0), (.int .i64 0), (strV []), (.slice none 0 0), (.slice none 0 0)]))⟩
  (.op false ⟨(some 53), none, (.call f_steps_Get [(.tmp 49), (.tmp 52)])⟩
  (.op true ⟨(some 48), none, (.mv (.tmp 53))⟩
  (.op true ⟨(some 54), none, (.ext (.tmp 48) 0)⟩
  (.op true ⟨(some 55), none, (.ext (.tmp 48) 1)⟩
  (.op false ⟨none, none, (.st 6 (.tmp 12) (.tmp 54))⟩
  (.op true ⟨(some 13), none, (.mv (.tmp 55))⟩ .done)))))))) (.op false ⟨(some 12), none, (.alo (.agg #[(.int .i64 0), (.int .i64 0), (.int .i64 0), (strV []), (.slice none 0 0), (.slice none 0 0)]))⟩
  (.op false ⟨(some 52), none, (.bsl 1 6 [(.int .i64 0), (strV []), (.int .i64 0), (.int .i64 0), (.bool false), (.bool false)] [(0, (.tmp 51))])⟩
  (.op false ⟨(some 53), none, (.call f_steps_Get [(.tmp 49), (.tmp 52)])⟩
  (.op true ⟨(some 48), none, (.mv (.tmp 53))⟩
  (.op true ⟨(some 54), none, (.ext (.tmp 48) 0)⟩
  (.op true ⟨(some 55), none, (.ext (.tmp 48) 1)⟩
  (.op false ⟨none, none, (.st 6 (.tmp 12) (.tmp 54))⟩
  (.op true ⟨(some 13), none, (.mv (.tmp 55))⟩ .done))))))))) (.op false ⟨(some 12), none, (.alo (.agg #[(.int .i64 0), (.int .i64 0), (.int .i64 0), (strV []), (.slice none 0 0), (.slice none 0 0)]))⟩
  (.op false ⟨(some 51), none, (.call f_thimblelaw08_field [(.tmp 50)])⟩
  (.op false ⟨(some 52), none, (.bsl 1 6 [(.int .i64 0), (strV []), (.int .i64 0), (.int .i64 0), (.bool false), (.bool false)] [(0, (.tmp 51))])⟩
  (.op false ⟨(some 53), none, (.call f_steps_Get [(.tmp 49), (.tmp 52)])⟩
  (.op true ⟨(some 48), none, (.mv (.tmp 53))⟩
  (.op true ⟨(some 54), none, (.ext (.tmp 48) 0)⟩
  (.op true ⟨(some 55), none, (.ext (.tmp 48) 1)⟩
  (.op false ⟨none, none, (.st 6 (.tmp 12) (.tmp 54))⟩
  (.op true ⟨(some 13), none, (.mv (.tmp 55))⟩ .done)))))))))))))
 (.seq (.seq
 (.reg false (.op false ⟨(some 56), none, (.mv (.tmp 13))⟩
  (.op false ⟨(some 57), none, (.bin .neq (.tmp 56) (.const (.int .i64 0)))⟩ .done))) (.cond (.tmp 57)
 (.seq
 (.reg false (.op false ⟨(some 10), none, (.mv (.const (.bool true)))⟩ .done)) .ret) .skip))
 (.seq
 (.reg false (.op false ⟨(some 59), none, (.ld (some 6) (.tmp 5))⟩
  (.op false ⟨(some 60), none, (.mv (.tmp 11))⟩
  (.op false ⟨(some 61), none, (.ld (some 6) (.tmp 8))⟩
  (.op false ⟨(some 62), none, (.call f_steps_Put [(.tmp 59), (.tmp 60), (.tmp 61)])⟩
  (.op false ⟨(some 58), none, (.mv (.tmp 62))⟩
  (.op false ⟨(some 63), none, (.ext (.tmp 58) 0)⟩
  (.op false ⟨(some 64), none, (.ext (.tmp 58) 1)⟩
  (.op false ⟨(some 14), none, (.alo (.agg #[(.int .i64 0), (.int .i64 0), (.int .i64 0), (strV []), (.slice none 0 0), (.slice none 0 0)]))⟩
  (.op false ⟨none, none, (.st 6 (.tmp 14) (.tmp 63))⟩
  (.op false ⟨(some 15), none, (.mv (.tmp 64))⟩ .done)))))))))))
 (.seq (.seq
 (.reg false (.op false ⟨(some 65), none, (.mv (.tmp 15))⟩
  (.op false ⟨(some 66), none, (.bin .eql (.tmp 65) (.const (.int .i64 0)))⟩ .done))) (.cond (.tmp 66)
 (.seq
 (.reg true (.op true ⟨(some 68), none, (.ld (some 6) (.tmp 14))⟩
  (.op true ⟨(some 69), none, (.mv (.tmp 4))⟩
  (.alt ⟨(some 70), none, (.call f_thimblelaw08_field [(.tmp 69)])⟩
  (.alt ⟨(some 71), none, (.bsl 1 6 [(.int .i64 0), (strV []), (.int .i64 0), (.int .i64 0), (.bool false), (.bool false)] [(0, (.tmp 70))])⟩
  (.alt ⟨(some 72), none, (.call f_steps_Get [(.tmp 68), (.tmp 71)])⟩
  (.op true ⟨(some 67), none, (.mv (.tmp 72))⟩
  (.op true ⟨(some 73), none, (.ext (.tmp 67) 0)⟩
  (.op true ⟨(some 74), none, (.ext (.tmp 67) 1)⟩
  (.op false ⟨(some 16), none, (.alo (.agg #[(.int .i64 0), (.int .i64 0), (.int .i64 0), (strV []), (.slice none 0 0), (.slice none 0 0)]))⟩
  (.op false ⟨none, none, (.st 6 (.tmp 16) (.tmp 73))⟩
  (.op true ⟨(some 17), none, (.mv (.tmp 74))⟩ .done)))))) (.op false ⟨(some 16), none, (.alo (.agg #[(.int .i64 0), (.int .i64 0), (.int .i64 0), (strV []), (.slice none 0 0), (.slice none 0 0)]))⟩
  (.op false ⟨(some 72), none, (.call f_steps_Get [(.tmp 68), (.tmp 71)])⟩
  (.op true ⟨(some 67), none, (.mv (.tmp 72))⟩
  (.op true ⟨(some 73), none, (.ext (.tmp 67) 0)⟩
  (.op true ⟨(some 74), none, (.ext (.tmp 67) 1)⟩
  (.op false ⟨none, none, (.st 6 (.tmp 16) (.tmp 73))⟩
  (.op true ⟨(some 17), none, (.mv (.tmp 74))⟩ .done)))))))) (.op false ⟨(some 16), none, (.alo (.agg #[(.int .i64 0), (.int .i64 0), (.int .i64 0), (strV []), (.slice none 0 0), (.slice none 0 0)]))⟩
  (.op false ⟨(some 71), none, (.bsl 1 6 [(.int .i64 0), (strV []), (.int .i64 0), (.int .i64 0), (.bool false), (.bool false)] [(0, (.tmp 70))])⟩
  (.op false ⟨(some 72), none, (.call f_steps_Get [(.tmp 68), (.tmp 71)])⟩
  (.op true ⟨(some 67), none, (.mv (.tmp 72))⟩
  (.op true ⟨(some 73), none, (.ext (.tmp 67) 0)⟩
  (.op true ⟨(some 74), none, (.ext (.tmp 67) 1)⟩
  (.op false ⟨none, none, (.st 6 (.tmp 16) (.tmp 73))⟩
  (.op true ⟨(some 17), none, (.mv (.tmp 74))⟩ .done))))))))) (.op false ⟨(some 16), none, (.alo (.agg #[(.int .i64 0), (.int .i64 0), (.int .i64 0), (strV []), (.slice none 0 0), (.slice none 0 0)]))⟩
  (.op false ⟨(some 70), none, (.call f_thimblelaw08_field [(.tmp 69)])⟩
  (.op false ⟨(some 71), none, (.bsl 1 6 [(.int .i64 0), (strV []), (.int .i64 0), (.int .i64 0), (.bool false), (.bool false)] [(0, (.tmp 70))])⟩
  (.op false ⟨(some 72), none, (.call f_steps_Get [(.tmp 68), (.tmp 71)])⟩
  (.op true ⟨(some 67), none, (.mv (.tmp 72))⟩
  (.op true ⟨(some 73), none, (.ext (.tmp 67) 0)⟩
  (.op true ⟨(some 74), none, (.ext (.tmp 67) 1)⟩
  (.op false ⟨none, none, (.st 6 (.tmp 16) (.tmp 73))⟩
  (.op true ⟨(some 17), none, (.mv (.tmp 74))⟩ .done)))))))))))))
 (.seq
 (.reg false (.op false ⟨(some 75), none, (.mv (.tmp 17))⟩
  (.op false ⟨(some 76), none, (.bin .neq (.tmp 75) (.const (.int .i64 0)))⟩
  (.op false ⟨(some 77), none, (.mv (.tmp 76))⟩
  (.op false ⟨(some 78), (some (77, false)), (.ld (some 6) (.tmp 12))⟩
  (.op false ⟨(some 79), (some (77, false)), (.ld (some 6) (.tmp 16))⟩
  (.op false ⟨(some 80), (some (77, false)), (.call f_thimbleref03_Same [(.tmp 78), (.tmp 79)])⟩
  (.op false ⟨(some 81), (some (77, false)), (.un .not (.tmp 80))⟩
  (.op false ⟨(some 82), none, (.pick (.tmp 77) (.const (.bool true)) (.tmp 81))⟩ .done))))))))) (.cond (.tmp 82)
 (.seq
 (.reg false (.op false ⟨(some 10), none, (.mv (.const (.bool false)))⟩ .done)) .ret) .skip))) .skip))
 (.seq
 (.reg false (.op false ⟨(some 84), none, (.ld (some 6) (.tmp 5))⟩
  (.op false ⟨(some 85), none, (.mv (.tmp 11))⟩
  (.op false ⟨(some 86), none, (.call f_steps_Drop [(.tmp 84), (.tmp 85)])⟩
  (.op false ⟨(some 83), none, (.mv (.tmp 86))⟩
  (.op false ⟨(some 87), none, (.ext (.tmp 83) 0)⟩
  (.op false ⟨(some 88), none, (.ext (.tmp 83) 1)⟩
  (.op false ⟨(some 18), none, (.alo (.agg #[(.int .i64 0), (.int .i64 0), (.int .i64 0), (strV []), (.slice none 0 0), (.slice none 0 0)]))⟩
  (.op false ⟨none, none, (.st 6 (.tmp 18) (.tmp 87))⟩
  (.op false ⟨(some 15), none, (.mv (.tmp 88))⟩ .done))))))))))
 (.seq (.seq
 (.reg false (.op false ⟨(some 89), none, (.mv (.tmp 15))⟩
  (.op false ⟨(some 90), none, (.bin .eql (.tmp 89) (.const (.int .i64 0)))⟩ .done))) (.cond (.tmp 90)
 (.seq
 (.reg true (.op true ⟨(some 92), none, (.ld (some 6) (.tmp 18))⟩
  (.op true ⟨(some 93), none, (.mv (.tmp 4))⟩
  (.alt ⟨(some 94), none, (.call f_thimblelaw08_field [(.tmp 93)])⟩
  (.alt ⟨(some 95), none, (.bsl 1 6 [(.int .i64 0), (strV []), (.int .i64 0), (.int .i64 0), (.bool false), (.bool false)] [(0, (.tmp 94))])⟩
  (.alt ⟨(some 96), none, (.call f_steps_Get [(.tmp 92), (.tmp 95)])⟩
  (.op true ⟨(some 91), none, (.mv (.tmp 96))⟩
  (.op true ⟨(some 97), none, (.ext (.tmp 91) 0)⟩
  (.op true ⟨(some 98), none, (.ext (.tmp 91) 1)⟩
  (.op false ⟨(some 19), none, (.alo (.agg #[(.int .i64 0), (.int .i64 0), (.int .i64 0), (strV []), (.slice none 0 0), (.slice none 0 0)]))⟩
  (.op false ⟨none, none, (.st 6 (.tmp 19) (.tmp 97))⟩
  (.op true ⟨(some 20), none, (.mv (.tmp 98))⟩ .done)))))) (.op false ⟨(some 19), none, (.alo (.agg #[(.int .i64 0), (.int .i64 0), (.int .i64 0), (strV []), (.slice none 0 0), (.slice none 0 0)]))⟩
  (.op false ⟨(some 96), none, (.call f_steps_Get [(.tmp 92), (.tmp 95)])⟩
  (.op true ⟨(some 91), none, (.mv (.tmp 96))⟩
  (.op true ⟨(some 97), none, (.ext (.tmp 91) 0)⟩
  (.op true ⟨(some 98), none, (.ext (.tmp 91) 1)⟩
  (.op false ⟨none, none, (.st 6 (.tmp 19) (.tmp 97))⟩
  (.op true ⟨(some 20), none, (.mv (.tmp 98))⟩ .done)))))))) (.op false ⟨(some 19), none, (.alo (.agg #[(.int .i64 0), (.int .i64 0), (.int .i64 0), (strV []), (.slice none 0 0), (.slice none 0 0)]))⟩
  (.op false ⟨(some 95), none, (.bsl 1 6 [(.int .i64 0), (strV []), (.int .i64 0), (.int .i64 0), (.bool false), (.bool false)] [(0, (.tmp 94))])⟩
  (.op false ⟨(some 96), none, (.call f_steps_Get [(.tmp 92), (.tmp 95)])⟩
  (.op true ⟨(some 91), none, (.mv (.tmp 96))⟩
  (.op true ⟨(some 97), none, (.ext (.tmp 91) 0)⟩
  (.op true ⟨(some 98), none, (.ext (.tmp 91) 1)⟩
  (.op false ⟨none, none, (.st 6 (.tmp 19) (.tmp 97))⟩
  (.op true ⟨(some 20), none, (.mv (.tmp 98))⟩ .done))))))))) (.op false ⟨(some 19), none, (.alo (.agg #[(.int .i64 0), (.int .i64 0), (.int .i64 0), (strV []), (.slice none 0 0), (.slice none 0 0)]))⟩
  (.op false ⟨(some 94), none, (.call f_thimblelaw08_field [(.tmp 93)])⟩
  (.op false ⟨(some 95), none, (.bsl 1 6 [(.int .i64 0), (strV []), (.int .i64 0), (.int .i64 0), (.bool false), (.bool false)] [(0, (.tmp 94))])⟩
  (.op false ⟨(some 96), none, (.call f_steps_Get [(.tmp 92), (.tmp 95)])⟩
  (.op true ⟨(some 91), none, (.mv (.tmp 96))⟩
  (.op true ⟨(some 97), none, (.ext (.tmp 91) 0)⟩
  (.op true ⟨(some 98), none, (.ext (.tmp 91) 1)⟩
  (.op false ⟨none, none, (.st 6 (.tmp 19) (.tmp 97))⟩
  (.op true ⟨(some 20), none, (.mv (.tmp 98))⟩ .done)))))))))))))
 (.seq
 (.reg false (.op false ⟨(some 99), none, (.mv (.tmp 20))⟩
  (.op false ⟨(some 100), none, (.bin .neq (.tmp 99) (.const (.int .i64 0)))⟩
  (.op false ⟨(some 101), none, (.mv (.tmp 100))⟩
  (.op false ⟨(some 102), (some (101, false)), (.ld (some 6) (.tmp 12))⟩
  (.op false ⟨(some 103), (some (101, false)), (.ld (some 6) (.tmp 19))⟩
  (.op false ⟨(some 104), (some (101, false)), (.call f_thimbleref03_Same [(.tmp 102), (.tmp 103)])⟩
  (.op false ⟨(some 105), (some (101, false)), (.un .not (.tmp 104))⟩
  (.op false ⟨(some 106), none, (.pick (.tmp 101) (.const (.bool true)) (.tmp 105))⟩ .done))))))))) (.cond (.tmp 106)
 (.seq
 (.reg false (.op false ⟨(some 10), none, (.mv (.const (.bool false)))⟩ .done)) .ret) .skip))) .skip))
 (.seq
 (.reg false (.op false ⟨(some 10), none, (.mv (.const (.bool true)))⟩ .done)) .ret)))))))))))⟩

set_option maxHeartbeats 4000000 in
theorem stepsBeside_ok {T : PHeap → Prop} {P : Program} {f f1 f2 f3 f4 f5 f6 f7 : FuncId} (hT : ∀ {d d' : PHeap}, Le d d' → T d → T d') (hd : dec P f = some (g_thimblelaw08_StepsBeside f1 f2 f3 f4 f5 f6 f7)) (h1 : WorksOk T P f1) (h2 : GreatOk P f2) (hF : FieldOk P f3) (hG : GetOk T P f4) (hP : PutOk T P f5) (h6 : SameOk P f6) (hD : DropOk T P f7)
    {d : PHeap} {cs es : List Value} {w : Value} {v x : V} {k o : List UInt8} {l : List St} (ht : T d) (hv : RVal d cs v) (hk : k.length ≤ 140737488355328) (hw : RSl 6 RSt d w l) (hx : RVal d es x) (ho : o.length ≤ 140737488355328) : GPure P f [.agg cs.toArray, strV k, w, .agg es.toArray, strV o] d (.bool true) := by
  have n1 := RSl.len_le hw
  obtain ⟨a, c, rfl⟩ := RSl.val hw
  have oko : okS (fieldS o) := ⟨i64_0, ho, i64_0, i64_0⟩
  obtain ⟨c0, c1, c2, c3, c4, c5, rfl⟩ := six hv.len
  obtain ⟨x0, x1, x2, x3, x4, x5, rfl⟩ := six hx.len
  refine GPure.of' hd (Nat.le_of_ble_eq_true rfl) ?_
  show gwp P _ _ _ _ _
  apply w_sq; apply w_reg
  refine w_boxa (l := [c0, c1, c2, c3, c4, c5]) rfl (fun b5 T5 => ?_)
  refine w_boxa (l := [x0, x1, x2, x3, x4, x5]) rfl (fun b8 T8 => ?_)
  (apply w_mvb; rfl; apply w_done0; apply w_sq; apply w_sq; apply w_reg)
  refine w_pure rfl (h1 ht) ?_
  (apply w_not; rfl; apply w_done0; apply w_ifF; rfl; apply w_skip; apply w_sq; apply w_sq; apply w_reg; apply w_mvs; rfl; apply w_ldb 1; rfl; rfl; rfl; apply w_ldb 0; rfl; rfl; rfl)
  refine w_bsV2 (a := [c0, c1, c2, c3, c4, c5]) (b := [x0, x1, x2, x3, x4, x5]) rfl rfl rfl rfl (fun b16 T16 => ?_)
  refine w_frz (fun d1 hl1 hg1 => ?_)
  have hv1 := RVal.mono hl1 hv
  have hx1 := RVal.mono hl1 hx
  have hw1 : RSl 6 RSt d1 (.slice a l.length c) l := RSl.mono (R := RSt) (fun hl h => h) hw hl1
  have ht1 := hT hl1 ht
  refine w_call0 rfl (h2 hw1 (rvals2 hv hx hl1 hg1)) (fun r d3 L3 _ ⟨hdd, hL, b, hr, hb⟩ => ?_)
  subst hdd; subst hL; subst hr
  cases b with
  | true =>
    (apply w_mvb; rfl; apply w_gF; rfl; apply w_gF; rfl; apply w_gF; rfl; apply w_pickTb; rfl; rfl; apply w_mvb; rfl; apply w_gF; rfl; apply w_gF; rfl; apply w_gF; rfl; apply w_pickTb; rfl; rfl; apply w_mvb; rfl; apply w_gF; rfl; apply w_gF; rfl; apply w_gF; rfl; apply w_pickTb; rfl; rfl; apply w_done0; apply w_ifT; rfl; apply w_sq; apply w_reg; apply w_mvb; rfl; apply w_done0; apply w_ret)
    exact finQ rfl
  | false =>
  obtain ⟨hll, hbv⟩ := hb rfl
  have hbv : bulkV v + bulkV x ≤ 1000 := by
    have e : bulkV (.mk 0 0 0 [] [v, x] []) = 1 + 0 + 0 + (bulkV v + (bulkV x + 0)) := rfl
    omega
  have htv := txt_bulk v
  have htx := txt_bulk x
  have hcx := cnt_txt x
  by_cases hk1 : 1000 < k.length
  · (apply w_mvb; rfl; apply w_gT; rfl; apply w_mvt; rfl; apply w_gT; rfl; apply w_lens; rfl; apply w_gT; rfl; apply w_gtr; rfl; rfl; apply w_pickFb; rfl; rfl; apply w_mvb; rfl; refine w_gdT rfl (by omega) ?_; apply w_gF; rfl; apply w_gF; rfl; apply w_gF; rfl; apply w_pickTb; rfl; rfl; apply w_mvb; rfl; apply w_gF; rfl; apply w_gF; rfl; apply w_gF; rfl; apply w_pickTb; rfl; rfl; apply w_done0; apply w_ifT; rfl; apply w_sq; apply w_reg; apply w_mvb; rfl; apply w_done0; apply w_ret)
    exact finQ rfl
  by_cases ho1 : 1000 < o.length
  · (apply w_mvb; rfl; apply w_gT; rfl; apply w_mvt; rfl; apply w_gT; rfl; apply w_lens; rfl; apply w_gT; rfl; apply w_gtr; rfl; rfl; apply w_pickFb; rfl; rfl; apply w_mvb; rfl; refine w_gdF rfl (by omega) ?_; apply w_gT; rfl; apply w_mvt; rfl; apply w_gT; rfl; apply w_lens; rfl; apply w_gT; rfl; apply w_gtr; rfl; rfl; apply w_pickFb; rfl; rfl; apply w_mvb; rfl; refine w_gdT rfl (by omega) ?_; apply w_gF; rfl; apply w_gF; rfl; apply w_gF; rfl; apply w_pickTb; rfl; rfl; apply w_done0; apply w_ifT; rfl; apply w_sq; apply w_reg; apply w_mvb; rfl; apply w_done0; apply w_ret)
    exact finQ rfl
  by_cases hne : k = o
  · (apply w_mvb; rfl; apply w_gT; rfl; apply w_mvt; rfl; apply w_gT; rfl; apply w_lens; rfl; apply w_gT; rfl; apply w_gtr; rfl; rfl; apply w_pickFb; rfl; rfl; apply w_mvb; rfl; refine w_gdF rfl (by omega) ?_; apply w_gT; rfl; apply w_mvt; rfl; apply w_gT; rfl; apply w_lens; rfl; apply w_gT; rfl; apply w_gtr; rfl; rfl; apply w_pickFb; rfl; rfl; apply w_mvb; rfl; refine w_gdF rfl (by omega) ?_; apply w_gT; rfl; apply w_mvt; rfl; apply w_gT; rfl; apply w_mvt; rfl; apply w_gT; rfl; apply w_seq; rfl; rfl; apply w_pickFb; rfl; rfl; apply w_done0; refine w_ifdT rfl (by omega) ?_; apply w_sq; apply w_reg; apply w_mvb; rfl; apply w_done0; apply w_ret)
    exact finQ rfl
  (apply w_mvb; rfl; apply w_gT; rfl; apply w_mvt; rfl; apply w_gT; rfl; apply w_lens; rfl; apply w_gT; rfl; apply w_gtr; rfl; rfl; apply w_pickFb; rfl; rfl; apply w_mvb; rfl; refine w_gdF rfl (by omega) ?_; apply w_gT; rfl; apply w_mvt; rfl; apply w_gT; rfl; apply w_lens; rfl; apply w_gT; rfl; apply w_gtr; rfl; rfl; apply w_pickFb; rfl; rfl; apply w_mvb; rfl; refine w_gdF rfl (by omega) ?_; apply w_gT; rfl; apply w_mvt; rfl; apply w_gT; rfl; apply w_mvt; rfl; apply w_gT; rfl; apply w_seq; rfl; rfl; apply w_pickFb; rfl; rfl; apply w_done0; refine w_ifdF rfl (by omega) ?_)
  apply w_skip; apply w_sq; apply w_reg
  (apply w_mvt; rfl)
  refine w_pure rfl hF ?_
  refine w_bsS1 (a := fieldS k) rfl (fun b45 T45 => ?_)
  have o45 : GRow 6 RSt d3 (.slice (some ⟨b45, 0, none⟩) 1 1) [fieldS k] (bx b45 T45 (stL (fieldS k))) := GRow.lit1 (sz := 6) rfl ⟨rfl, i64_0, hk, i64_0, i64_0⟩
  (apply w_mvs; rfl)
  refine w_appG (R := RSt) 0 rfl rfl o45 rfl (RSl.src (R := RSt) hw1 cell1_st (by omega) _) (by omega) (by simp; omega) (by simp; omega) (fun v47 h47 o47 => ?_)
  refine w_frz (fun d2 hl2 hg2 => ?_)
  have hwa : RSl 6 RSt d2 v47 (fieldS k :: l) := o47.rsl mono_st (by omega) hl2 hg2
  obtain ⟨al, cl, rfl⟩ := RSl.val hwa
  have hv2 := RVal.mono hl2 hv1
  have hx2 := RVal.mono hl2 hx1
  have ht2 := hT hl2 ht1
  (apply w_mvs; rfl; apply w_done0)
  refine w_mid (fun ρ d' L' => Le d2 d' ∧ ∃ b3 T3 e0 e1 e2 e3 e4 e5, RVal d' [e0, e1, e2, e3, e4, e5] (getF v [fieldS o]).1 ∧ SlotsAre ρ [(4, strV o), (5, .pointer (some ⟨b5, 0, none⟩)), (8, .pointer (some ⟨b8, 0, none⟩)), (11, .slice al (fieldS k :: l).length cl), (12, .pointer (some ⟨b3, 0, none⟩)), (13, .int .i64 (getF v [fieldS o]).2)] ∧ L' = [bx b8 T8 [x0, x1, x2, x3, x4, x5], bx b5 T5 [c0, c1, c2, c3, c4, c5], bx b3 T3 [e0, e1, e2, e3, e4, e5]]) ?_ ?_
  · refine w_drawn ?_
    (apply w_ldb 1; rfl; rfl; rfl; apply w_mvt; rfl)
    refine w_alt ?_ ?_
    · refine w_pure rfl hF ?_
      refine w_alt ?_ ?_
      · refine w_bsS1 (a := fieldS o) rfl (fun b52 T52 => ?_)
        refine w_alt ?_ ?_
        · refine w_frz (fun d3 hl3 hg3 => ?_)
          have hw3 : RSl 6 RSt d3 (.slice (some ⟨b52, 0, none⟩) 1 1) [fieldS o] := (GRow.lit1 (sz := 6) (R := RSt) rfl ⟨rfl, oko⟩ : GRow 6 RSt d2 _ _ _).rsl (R := RSt) mono_st (by omega) hl3 hg3
          refine w_call0 rfl (hG (hT hl3 ht2) (RVal.mono hl3 hv2) hw3 (by omega)) (fun r d4 L4 _ ⟨hdd, cs', g, hr, hL, ho⟩ => ?_)
          subst hdd; subst hL; subst hr
          obtain ⟨e0, e1, e2, e3, e4, e5, rfl⟩ := six ho.cells.1
          (apply w_mvu; rfl; apply w_ext; rfl; rfl; apply w_ext; rfl; rfl; apply w_alo; intro _ _)
          rename_i b3 T3
          refine w_vs _ [g, bx b3 T3 [.int .i64 0, .int .i64 0, .int .i64 0, strV [], .slice none 0 0, .slice none 0 0]] (Vs.perm (List.Perm.swap _ _ _)) ?_
          refine w_frz (fun d5 hl5 hg5 => ?_)
          refine w_stE 0 [e0, e1, e2, e3, e4, e5] rfl rfl rfl rfl (Nat.le_of_ble_eq_true rfl) ho.cells.2 rfl ?_
          (apply w_mvi; rfl; apply w_done)
          exact ⟨hl3.trans hl5, b3, T3, _, _, _, _, _, _, ho.rval hg5, ⟨rfl, rfl, rfl, rfl, rfl, rfl, trivial⟩, rfl⟩
        · refine w_frz (fun d3 hl3 hg3 => ?_)
          have hw3 : RSl 6 RSt d3 (.slice (some ⟨b52, 0, none⟩) 1 1) [fieldS o] := (GRow.lit1 (sz := 6) (R := RSt) rfl ⟨rfl, oko⟩ : GRow 6 RSt d2 _ _ _).rsl (R := RSt) mono_st (by omega) hl3 hg3
          (apply w_alo; intro _ _)
          rename_i b3 T3
          refine w_call0 rfl (hG (hT hl3 ht2) (RVal.mono hl3 hv2) hw3 (by omega)) (fun r d4 L4 _ ⟨hdd, cs', g, hr, hL, ho⟩ => ?_)
          subst hdd; subst hL; subst hr
          obtain ⟨e0, e1, e2, e3, e4, e5, rfl⟩ := six ho.cells.1
          (apply w_mvu; rfl; apply w_ext; rfl; rfl; apply w_ext; rfl; rfl)
          refine w_frz (fun d5 hl5 hg5 => ?_)
          refine w_stE 0 [e0, e1, e2, e3, e4, e5] rfl rfl rfl rfl (Nat.le_of_ble_eq_true rfl) ho.cells.2 rfl ?_
          (apply w_mvi; rfl; apply w_done)
          exact ⟨hl3.trans hl5, b3, T3, _, _, _, _, _, _, ho.rval hg5, ⟨rfl, rfl, rfl, rfl, rfl, rfl, trivial⟩, rfl⟩
      · (apply w_alo; intro _ _)
        rename_i b3 T3
        refine w_bsS1 (a := fieldS o) rfl (fun b52 T52 => ?_)
        refine w_frz (fun d3 hl3 hg3 => ?_)
        have hw3 : RSl 6 RSt d3 (.slice (some ⟨b52, 0, none⟩) 1 1) [fieldS o] := (GRow.lit1 (sz := 6) (R := RSt) rfl ⟨rfl, oko⟩ : GRow 6 RSt d2 _ _ _).rsl (R := RSt) mono_st (by omega) hl3 hg3
        refine w_call0 rfl (hG (hT hl3 ht2) (RVal.mono hl3 hv2) hw3 (by omega)) (fun r d4 L4 _ ⟨hdd, cs', g, hr, hL, ho⟩ => ?_)
        subst hdd; subst hL; subst hr
        obtain ⟨e0, e1, e2, e3, e4, e5, rfl⟩ := six ho.cells.1
        (apply w_mvu; rfl; apply w_ext; rfl; rfl; apply w_ext; rfl; rfl)
        refine w_frz (fun d5 hl5 hg5 => ?_)
        refine w_stE 0 [e0, e1, e2, e3, e4, e5] rfl rfl rfl rfl (Nat.le_of_ble_eq_true rfl) ho.cells.2 rfl ?_
        (apply w_mvi; rfl; apply w_done)
        exact ⟨hl3.trans hl5, b3, T3, _, _, _, _, _, _, ho.rval hg5, ⟨rfl, rfl, rfl, rfl, rfl, rfl, trivial⟩, rfl⟩
    · (apply w_alo; intro _ _)
      rename_i b3 T3
      refine w_pure rfl hF ?_
      refine w_bsS1 (a := fieldS o) rfl (fun b52 T52 => ?_)
      refine w_frz (fun d3 hl3 hg3 => ?_)
      have hw3 : RSl 6 RSt d3 (.slice (some ⟨b52, 0, none⟩) 1 1) [fieldS o] := (GRow.lit1 (sz := 6) (R := RSt) rfl ⟨rfl, oko⟩ : GRow 6 RSt d2 _ _ _).rsl (R := RSt) mono_st (by omega) hl3 hg3
      refine w_call0 rfl (hG (hT hl3 ht2) (RVal.mono hl3 hv2) hw3 (by omega)) (fun r d4 L4 _ ⟨hdd, cs', g, hr, hL, ho⟩ => ?_)
      subst hdd; subst hL; subst hr
      obtain ⟨e0, e1, e2, e3, e4, e5, rfl⟩ := six ho.cells.1
      (apply w_mvu; rfl; apply w_ext; rfl; rfl; apply w_ext; rfl; rfl)
      refine w_frz (fun d5 hl5 hg5 => ?_)
      refine w_stE 0 [e0, e1, e2, e3, e4, e5] rfl rfl rfl rfl (Nat.le_of_ble_eq_true rfl) ho.cells.2 rfl ?_
      (apply w_mvi; rfl; apply w_done)
      exact ⟨hl3.trans hl5, b3, T3, _, _, _, _, _, _, ho.rval hg5, ⟨rfl, rfl, rfl, rfl, rfl, rfl, trivial⟩, rfl⟩
  rintro ρ d3 L' ⟨hle3, b12, T12, r0, r1, r2, r3, r4, r5, hr3, hsl, hL⟩
  subst hL
  have hwa3 : RSl 6 RSt d3 (.slice al (fieldS k :: l).length cl) (fieldS k :: l) := RSl.mono (R := RSt) (fun hl h => h) hwa hle3
  have hv3 := RVal.mono hle3 hv2
  have hx3 := RVal.mono hle3 hx2
  have ht3 := hT hle3 ht2
  refine gwp_slots _ hsl ?_
  by_cases hgo : (getF v [fieldS o]).2 = 0
  · have hmul : (fieldS k :: l).length * (1000 + 4100) ≤ 13 * (1000 + 4100) := Nat.mul_le_mul_right _ (by simp; omega)
    have hta := putTop_txt v x (fieldS k :: l) 1000 (by omega)
    have htb := dropTop_txt v (fieldS k :: l) 1000 (by omega)
    (apply w_sq; apply w_sq; apply w_reg; apply w_mvi; rfl; apply w_neq; rfl; rfl; apply w_done0; refine w_ifdF rfl (by omega) ?_; apply w_skip; apply w_sq; apply w_reg; apply w_ldb 1; rfl; rfl; rfl; apply w_mvs; rfl; apply w_ldb 0; rfl; rfl; rfl)
    refine w_call0 rfl (hP ht3 hv3 hwa3 hx3 (by omega) (by omega) (by simp; omega)) (fun r d4 L4 _ ⟨hdd, cs6, g, hr, hL, hoA⟩ => ?_)
    subst hdd; subst hL; subst hr
    refine w_frz (fun d4 hl4 hg4 => ?_)
    have hA := hoA.rval hg4
    obtain ⟨g0, g1, g2, g3, g4, g5, rfl⟩ := six hA.len
    have hwa4 : RSl 6 RSt d4 (.slice al (fieldS k :: l).length cl) (fieldS k :: l) := RSl.mono (R := RSt) (fun hl h => h) hwa3 hl4
    have hv4 := RVal.mono hl4 hv3
    have hr4 := RVal.mono hl4 hr3
    have ht4 := hT hl4 ht3
    (apply w_mvu; rfl; apply w_ext; rfl; rfl; apply w_ext; rfl; rfl; apply w_alo; intro _ _)
    rename_i b14 T14
    refine w_stE 0 [g0, g1, g2, g3, g4, g5] rfl rfl rfl rfl (Nat.le_of_ble_eq_true rfl) (cell1_val _ _ _ hA) rfl ?_
    (apply w_mvi; rfl; apply w_done0)
    refine w_mid (fun ρ d' L' => Le d4 d' ∧ ∃ L0, SlotsAre ρ [(4, strV o), (5, .pointer (some ⟨b5, 0, none⟩)), (8, .pointer (some ⟨b8, 0, none⟩)), (11, .slice al (fieldS k :: l).length cl), (12, .pointer (some ⟨b12, 0, none⟩))] ∧ L' = [bx b14 T14 [g0, g1, g2, g3, g4, g5], bx b8 T8 [x0, x1, x2, x3, x4, x5], bx b5 T5 [c0, c1, c2, c3, c4, c5], bx b12 T12 [r0, r1, r2, r3, r4, r5]] ++ L0) ?_ ?_
    · by_cases hpe : (putTop v (fieldS k :: l) x).2 = 0
      · have hbs := beside_put hne hgo hpe
        apply w_sq; apply w_reg
        (apply w_mvi; rfl; apply w_eql; rfl; rfl; apply w_done0)
        refine w_ifdT rfl hpe ?_
        refine w_mid (fun ρ d' L' => Le d4 d' ∧ ∃ b3 T3 e0 e1 e2 e3 e4 e5, RVal d' [e0, e1, e2, e3, e4, e5] (getF (putTop v (fieldS k :: l) x).1 [fieldS o]).1 ∧ SlotsAre ρ [(4, strV o), (5, .pointer (some ⟨b5, 0, none⟩)), (8, .pointer (some ⟨b8, 0, none⟩)), (11, .slice al (fieldS k :: l).length cl), (12, .pointer (some ⟨b12, 0, none⟩)), (16, .pointer (some ⟨b3, 0, none⟩)), (17, .int .i64 (getF (putTop v (fieldS k :: l) x).1 [fieldS o]).2)] ∧ L' = [bx b14 T14 [g0, g1, g2, g3, g4, g5], bx b8 T8 [x0, x1, x2, x3, x4, x5], bx b5 T5 [c0, c1, c2, c3, c4, c5], bx b12 T12 [r0, r1, r2, r3, r4, r5], bx b3 T3 [e0, e1, e2, e3, e4, e5]]) ?_ ?_
        · refine w_drawn ?_
          (apply w_ldb 0; rfl; rfl; rfl; apply w_mvt; rfl)
          refine w_alt ?_ ?_
          · refine w_pure rfl hF ?_
            refine w_alt ?_ ?_
            · refine w_bsS1 (a := fieldS o) rfl (fun b52 T52 => ?_)
              refine w_alt ?_ ?_
              · refine w_frz (fun d3 hl3 hg3 => ?_)
                have hw3 : RSl 6 RSt d3 (.slice (some ⟨b52, 0, none⟩) 1 1) [fieldS o] := (GRow.lit1 (sz := 6) (R := RSt) rfl ⟨rfl, oko⟩ : GRow 6 RSt d4 _ _ _).rsl (R := RSt) mono_st (by omega) hl3 hg3
                refine w_call0 rfl (hG (hT hl3 ht4) (RVal.mono hl3 hA) hw3 (by omega)) (fun r d4 L4 _ ⟨hdd, cs', g, hr, hL, ho⟩ => ?_)
                subst hdd; subst hL; subst hr
                obtain ⟨e0, e1, e2, e3, e4, e5, rfl⟩ := six ho.cells.1
                (apply w_mvu; rfl; apply w_ext; rfl; rfl; apply w_ext; rfl; rfl; apply w_alo; intro _ _)
                rename_i b3 T3
                refine w_vs _ [g, bx b3 T3 [.int .i64 0, .int .i64 0, .int .i64 0, strV [], .slice none 0 0, .slice none 0 0]] (Vs.perm (List.Perm.swap _ _ _)) ?_
                refine w_frz (fun d5 hl5 hg5 => ?_)
                refine w_stE 0 [e0, e1, e2, e3, e4, e5] rfl rfl rfl rfl (Nat.le_of_ble_eq_true rfl) ho.cells.2 rfl ?_
                (apply w_mvi; rfl; apply w_done)
                exact ⟨hl3.trans hl5, b3, T3, _, _, _, _, _, _, ho.rval hg5, ⟨rfl, rfl, rfl, rfl, rfl, rfl, rfl, trivial⟩, rfl⟩
              · refine w_frz (fun d3 hl3 hg3 => ?_)
                have hw3 : RSl 6 RSt d3 (.slice (some ⟨b52, 0, none⟩) 1 1) [fieldS o] := (GRow.lit1 (sz := 6) (R := RSt) rfl ⟨rfl, oko⟩ : GRow 6 RSt d4 _ _ _).rsl (R := RSt) mono_st (by omega) hl3 hg3
                (apply w_alo; intro _ _)
                rename_i b3 T3
                refine w_call0 rfl (hG (hT hl3 ht4) (RVal.mono hl3 hA) hw3 (by omega)) (fun r d4 L4 _ ⟨hdd, cs', g, hr, hL, ho⟩ => ?_)
                subst hdd; subst hL; subst hr
                obtain ⟨e0, e1, e2, e3, e4, e5, rfl⟩ := six ho.cells.1
                (apply w_mvu; rfl; apply w_ext; rfl; rfl; apply w_ext; rfl; rfl)
                refine w_frz (fun d5 hl5 hg5 => ?_)
                refine w_stE 0 [e0, e1, e2, e3, e4, e5] rfl rfl rfl rfl (Nat.le_of_ble_eq_true rfl) ho.cells.2 rfl ?_
                (apply w_mvi; rfl; apply w_done)
                exact ⟨hl3.trans hl5, b3, T3, _, _, _, _, _, _, ho.rval hg5, ⟨rfl, rfl, rfl, rfl, rfl, rfl, rfl, trivial⟩, rfl⟩
            · (apply w_alo; intro _ _)
              rename_i b3 T3
              refine w_bsS1 (a := fieldS o) rfl (fun b52 T52 => ?_)
              refine w_frz (fun d3 hl3 hg3 => ?_)
              have hw3 : RSl 6 RSt d3 (.slice (some ⟨b52, 0, none⟩) 1 1) [fieldS o] := (GRow.lit1 (sz := 6) (R := RSt) rfl ⟨rfl, oko⟩ : GRow 6 RSt d4 _ _ _).rsl (R := RSt) mono_st (by omega) hl3 hg3
              refine w_call0 rfl (hG (hT hl3 ht4) (RVal.mono hl3 hA) hw3 (by omega)) (fun r d4 L4 _ ⟨hdd, cs', g, hr, hL, ho⟩ => ?_)
              subst hdd; subst hL; subst hr
              obtain ⟨e0, e1, e2, e3, e4, e5, rfl⟩ := six ho.cells.1
              (apply w_mvu; rfl; apply w_ext; rfl; rfl; apply w_ext; rfl; rfl)
              refine w_frz (fun d5 hl5 hg5 => ?_)
              refine w_stE 0 [e0, e1, e2, e3, e4, e5] rfl rfl rfl rfl (Nat.le_of_ble_eq_true rfl) ho.cells.2 rfl ?_
              (apply w_mvi; rfl; apply w_done)
              exact ⟨hl3.trans hl5, b3, T3, _, _, _, _, _, _, ho.rval hg5, ⟨rfl, rfl, rfl, rfl, rfl, rfl, rfl, trivial⟩, rfl⟩
          · (apply w_alo; intro _ _)
            rename_i b3 T3
            refine w_pure rfl hF ?_
            refine w_bsS1 (a := fieldS o) rfl (fun b52 T52 => ?_)
            refine w_frz (fun d3 hl3 hg3 => ?_)
            have hw3 : RSl 6 RSt d3 (.slice (some ⟨b52, 0, none⟩) 1 1) [fieldS o] := (GRow.lit1 (sz := 6) (R := RSt) rfl ⟨rfl, oko⟩ : GRow 6 RSt d4 _ _ _).rsl (R := RSt) mono_st (by omega) hl3 hg3
            refine w_call0 rfl (hG (hT hl3 ht4) (RVal.mono hl3 hA) hw3 (by omega)) (fun r d4 L4 _ ⟨hdd, cs', g, hr, hL, ho⟩ => ?_)
            subst hdd; subst hL; subst hr
            obtain ⟨e0, e1, e2, e3, e4, e5, rfl⟩ := six ho.cells.1
            (apply w_mvu; rfl; apply w_ext; rfl; rfl; apply w_ext; rfl; rfl)
            refine w_frz (fun d5 hl5 hg5 => ?_)
            refine w_stE 0 [e0, e1, e2, e3, e4, e5] rfl rfl rfl rfl (Nat.le_of_ble_eq_true rfl) ho.cells.2 rfl ?_
            (apply w_mvi; rfl; apply w_done)
            exact ⟨hl3.trans hl5, b3, T3, _, _, _, _, _, _, ho.rval hg5, ⟨rfl, rfl, rfl, rfl, rfl, rfl, rfl, trivial⟩, rfl⟩
        rintro ρ d5 L' ⟨hle5, b16, T16, s0, s1, s2, s3, s4, s5, hr5, hsl, hL⟩
        subst hL
        rw [hbs] at hr5 hsl
        rw [hgo] at hsl
        refine gwp_slots _ hsl ?_
        have hs : sameV (getF v [fieldS o]).1 (getF v [fieldS o]).1 = true := (sameV_iff _ _).2 rfl
        (apply w_sq; apply w_reg; apply w_mvi; rfl; apply w_neq; rfl; rfl; apply w_mvb; rfl; refine w_gdF rfl (by omega) ?_; apply w_gT; rfl; apply w_ldb 3; rfl; rfl; rfl; apply w_gT; rfl; apply w_ldb 4; rfl; rfl; rfl; apply w_gT; rfl)
        refine w_pure rfl (h6 _ _ (RVal.mono hle5 hr4) hr5) ?_
        rw [hs]
        (apply w_gT; rfl; apply w_not; rfl; apply w_pickFb; rfl; rfl; apply w_done0; apply w_ifF; rfl; apply w_skip)
        exact ⟨hle5, [bx b16 T16 [s0, s1, s2, s3, s4, s5]], ⟨rfl, rfl, rfl, rfl, rfl, trivial⟩, rfl⟩
      · (apply w_sq; apply w_reg; apply w_mvi; rfl; apply w_eql; rfl; rfl; apply w_done0; refine w_ifdF rfl (by omega) ?_; apply w_skip)
        exact ⟨Le.refl _, [], ⟨rfl, rfl, rfl, rfl, rfl, trivial⟩, rfl⟩
    rintro ρ d6 L' ⟨hle6, L0, hsl, hL⟩
    subst hL
    refine gwp_slots _ hsl ?_
    apply w_sq; apply w_reg
    refine w_vs d6 [bx b14 T14 [g0, g1, g2, g3, g4, g5], bx b8 T8 [x0, x1, x2, x3, x4, x5], bx b5 T5 [c0, c1, c2, c3, c4, c5], bx b12 T12 [r0, r1, r2, r3, r4, r5]] (Vs.drop (List.prefix_append _ _).sublist) ?_
    have ht6 := hT hle6 ht4
    have hv6 := RVal.mono hle6 hv4
    have hr6 := RVal.mono hle6 hr4
    have hwa6 : RSl 6 RSt d6 (.slice al (fieldS k :: l).length cl) (fieldS k :: l) := RSl.mono (R := RSt) (fun hl h => h) hwa4 hle6
    (apply w_ldb 2; rfl; rfl; rfl; apply w_mvs; rfl)
    refine w_call0 rfl (hD ht6 hv6 hwa6 (by omega) (by simp; omega)) (fun r d7 L7 _ ⟨hdd, cs7, g', hr, hL, hoB⟩ => ?_)
    subst hdd; subst hL; subst hr
    refine w_frz (fun d7 hl7 hg7 => ?_)
    have hB := hoB.rval hg7
    obtain ⟨k0, k1, k2, k3, k4, k5, rfl⟩ := six hB.len
    have hr7 := RVal.mono hl7 hr6
    have ht7 := hT hl7 ht6
    (apply w_mvu; rfl; apply w_ext; rfl; rfl; apply w_ext; rfl; rfl; apply w_alo; intro _ _)
    rename_i b18 T18
    refine w_stE 0 [k0, k1, k2, k3, k4, k5] rfl rfl rfl rfl (Nat.le_of_ble_eq_true rfl) (cell1_val _ _ _ hB) rfl ?_
    by_cases hde : (dropTop v (fieldS k :: l)).2 = 0
    · have hbs := beside_drop hne (by omega) hgo hde
      (apply w_mvi; rfl; apply w_done0)
      apply w_sq; apply w_sq; apply w_reg
      (apply w_mvi; rfl; apply w_eql; rfl; rfl; apply w_done0)
      refine w_ifdT rfl hde ?_
      refine w_mid (fun ρ d' L' => Le d7 d' ∧ ∃ b3 T3 e0 e1 e2 e3 e4 e5, RVal d' [e0, e1, e2, e3, e4, e5] (getF (dropTop v (fieldS k :: l)).1 [fieldS o]).1 ∧ SlotsAre ρ [(12, .pointer (some ⟨b12, 0, none⟩)), (19, .pointer (some ⟨b3, 0, none⟩)), (20, .int .i64 (getF (dropTop v (fieldS k :: l)).1 [fieldS o]).2)] ∧ L' = [bx b18 T18 [k0, k1, k2, k3, k4, k5], bx b14 T14 [g0, g1, g2, g3, g4, g5], bx b8 T8 [x0, x1, x2, x3, x4, x5], bx b5 T5 [c0, c1, c2, c3, c4, c5], bx b12 T12 [r0, r1, r2, r3, r4, r5], bx b3 T3 [e0, e1, e2, e3, e4, e5]]) ?_ ?_
      · refine w_drawn ?_
        (apply w_ldb 0; rfl; rfl; rfl; apply w_mvt; rfl)
        refine w_alt ?_ ?_
        · refine w_pure rfl hF ?_
          refine w_alt ?_ ?_
          · refine w_bsS1 (a := fieldS o) rfl (fun b52 T52 => ?_)
            refine w_alt ?_ ?_
            · refine w_frz (fun d3 hl3 hg3 => ?_)
              have hw3 : RSl 6 RSt d3 (.slice (some ⟨b52, 0, none⟩) 1 1) [fieldS o] := (GRow.lit1 (sz := 6) (R := RSt) rfl ⟨rfl, oko⟩ : GRow 6 RSt d7 _ _ _).rsl (R := RSt) mono_st (by omega) hl3 hg3
              refine w_call0 rfl (hG (hT hl3 ht7) (RVal.mono hl3 hB) hw3 (by omega)) (fun r d4 L4 _ ⟨hdd, cs', g, hr, hL, ho⟩ => ?_)
              subst hdd; subst hL; subst hr
              obtain ⟨e0, e1, e2, e3, e4, e5, rfl⟩ := six ho.cells.1
              (apply w_mvu; rfl; apply w_ext; rfl; rfl; apply w_ext; rfl; rfl; apply w_alo; intro _ _)
              rename_i b3 T3
              refine w_vs _ [g, bx b3 T3 [.int .i64 0, .int .i64 0, .int .i64 0, strV [], .slice none 0 0, .slice none 0 0]] (Vs.perm (List.Perm.swap _ _ _)) ?_
              refine w_frz (fun d5 hl5 hg5 => ?_)
              refine w_stE 0 [e0, e1, e2, e3, e4, e5] rfl rfl rfl rfl (Nat.le_of_ble_eq_true rfl) ho.cells.2 rfl ?_
              (apply w_mvi; rfl; apply w_done)
              exact ⟨hl3.trans hl5, b3, T3, _, _, _, _, _, _, ho.rval hg5, ⟨rfl, rfl, rfl, trivial⟩, rfl⟩
            · refine w_frz (fun d3 hl3 hg3 => ?_)
              have hw3 : RSl 6 RSt d3 (.slice (some ⟨b52, 0, none⟩) 1 1) [fieldS o] := (GRow.lit1 (sz := 6) (R := RSt) rfl ⟨rfl, oko⟩ : GRow 6 RSt d7 _ _ _).rsl (R := RSt) mono_st (by omega) hl3 hg3
              (apply w_alo; intro _ _)
              rename_i b3 T3
              refine w_call0 rfl (hG (hT hl3 ht7) (RVal.mono hl3 hB) hw3 (by omega)) (fun r d4 L4 _ ⟨hdd, cs', g, hr, hL, ho⟩ => ?_)
              subst hdd; subst hL; subst hr
              obtain ⟨e0, e1, e2, e3, e4, e5, rfl⟩ := six ho.cells.1
              (apply w_mvu; rfl; apply w_ext; rfl; rfl; apply w_ext; rfl; rfl)
              refine w_frz (fun d5 hl5 hg5 => ?_)
              refine w_stE 0 [e0, e1, e2, e3, e4, e5] rfl rfl rfl rfl (Nat.le_of_ble_eq_true rfl) ho.cells.2 rfl ?_
              (apply w_mvi; rfl; apply w_done)
              exact ⟨hl3.trans hl5, b3, T3, _, _, _, _, _, _, ho.rval hg5, ⟨rfl, rfl, rfl, trivial⟩, rfl⟩
          · (apply w_alo; intro _ _)
            rename_i b3 T3
            refine w_bsS1 (a := fieldS o) rfl (fun b52 T52 => ?_)
            refine w_frz (fun d3 hl3 hg3 => ?_)
            have hw3 : RSl 6 RSt d3 (.slice (some ⟨b52, 0, none⟩) 1 1) [fieldS o] := (GRow.lit1 (sz := 6) (R := RSt) rfl ⟨rfl, oko⟩ : GRow 6 RSt d7 _ _ _).rsl (R := RSt) mono_st (by omega) hl3 hg3
            refine w_call0 rfl (hG (hT hl3 ht7) (RVal.mono hl3 hB) hw3 (by omega)) (fun r d4 L4 _ ⟨hdd, cs', g, hr, hL, ho⟩ => ?_)
            subst hdd; subst hL; subst hr
            obtain ⟨e0, e1, e2, e3, e4, e5, rfl⟩ := six ho.cells.1
            (apply w_mvu; rfl; apply w_ext; rfl; rfl; apply w_ext; rfl; rfl)
            refine w_frz (fun d5 hl5 hg5 => ?_)
            refine w_stE 0 [e0, e1, e2, e3, e4, e5] rfl rfl rfl rfl (Nat.le_of_ble_eq_true rfl) ho.cells.2 rfl ?_
            (apply w_mvi; rfl; apply w_done)
            exact ⟨hl3.trans hl5, b3, T3, _, _, _, _, _, _, ho.rval hg5, ⟨rfl, rfl, rfl, trivial⟩, rfl⟩
        · (apply w_alo; intro _ _)
          rename_i b3 T3
          refine w_pure rfl hF ?_
          refine w_bsS1 (a := fieldS o) rfl (fun b52 T52 => ?_)
          refine w_frz (fun d3 hl3 hg3 => ?_)
          have hw3 : RSl 6 RSt d3 (.slice (some ⟨b52, 0, none⟩) 1 1) [fieldS o] := (GRow.lit1 (sz := 6) (R := RSt) rfl ⟨rfl, oko⟩ : GRow 6 RSt d7 _ _ _).rsl (R := RSt) mono_st (by omega) hl3 hg3
          refine w_call0 rfl (hG (hT hl3 ht7) (RVal.mono hl3 hB) hw3 (by omega)) (fun r d4 L4 _ ⟨hdd, cs', g, hr, hL, ho⟩ => ?_)
          subst hdd; subst hL; subst hr
          obtain ⟨e0, e1, e2, e3, e4, e5, rfl⟩ := six ho.cells.1
          (apply w_mvu; rfl; apply w_ext; rfl; rfl; apply w_ext; rfl; rfl)
          refine w_frz (fun d5 hl5 hg5 => ?_)
          refine w_stE 0 [e0, e1, e2, e3, e4, e5] rfl rfl rfl rfl (Nat.le_of_ble_eq_true rfl) ho.cells.2 rfl ?_
          (apply w_mvi; rfl; apply w_done)
          exact ⟨hl3.trans hl5, b3, T3, _, _, _, _, _, _, ho.rval hg5, ⟨rfl, rfl, rfl, trivial⟩, rfl⟩
      rintro ρ d8 L' ⟨hle8, b19, T19, s0, s1, s2, s3, s4, s5, hr8, hsl, hL⟩
      subst hL
      rw [hbs] at hr8 hsl
      rw [hgo] at hsl
      refine gwp_slots _ hsl ?_
      have hs : sameV (getF v [fieldS o]).1 (getF v [fieldS o]).1 = true := (sameV_iff _ _).2 rfl
      (apply w_sq; apply w_reg; apply w_mvi; rfl; apply w_neq; rfl; rfl; apply w_mvb; rfl; refine w_gdF rfl (by omega) ?_; apply w_gT; rfl; apply w_ldb 4; rfl; rfl; rfl; apply w_gT; rfl; apply w_ldb 5; rfl; rfl; rfl; apply w_gT; rfl)
      refine w_pure rfl (h6 _ _ (RVal.mono hle8 hr7) hr8) ?_
      rw [hs]
      (apply w_gT; rfl; apply w_not; rfl; apply w_pickFb; rfl; rfl; apply w_done0; apply w_ifF; rfl; apply w_skip; apply w_sq; apply w_reg; apply w_mvb; rfl; apply w_done0; apply w_ret)
      exact finQ rfl
    · (apply w_mvi; rfl; apply w_done0; apply w_sq; apply w_sq; apply w_reg; apply w_mvi; rfl; apply w_eql; rfl; rfl; apply w_done0; refine w_ifdF rfl (by omega) ?_; apply w_skip; apply w_sq; apply w_reg; apply w_mvb; rfl; apply w_done0; apply w_ret)
      exact finQ rfl
  · (apply w_sq; apply w_sq; apply w_reg; apply w_mvi; rfl; apply w_neq; rfl; rfl; apply w_done0; refine w_ifdT rfl (by omega) ?_; apply w_sq; apply w_reg; apply w_mvb; rfl; apply w_done0; apply w_ret)
    exact finQ rfl
end Go.Gk.Val
end
