/-
  Our own texts, one behind the other: GkOH Gk27.
-/
import Derived.Test.YtalhkeajhajggaaDoorPkG
section
/-
  The laws of order: OrderLists.
-/
namespace Go.Gk.Val
open Go Go.Gk Go.Gk.Srt
attribute [local irreducible] gwp gws

theorem cmpV_self (v : V) : cmpV v v = 0 := by have := cmpV_swap v v; omega
theorem lexF_pre (p l m : List V) : lexF cmpV (p ++ l) (p ++ m) = lexF cmpV l m := by
  induction p with
  | nil => rfl
  | cons x p ih => rw [List.cons_append, List.cons_append, lexF, cmpV_self, thn0, ih]
theorem cmpV_list (l m : List V) : cmpV (.mk 5 0 0 [] l []) (.mk 5 0 0 [] m []) = lexF cmpV l m := by
  rw [cmpV_eq]
  simp only [V.kind, V.text, V.keys, V.list, V.m, V.e]
  rw [cmpI_eq rfl, thn0, if_neg (by decide), thn0, show cmpB [] [] = 0 from rfl, thn0, lexF_nil, thn0]
theorem lists_cmp (p : List V) (a b : V) (q : List V) : cmpV (.mk 5 0 0 [] (p ++ [a]) []) (.mk 5 0 0 [] (p ++ [b] ++ q) []) = thn (cmpV a b) (if q = [] then 0 else -1) := by
  rw [cmpV_list, List.append_assoc, lexF_pre]
  cases q with
  | nil => rfl
  | cons x q => rfl
theorem row2 {d : PHeap} {b : Nat} {T : TypeId} {cs ds : List Value} {x y : V} (hx : RVal d cs x) (hy : RVal d ds y) : GRow 6 RVal d (.slice (some ⟨b, 0, none⟩) 2 2) [x, y] (bx b T (cs ++ ds)) := by
  obtain ⟨c0, c1, c2, c3, c4, c5, rfl⟩ := six hx.len
  obtain ⟨e0, e1, e2, e3, e4, e5, rfl⟩ := six hy.len
  refine GRow.lit (xs := [x, y]) rfl rfl (by simp) (fun i hi => ?_)
  match i, hi with
  | 0, _ => exact hx
  | 1, _ => exact hy
/-- Of an argument list: one element behind a beginning. -/
def g_thimblelaw04_OrderLists (f_thimblelaw04_works f_thimblelaw04_great f_order_Cmp : Nat) : GFun :=
 ⟨71, [(.tmp 8)],
 (.seq
 (.reg false (.op false ⟨(some 5), none, (.box (.tmp 1))⟩
  (.op false ⟨(some 6), none, (.box (.tmp 2))⟩
  (.op false ⟨(some 8), none, (.mv (.const (.bool false)))⟩ .done))))
 (.seq (.seq
 (.reg false (.op false ⟨(some 15), none, (.call f_thimblelaw04_works [])⟩
  (.op false ⟨(some 16), none, (.un .not (.tmp 15))⟩ .done))) (.cond (.tmp 16)
 (.seq
 (.reg false (.op false ⟨(some 8), none, (.mv (.const (.bool false)))⟩ .done)) .ret) .skip))
 (.seq (.seq
 (.reg false (.op false ⟨(some 17), none, (.ld (some 6) (.tmp 5))⟩
  (.op false ⟨(some 18), none, (.ld (some 6) (.tmp 6))⟩
  (.op false ⟨(some 19), none, (.bsl 2 6 [(.int .i64 0), (.int .i64 0), (.int .i64 0), (strV []), (.slice none 0 0), (.slice none 0 0)] [(0, (.tmp 17)), (1, (.tmp 18))])⟩
  (.op false ⟨(some 20), none, (.mv (.tmp 0))⟩
  (.op false ⟨(some 21), none, (.app 6 88 [(.int .i64 0), (.int .i64 0), (.int .i64 0), (strV []), (.slice none 0 0), (.slice none 0 0)] (.tmp 19) (.tmp 20))⟩
  (.op false ⟨(some 22), none, (.mv (.tmp 3))⟩
  (.op false ⟨(some 23), none, (.app 6 88 [(.int .i64 0), (.int .i64 0), (.int .i64 0), (strV []), (.slice none 0 0), (.slice none 0 0)] (.tmp 21) (.tmp 22))⟩
  (.op false ⟨(some 24), none, (.call f_thimblelaw04_great [(.tmp 23)])⟩ .done))))))))) (.cond (.tmp 24)
 (.seq
 (.reg false (.op false ⟨(some 8), none, (.mv (.const (.bool true)))⟩ .done)) .ret) .skip))
 (.seq
 (.reg false (.op false ⟨(some 26), none, (.ld (some 6) (.tmp 5))⟩
  (.op false ⟨(some 27), none, (.ld (some 6) (.tmp 6))⟩
  (.op false ⟨(some 28), none, (.call f_order_Cmp [(.tmp 26), (.tmp 27)])⟩
  (.op false ⟨(some 25), none, (.mv (.tmp 28))⟩
  (.op false ⟨(some 29), none, (.ext (.tmp 25) 0)⟩
  (.op false ⟨(some 30), none, (.ext (.tmp 25) 1)⟩
  (.op false ⟨(some 9), none, (.mv (.tmp 29))⟩
  (.op false ⟨(some 10), none, (.mv (.tmp 30))⟩ .done)))))))))
 (.seq
 (.reg true (.op true ⟨(some 32), none, (.mv (.tmp 0))⟩
  (.op true ⟨(some 34), none, (.ld (some 6) (.tmp 5))⟩ (.par (.par (.op false ⟨(some 35), none, (.bsl 1 6 [(.int .i64 0), (.int .i64 0), (.int .i64 0), (strV []), (.slice none 0 0), (.slice none 0 0)] [(0, (.tmp 34))])⟩ .done) (.op false ⟨(some 31), none, (.bsl 0 6 [(.int .i64 0), (.int .i64 0), (.int .i64 0), (strV []), (.slice none 0 0), (.slice none 0 0)] [])⟩
  (.op false ⟨(some 33), none, (.app 6 88 [(.int .i64 0), (.int .i64 0), (.int .i64 0), (strV []), (.slice none 0 0), (.slice none 0 0)] (.tmp 31) (.tmp 32))⟩ .done)) (.op false ⟨(some 36), none, (.app 6 88 [(.int .i64 0), (.int .i64 0), (.int .i64 0), (strV []), (.slice none 0 0), (.slice none 0 0)] (.tmp 33) (.tmp 35))⟩
  (.op true ⟨(some 37), none, (.bld [(0, 1), (1, 2), (3, 1), (4, 1), (5, 1)] [(.int .i64 0), (.int .i64 0), (.int .i64 0), (strV []), (.slice none 0 0), (.slice none 0 0)] [(0, (.const (.int .i64 5))), (3, (.tmp 36))])⟩ .done))) (.op false ⟨(some 11), none, (.alo (.agg #[(.int .i64 0), (.int .i64 0), (.int .i64 0), (strV []), (.slice none 0 0), (.slice none 0 0)]))⟩ .done) (.bar (.op false ⟨none, none, (.st 6 (.tmp 11) (.tmp 37))⟩ .done))))))
 (.seq
 (.reg true (.op true ⟨(some 39), none, (.mv (.tmp 0))⟩
  (.op true ⟨(some 41), none, (.ld (some 6) (.tmp 6))⟩
  (.op true ⟨(some 44), none, (.mv (.tmp 3))⟩ (.par (.par (.op false ⟨(some 42), none, (.bsl 1 6 [(.int .i64 0), (.int .i64 0), (.int .i64 0), (strV []), (.slice none 0 0), (.slice none 0 0)] [(0, (.tmp 41))])⟩ .done) (.op false ⟨(some 38), none, (.bsl 0 6 [(.int .i64 0), (.int .i64 0), (.int .i64 0), (strV []), (.slice none 0 0), (.slice none 0 0)] [])⟩
  (.op false ⟨(some 40), none, (.app 6 88 [(.int .i64 0), (.int .i64 0), (.int .i64 0), (strV []), (.slice none 0 0), (.slice none 0 0)] (.tmp 38) (.tmp 39))⟩ .done)) (.op false ⟨(some 43), none, (.app 6 88 [(.int .i64 0), (.int .i64 0), (.int .i64 0), (strV []), (.slice none 0 0), (.slice none 0 0)] (.tmp 40) (.tmp 42))⟩
  (.op false ⟨(some 45), none, (.app 6 88 [(.int .i64 0), (.int .i64 0), (.int .i64 0), (strV []), (.slice none 0 0), (.slice none 0 0)] (.tmp 43) (.tmp 44))⟩
  (.op true ⟨(some 46), none, (.bld [(0, 1), (1, 2), (3, 1), (4, 1), (5, 1)] [(.int .i64 0), (.int .i64 0), (.int .i64 0), (strV []), (.slice none 0 0), (.slice none 0 0)] [(0, (.const (.int .i64 5))), (3, (.tmp 45))])⟩ .done)))) (.op false ⟨(some 12), none, (.alo (.agg #[(.int .i64 0), (.int .i64 0), (.int .i64 0), (strV []), (.slice none 0 0), (.slice none 0 0)]))⟩ .done) (.bar (.op false ⟨none, none, (.st 6 (.tmp 12) (.tmp 46))⟩ .done)))))))
 (.seq
 (.reg false (.op false ⟨(some 48), none, (.ld (some 6) (.tmp 11))⟩
  (.op false ⟨(some 49), none, (.ld (some 6) (.tmp 12))⟩
  (.op false ⟨(some 50), none, (.call f_order_Cmp [(.tmp 48), (.tmp 49)])⟩
  (.op false ⟨(some 47), none, (.mv (.tmp 50))⟩
  (.op false ⟨(some 51), none, (.ext (.tmp 47) 0)⟩
  (.op false ⟨(some 52), none, (.ext (.tmp 47) 1)⟩
  (.op false ⟨(some 13), none, (.mv (.tmp 51))⟩
  (.op false ⟨(some 14), none, (.mv (.tmp 52))⟩ .done)))))))))
 (.seq (.seq
 (.reg false (.op false ⟨(some 53), none, (.mv (.tmp 10))⟩
  (.op false ⟨(some 54), none, (.bin .neq (.tmp 53) (.const (.int .i64 0)))⟩
  (.op false ⟨(some 55), none, (.mv (.tmp 54))⟩
  (.op false ⟨(some 56), (some (55, false)), (.mv (.tmp 14))⟩
  (.op false ⟨(some 57), (some (55, false)), (.bin .neq (.tmp 56) (.const (.int .i64 0)))⟩
  (.op false ⟨(some 58), none, (.pick (.tmp 55) (.const (.bool true)) (.tmp 57))⟩ .done))))))) (.cond (.tmp 58)
 (.seq
 (.reg false (.op false ⟨(some 8), none, (.mv (.const (.bool true)))⟩ .done)) .ret) .skip))
 (.seq (.seq
 (.reg false (.op false ⟨(some 59), none, (.mv (.tmp 9))⟩
  (.op false ⟨(some 60), none, (.bin .eql (.tmp 59) (.const (.int .i64 0)))⟩
  (.op false ⟨(some 61), none, (.mv (.tmp 60))⟩
  (.op false ⟨(some 62), (some (61, true)), (.mv (.tmp 3))⟩
  (.op false ⟨(some 63), (some (61, true)), (.len (.tmp 62))⟩
  (.op false ⟨(some 64), (some (61, true)), (.bin .gtr (.tmp 63) (.const (.int .i64 0)))⟩
  (.op false ⟨(some 65), none, (.pick (.tmp 61) (.tmp 64) (.const (.bool false)))⟩ .done)))))))) (.cond (.tmp 65)
 (.seq
 (.reg false (.op false ⟨(some 66), none, (.mv (.tmp 13))⟩
  (.op false ⟨(some 67), none, (.bin .eql (.tmp 66) (.const (.int .i64 (-1))))⟩
  (.op false ⟨(some 8), none, (.mv (.tmp 67))⟩ .done)))) .ret) .skip))
 (.seq
 (.reg false (.op false ⟨(some 68), none, (.mv (.tmp 13))⟩
  (.op false ⟨(some 69), none, (.mv (.tmp 9))⟩
  (.op false ⟨(some 70), none, (.bin .eql (.tmp 68) (.tmp 69))⟩
  (.op false ⟨(some 8), none, (.mv (.tmp 70))⟩ .done))))) .ret))))))))))⟩

set_option maxHeartbeats 4000000 in
theorem orderLists_ok {T : PHeap → Prop} {P : Program} {f f1 f2 f3 : FuncId} (hT : ∀ {d d' : PHeap}, Le d d' → T d → T d') (hd : decp P f = some (g_thimblelaw04_OrderLists f1 f2 f3)) (h1 : W4Ok T P f1) (h2 : Great4Ok P f2) (h3 : CmpTopOk T P f3)
    {d : PHeap} {v w : Value} {cs ds : List Value} {p q : List V} {a b : V} (ht : T d) (hv : RVals d v p) (ha : RVal d cs a) (hb : RVal d ds b) (hw : RVals d w q) (np : p.length ≤ 1048576) (nq : q.length ≤ 1048576) : GPure P f [v, .agg cs.toArray, .agg ds.toArray, w] d (.bool true) := by
  obtain ⟨pa, ca, rfl⟩ := RSl.val hv
  obtain ⟨pb, cb, rfl⟩ := RSl.val hw
  obtain ⟨c0, c1, c2, c3, c4, c5, rfl⟩ := six ha.len
  obtain ⟨e0, e1, e2, e3, e4, e5, rfl⟩ := six hb.len
  refine GPure.of' hd (Nat.le_of_ble_eq_true rfl) ?_
  show gwp P _ _ _ _ _
  apply w_sq; apply w_reg
  refine w_boxa (l := [c0, c1, c2, c3, c4, c5]) rfl (fun b5 T5 => ?_)
  refine w_boxa (l := [e0, e1, e2, e3, e4, e5]) rfl (fun b6 T6 => ?_)
  (apply w_mvb; rfl; apply w_done0; apply w_sq; apply w_sq; apply w_reg)
  refine w_pure rfl (h1 ht) ?_
  (apply w_not; rfl; apply w_done0; apply w_ifF; rfl; apply w_skip; apply w_sq; apply w_sq; apply w_reg; apply w_ldb 1; rfl; rfl; rfl; apply w_ldb 0; rfl; rfl; rfl)
  refine w_bsV2 rfl rfl rfl rfl (fun b19 T19 => ?_)
  (apply w_mvs; rfl)
  refine w_appG (R := RVal) 0 rfl rfl (row2 ha hb) rfl (RSl.src (R := RVal) hv cell1_val (by omega) _) (by omega) (by simp; omega) (by simp; omega) (fun v21 g21 o21 => ?_)
  (apply w_mvs; rfl)
  refine w_appG (R := RVal) (xs := [a, b] ++ p) (ys := q) 0 rfl rfl o21 rfl (RSl.src (R := RVal) hw cell1_val (by omega) _) (by omega) (by simp; omega) (by simp; omega) (fun v23 g23 o23 => ?_)
  refine w_frz (fun d1 hl1 hg1 => ?_)
  have r23 : RVals d1 v23 ([a, b] ++ p ++ q) := o23.rsl mono_val (by omega) hl1 hg1
  refine w_call0 rfl (h2 r23) (fun r d2 L2 _ ⟨hdd, hL, qq, hr, hq⟩ => ?_)
  subst hdd; subst hL; subst hr
  cases qq with
  | true =>
    (apply w_done0; apply w_ifT; rfl; apply w_sq; apply w_reg; apply w_mvb; rfl; apply w_done0; apply w_ret)
    exact finQ rfl
  | false =>
    obtain ⟨_, hbd⟩ := bulk_list (hq rfl)
    have hda := (hbd a (by simp)).2.1
    have hdb := (hbd b (by simp)).2.1
    have ht1 := hT hl1 ht
    have ha1 := ha.mono hl1
    have hb1 := hb.mono hl1
    (apply w_done0; apply w_ifF; rfl; apply w_skip; apply w_sq; apply w_reg; apply w_ldb 1; rfl; rfl; rfl; apply w_ldb 0; rfl; rfl; rfl)
    have ea : ∀ z : V, z ∈ p ++ [a] → depthV z ≤ 2000 := fun z hz => by
      rcases List.mem_append.1 hz with hz | hz
      · exact (hbd z (by simp [hz])).2.1
      · rw [List.mem_singleton.1 hz]; exact hda
    have eb : ∀ z : V, z ∈ p ++ [b] ++ q → depthV z ≤ 2000 := fun z hz => by
      rcases List.mem_append.1 hz with hz | hz
      · rcases List.mem_append.1 hz with hz | hz
        · exact (hbd z (by simp [hz])).2.1
        · rw [List.mem_singleton.1 hz]; exact hdb
      · exact (hbd z (by simp [hz])).2.1
    have dx := depth_mk (k := 5) (m := 0) (e := 0) (t := []) (ks := []) ea
    have dy := depth_mk (k := 5) (m := 0) (e := 0) (t := []) (ks := []) eb
    refine w_pure rfl (h3 a b ht1 ha1 hb1 (by omega) (by omega)) ?_
    (apply w_mvu; rfl; apply w_ext; rfl; rfl; apply w_ext; rfl; rfl; apply w_mvi; rfl; apply w_mvi; rfl; apply w_done0; apply w_sq)
    refine w_drawn ?_
    (apply w_mvs; rfl; apply w_ldb 1; rfl; rfl; rfl)
    have hv1 : RSl 6 RVal d2 (.slice pa p.length ca) p := RVals.mono hv hl1
    refine w_par (α := Option Addr × Nat) (β := Nat × TypeId) [(0, .slice pa p.length ca), (3, .slice pb q.length cb), (5, .pointer (some ⟨b5, 0, none⟩)), (6, .pointer (some ⟨b6, 0, none⟩)), (9, .int .i64 (cmpTop a b).1), (10, .int .i64 (cmpTop a b).2)] (fun x => [(37, .agg [.int .i64 5, .int .i64 0, .int .i64 0, strV [], .slice x.1 (p ++ [a]).length x.2, .slice none 0 0].toArray)]) (fun x d M => RSl 6 RVal d (.slice x.1 (p ++ [a]).length x.2) (p ++ [a]) ∧ M = [])
      (fun y => [(11, .pointer (some ⟨y.1, 0, none⟩))]) (fun y d M => M = [bx y.1 y.2 zVal]) [] [] rfl
      (fun x d d' M hl h => ⟨RVals.mono h.1 hl, h.2⟩) (fun y d d' M hl h => h) (fun x => rfl) (fun y => rfl) rfl ⟨rfl, rfl, rfl, rfl, rfl, rfl, trivial⟩ ?_ ?_ ?_
    · refine w_par (α := Nat × TypeId) (β := Value × PHeap) [] (fun x => [(35, .slice (some ⟨x.1, 0, none⟩) 1 1)]) (fun x d M => M = [bx x.1 x.2 [c0, c1, c2, c3, c4, c5]])
        (fun y => [(33, y.1)]) (fun y d M => GRow 6 RVal d y.1 p y.2 ∧ M = [y.2]) [] [] rfl
        (fun x d d' M hl h => h) (fun y d d' M hl h => ⟨GRow.mono (R := RVal) mono_val h.1 hl, h.2⟩) (fun x => rfl) (fun y => rfl) rfl trivial ?_ ?_ ?_
      · refine w_bsV rfl rfl (fun b35 T35 => ?_)
        refine w_done ?_
        exact ⟨_, rfl, (b35, T35), ⟨rfl, trivial⟩, rfl⟩
      · refine w_cat1 (R := RVal) (xs := p) mono_val cell1_val (by omega) hv1 (fun _ => rfl) (by omega) (by omega) (fun v0 v1 g1 o1 => ?_)
        refine w_done ?_
        exact ⟨_, rfl, (v1, g1), ⟨rfl, trivial⟩, o1, rfl⟩
      rintro ⟨b35, T35⟩ ⟨v33, g33⟩ ρ d5 M1 M2 hl5 hM1 ⟨o33, hM2⟩
      subst hM1; subst hM2
      refine w_appL (R := RVal) 0 rfl rfl o33 rfl (GRow.lit1 (R := RVal) rfl (ha1.mono hl5)) cell1_val (by omega) (by simp; omega) (by simp; omega) (fun v36 g36 o36 => ?_)
      obtain ⟨a36, c36, rfl⟩ := o36.val
      refine w_bvKL rfl rfl ?_
      refine w_doneF (fun d6 hl6 hg6 => ?_)
      exact ⟨[], by simp, (a36, c36), ⟨rfl, trivial⟩, o36.rsl mono_val (by omega) hl6 hg6, rfl⟩
    · refine w_alo (fun b11 T11 => ?_)
      refine w_done ?_
      exact ⟨_, rfl, (b11, T11), ⟨rfl, trivial⟩, rfl⟩
    rintro ⟨a36, c36⟩ ⟨b11, T11⟩ ρ d3 M1 M2 hl3 ⟨r36, hM1⟩ hM2
    subst hM1; subst hM2
    (apply w_bar)
    refine w_stE 2 [.int .i64 5, .int .i64 0, .int .i64 0, strV [], .slice a36 (p ++ [a]).length c36, .slice none 0 0] rfl rfl rfl rfl (Nat.le_of_ble_eq_true rfl) rfl rfl ?_
    (apply w_done0; apply w_sq)
    refine w_drawn ?_
    (apply w_mvs; rfl; apply w_ldb 0; rfl; rfl; rfl; apply w_mvs; rfl)
    have hv3 : RSl 6 RVal d3 (.slice pa p.length ca) p := RVals.mono hv1 hl3
    have hw3 : RSl 6 RVal d3 (.slice pb q.length cb) q := RVals.mono hw (hl1.trans hl3)
    have hb3 := hb1.mono hl3
    refine w_par (α := Option Addr × Nat) (β := Nat × TypeId) [(0, .slice pa p.length ca), (3, .slice pb q.length cb), (5, .pointer (some ⟨b5, 0, none⟩)), (6, .pointer (some ⟨b6, 0, none⟩)), (9, .int .i64 (cmpTop a b).1), (10, .int .i64 (cmpTop a b).2), (11, .pointer (some ⟨b11, 0, none⟩))] (fun x => [(46, .agg [.int .i64 5, .int .i64 0, .int .i64 0, strV [], .slice x.1 (p ++ [b] ++ q).length x.2, .slice none 0 0].toArray)]) (fun x d M => RSl 6 RVal d (.slice x.1 (p ++ [b] ++ q).length x.2) (p ++ [b] ++ q) ∧ M = [])
      (fun y => [(12, .pointer (some ⟨y.1, 0, none⟩))]) (fun y d M => M = [bx y.1 y.2 zVal]) [] [] rfl
      (fun x d d' M hl h => ⟨RVals.mono h.1 hl, h.2⟩) (fun y d d' M hl h => h) (fun x => rfl) (fun y => rfl) rfl ⟨rfl, rfl, rfl, rfl, rfl, rfl, rfl, trivial⟩ ?_ ?_ ?_
    · refine w_par (α := Nat × TypeId) (β := Value × PHeap) [(44, .slice pb q.length cb)] (fun x => [(42, .slice (some ⟨x.1, 0, none⟩) 1 1)]) (fun x d M => M = [bx x.1 x.2 [e0, e1, e2, e3, e4, e5]])
        (fun y => [(40, y.1)]) (fun y d M => GRow 6 RVal d y.1 p y.2 ∧ M = [y.2]) [] [] rfl
        (fun x d d' M hl h => h) (fun y d d' M hl h => ⟨GRow.mono (R := RVal) mono_val h.1 hl, h.2⟩) (fun x => rfl) (fun y => rfl) rfl ⟨rfl, trivial⟩ ?_ ?_ ?_
      · refine w_bsV rfl rfl (fun b35 T35 => ?_)
        refine w_done ?_
        exact ⟨_, rfl, (b35, T35), ⟨rfl, trivial⟩, rfl⟩
      · refine w_cat1 (R := RVal) (xs := p) mono_val cell1_val (by omega) hv3 (fun _ => rfl) (by omega) (by omega) (fun v0 v1 g1 o1 => ?_)
        refine w_done ?_
        exact ⟨_, rfl, (v1, g1), ⟨rfl, trivial⟩, o1, rfl⟩
      rintro ⟨b42, T42⟩ ⟨v40, g40⟩ ρ d5 M1 M2 hl5 hM1 ⟨o40, hM2⟩
      subst hM1; subst hM2
      refine w_appL (R := RVal) 0 rfl rfl o40 rfl (GRow.lit1 (R := RVal) rfl (hb3.mono hl5)) cell1_val (by omega) (by simp; omega) (by simp; omega) (fun v43 g43 o43 => ?_)
      refine w_appGF (R := RVal) (xs := p ++ [b]) (ys := q) mono_val rfl o43 rfl (RSl.src (R := RVal) (RVals.mono hw3 hl5) cell1_val (by omega) _) (by omega) (by simp; omega) (by simp; omega) (fun a45 c45 d6 hl6 r45 => ?_)
      refine w_bvKL rfl rfl ?_
      refine w_done ?_
      exact ⟨[], by simp, (a45, c45), ⟨rfl, trivial⟩, r45, rfl⟩
    · refine w_alo (fun b12 T12 => ?_)
      refine w_done ?_
      exact ⟨_, rfl, (b12, T12), ⟨rfl, trivial⟩, rfl⟩
    rintro ⟨a45, c45⟩ ⟨b12, T12⟩ ρ d4 M1 M2 hl4 ⟨r45, hM1⟩ hM2
    subst hM1; subst hM2
    (apply w_bar)
    refine w_stE 3 [.int .i64 5, .int .i64 0, .int .i64 0, strV [], .slice a45 (p ++ [b] ++ q).length c45, .slice none 0 0] rfl rfl rfl rfl (Nat.le_of_ble_eq_true rfl) rfl rfl ?_
    have hX : RVal d4 [.int .i64 5, .int .i64 0, .int .i64 0, strV [], .slice a36 (p ++ [a]).length c36, .slice none 0 0] (.mk 5 0 0 [] (p ++ [a]) []) := RVal.close (v := .mk 5 0 0 [] (p ++ [a]) []) i64_5 i64_0 i64_0 (by simp [V.text]) (RVals.mono r36 hl4) RSl.nil
    have hY : RVal d4 [.int .i64 5, .int .i64 0, .int .i64 0, strV [], .slice a45 (p ++ [b] ++ q).length c45, .slice none 0 0] (.mk 5 0 0 [] (p ++ [b] ++ q) []) := RVal.close (v := .mk 5 0 0 [] (p ++ [b] ++ q) []) i64_5 i64_0 i64_0 (by simp [V.text]) r45 RSl.nil
    have cc := h3 _ _ (hT (hl3.trans hl4) ht1) hX hY (by omega) (by omega)
    have hlc := lists_cmp p a b q
    by_cases pe : (cmpTop a b).2 = 0
    · by_cases pf : (cmpTop (.mk 5 0 0 [] (p ++ [a]) []) (.mk 5 0 0 [] (p ++ [b] ++ q) [])).2 = 0
      · obtain ⟨ra, rb⟩ := cmpTop_errs.1 pe
        obtain ⟨rx, ry⟩ := cmpTop_errs.1 pf
        have e1 : (cmpTop a b).1 = cmpV a b := by rw [cmpTop, if_neg (by omega), if_neg (by omega)]
        have e2 : (cmpTop (.mk 5 0 0 [] (p ++ [a]) []) (.mk 5 0 0 [] (p ++ [b] ++ q) [])).1 = thn (cmpV a b) (if q = [] then 0 else -1) := by rw [cmpTop, if_neg (by omega), if_neg (by omega)]; exact hlc
        by_cases n0 : cmpV a b = 0
        · rw [n0, thn0] at e2
          by_cases hq0 : q = []
          · have hq1 : q.length = 0 := by rw [hq0]; rfl
            rw [if_pos hq0] at e2
            (apply w_done0; apply w_sq; apply w_reg; apply w_ldb 2; rfl; rfl; rfl; apply w_ldb 3; rfl; rfl; rfl)
            refine w_pure rfl cc ?_
            (apply w_mvu; rfl; apply w_ext; rfl; rfl; apply w_ext; rfl; rfl; apply w_mvi; rfl; apply w_mvi; rfl; apply w_done0; apply w_sq; apply w_sq; apply w_reg; apply w_mvi; rfl; apply w_neq; rfl; rfl; apply w_mvb; rfl; refine w_gdF rfl (by omega) ?_; apply w_gT; rfl; apply w_mvi; rfl; apply w_gT; rfl; apply w_neq; rfl; rfl; apply w_pickFb; rfl; rfl; apply w_done0; refine w_ifdF rfl (by omega) ?_; apply w_skip; apply w_sq; apply w_sq; apply w_reg; apply w_mvi; rfl; apply w_eql; rfl; rfl; apply w_mvb; rfl; refine w_gdT rfl (by omega) ?_; apply w_gT; rfl; apply w_mvs; rfl; apply w_gT; rfl; apply w_len; rfl; apply w_gT; rfl; apply w_gtr; rfl; rfl; apply w_pickTb; rfl; rfl; apply w_done0; refine w_ifdF rfl (by omega) ?_; apply w_skip; apply w_sq; apply w_reg; apply w_mvi; rfl; apply w_mvi; rfl; apply w_eql; rfl; rfl; apply w_mvb; rfl; apply w_done0; apply w_ret)
            exact finQb rfl (decide_eq_true (by omega))
          · have hq1 : q.length ≠ 0 := fun h => hq0 (List.eq_nil_of_length_eq_zero h)
            rw [if_neg hq0] at e2
            (apply w_done0; apply w_sq; apply w_reg; apply w_ldb 2; rfl; rfl; rfl; apply w_ldb 3; rfl; rfl; rfl)
            refine w_pure rfl cc ?_
            (apply w_mvu; rfl; apply w_ext; rfl; rfl; apply w_ext; rfl; rfl; apply w_mvi; rfl; apply w_mvi; rfl; apply w_done0; apply w_sq; apply w_sq; apply w_reg; apply w_mvi; rfl; apply w_neq; rfl; rfl; apply w_mvb; rfl; refine w_gdF rfl (by omega) ?_; apply w_gT; rfl; apply w_mvi; rfl; apply w_gT; rfl; apply w_neq; rfl; rfl; apply w_pickFb; rfl; rfl; apply w_done0; refine w_ifdF rfl (by omega) ?_; apply w_skip; apply w_sq; apply w_sq; apply w_reg; apply w_mvi; rfl; apply w_eql; rfl; rfl; apply w_mvb; rfl; refine w_gdT rfl (by omega) ?_; apply w_gT; rfl; apply w_mvs; rfl; apply w_gT; rfl; apply w_len; rfl; apply w_gT; rfl; apply w_gtr; rfl; rfl; apply w_pickTb; rfl; rfl; apply w_done0; refine w_ifdT rfl (by omega) ?_; apply w_sq; apply w_reg; apply w_mvi; rfl; apply w_eql; rfl; rfl; apply w_mvb; rfl; apply w_done0; apply w_ret)
            exact finQb rfl (decide_eq_true (by omega))
        · rw [thnN n0] at e2
          (apply w_done0; apply w_sq; apply w_reg; apply w_ldb 2; rfl; rfl; rfl; apply w_ldb 3; rfl; rfl; rfl)
          refine w_pure rfl cc ?_
          (apply w_mvu; rfl; apply w_ext; rfl; rfl; apply w_ext; rfl; rfl; apply w_mvi; rfl; apply w_mvi; rfl; apply w_done0; apply w_sq; apply w_sq; apply w_reg; apply w_mvi; rfl; apply w_neq; rfl; rfl; apply w_mvb; rfl; refine w_gdF rfl (by omega) ?_; apply w_gT; rfl; apply w_mvi; rfl; apply w_gT; rfl; apply w_neq; rfl; rfl; apply w_pickFb; rfl; rfl; apply w_done0; refine w_ifdF rfl (by omega) ?_; apply w_skip; apply w_sq; apply w_sq; apply w_reg; apply w_mvi; rfl; apply w_eql; rfl; rfl; apply w_mvb; rfl; refine w_gdF rfl (by omega) ?_; apply w_gF; rfl; apply w_gF; rfl; apply w_gF; rfl; apply w_pickFb; rfl; rfl; apply w_done0; apply w_ifF; rfl; apply w_skip; apply w_sq; apply w_reg; apply w_mvi; rfl; apply w_mvi; rfl; apply w_eql; rfl; rfl; apply w_mvb; rfl; apply w_done0; apply w_ret)
          exact finQb rfl (decide_eq_true (by omega))
      · (apply w_done0; apply w_sq; apply w_reg; apply w_ldb 2; rfl; rfl; rfl; apply w_ldb 3; rfl; rfl; rfl)
        refine w_pure rfl cc ?_
        (apply w_mvu; rfl; apply w_ext; rfl; rfl; apply w_ext; rfl; rfl; apply w_mvi; rfl; apply w_mvi; rfl; apply w_done0; apply w_sq; apply w_sq; apply w_reg; apply w_mvi; rfl; apply w_neq; rfl; rfl; apply w_mvb; rfl; refine w_gdF rfl (by omega) ?_; apply w_gT; rfl; apply w_mvi; rfl; apply w_gT; rfl; apply w_neq; rfl; rfl; apply w_pickFb; rfl; rfl; apply w_done0; refine w_ifdT rfl (by omega) ?_; apply w_sq; apply w_reg; apply w_mvb; rfl; apply w_done0; apply w_ret)
        exact finQ rfl
    · (apply w_done0; apply w_sq; apply w_reg; apply w_ldb 2; rfl; rfl; rfl; apply w_ldb 3; rfl; rfl; rfl)
      refine w_pure rfl cc ?_
      (apply w_mvu; rfl; apply w_ext; rfl; rfl; apply w_ext; rfl; rfl; apply w_mvi; rfl; apply w_mvi; rfl; apply w_done0; apply w_sq; apply w_sq; apply w_reg; apply w_mvi; rfl; apply w_neq; rfl; rfl; apply w_mvb; rfl; refine w_gdT rfl (by omega) ?_; apply w_gF; rfl; apply w_gF; rfl; apply w_pickTb; rfl; rfl; apply w_done0; apply w_ifT; rfl; apply w_sq; apply w_reg; apply w_mvb; rfl; apply w_done0; apply w_ret)
      exact finQ rfl
end Go.Gk.Val
end

section
/-
  How long a slice is that is handed in, and what of it stands in the reading.
-/
namespace Go.Gk
open Go Go.ChangeShapes Go.WideShapes Go.ChangeAt Go.RowKit
section
variable {H : Type} {enc : TypeId × Value → H} {P : Program} {W : World}
theorem arg_len {t e : TypeId} (ht : P.underlying t = some (.slice e)) {a : Option Addr} {n c : Nat} {d : DataW H} {ps : List MemPlace} (h : DataW.Trod enc P W 0 (fun _ => true) true t (.slice a n c) d ps) :
    n = 0 ∨ ∃ elems rest, d = .slice elems rest ∧ elems.length = n := by
  obtain ⟨f, h⟩ := h
  rcases DataW.trod_slice ht h with ⟨e1, e2⟩ | ⟨a', len, cap, elems, rest, m, e0, e1, e2, _, hlc, hcm, hlen, hel, hsp, _⟩
  · have e1 : [Value.slice a n c] = [Value.slice none 0 0] := e1
    cases e1; exact .inl rfl
  · have e1 : [Value.slice a n c] = [Value.slice (some a') len cap] := e1
    cases e1
    injection e2 with e2 _
    exact .inr ⟨_, _, e2, by simpa using hlen⟩
end
end Go.Gk
end
