/-
  Our own texts, one behind the other: GkPgB GkPgArg.
-/
import Derived.Test.YtjclkpgmloejoaaPkE
section
namespace Go.Gk.Pgr
open Go Go.Gk Go.Gk.Dev Go.Gk.Cch Go.Gk.Node
attribute [local irreducible] gwp gws xwp

theorem Pg.blen {d : PHeap} {s : PD} {dv pv : Value} {L : List PHeap} (h : Pg d s dv pv L) (k : Int) : (s.bytes k).length ≤ 256 := by
  by_cases q1 : s.kind k = 1
  · rw [h.full (.inl q1)]; omega
  · by_cases q2 : s.kind k = 2
    · rw [h.full (.inr q2)]; omega
    · rw [bytes_none q1 q2]; decide
theorem Pg.plen {d : PHeap} {s : PD} {dv pv : Value} {L : List PHeap} (h : Pg d s dv pv L) : ∀ n : Nat, (s.pages n).length ≤ 257 * n
  | 0 => Nat.le_refl _
  | n + 1 => by
    have := h.plen n
    have := h.blen n
    rw [pages_next]
    simp only [List.length_append, List.length_cons, List.length_nil]
    omega
def LookOk (P : Program) (f : FuncId) : Prop := ∀ {d : PHeap} {s : PD} {dv pv : Value} {L : List PHeap}, Pg d s dv pv L → GCall P f [pv] d L (Ret fun r d' L' => r = strV s.look ∧ ∃ tc, Pg d' { s with tc := tc } dv pv L')
def g_thimblelaw19_look (f_pager_Pager_Get f_pager_Pager_Old f_pager_Pager_Free : Nat) : GFun :=
 ⟨49, [(.tmp 2)],
 (.seq
 (.reg false (.op false ⟨(some 2), none, (.mv (.const (strV [])))⟩ .done))
 (.seq
 (.reg false (.op false ⟨(some 3), none, (.mv (.const (strV [])))⟩ .done))
 (.seq (.seq
 (.reg false (.op false ⟨(some 9), none, (.mv (.const (.int .i64 0)))⟩ .done)) (.block 0 (.loop
 (.seq
 (.reg false (.op false ⟨(some 10), none, (.bin .lss (.tmp 9) (.const (.int .i64 12)))⟩ .done))
 (.seq (.cond (.tmp 10) .skip (.exit 0))
 (.seq (.block 1
 (.seq
 (.reg false (.op false ⟨(some 11), none, (.mv (.tmp 9))⟩
  (.op false ⟨(some 4), none, (.mv (.tmp 11))⟩ .done)))
 (.seq
 (.reg false (.op false ⟨(some 13), none, (.mv (.tmp 0))⟩
  (.op false ⟨(some 14), none, (.mv (.tmp 4))⟩
  (.op false ⟨(some 15), none, (.call f_pager_Pager_Get [(.tmp 13), (.tmp 14)])⟩
  (.op false ⟨(some 12), none, (.mv (.tmp 15))⟩
  (.op false ⟨(some 16), none, (.ext (.tmp 12) 0)⟩
  (.op false ⟨(some 17), none, (.ext (.tmp 12) 1)⟩
  (.op false ⟨(some 5), none, (.mv (.tmp 16))⟩
  (.op false ⟨(some 6), none, (.mv (.tmp 17))⟩ .done)))))))))
 (.reg false (.op false ⟨(some 18), none, (.mv (.tmp 3))⟩
  (.op false ⟨(some 19), none, (.mv (.tmp 5))⟩
  (.op false ⟨(some 20), none, (.b2s (.tmp 19))⟩
  (.op false ⟨(some 21), none, (.mv (.tmp 6))⟩
  (.op false ⟨(some 22), none, (.cvi .u8 (.tmp 21))⟩
  (.op false ⟨(some 23), none, (.bsl 1 1 [(.int .u8 0)] [(0, (.tmp 22))])⟩
  (.op false ⟨(some 24), none, (.b2s (.tmp 23))⟩
  (.op false ⟨(some 25), none, (.bin .add (.tmp 20) (.tmp 24))⟩
  (.op false ⟨(some 26), none, (.bin .add (.tmp 18) (.tmp 25))⟩
  (.op false ⟨(some 3), none, (.mv (.tmp 26))⟩ .done))))))))))))))
 (.reg false (.op false ⟨(some 27), none, (.bin .add (.tmp 9) (.const (.int .i64 1)))⟩
  (.op false ⟨(some 9), none, (.mv (.tmp 27))⟩ .done)))))))))
 (.seq (.seq
 (.reg false (.op false ⟨(some 28), none, (.mv (.tmp 0))⟩
  (.op false ⟨(some 29), none, (.call f_pager_Pager_Old [(.tmp 28)])⟩
  (.op false ⟨(some 30), none, (.len (.tmp 29))⟩
  (.op false ⟨(some 31), none, (.mv (.const (.int .i64 0)))⟩ .done))))) (.block 2 (.loop
 (.seq
 (.reg false (.op false ⟨(some 32), none, (.bin .lss (.tmp 31) (.tmp 30))⟩ .done))
 (.seq (.cond (.tmp 32) .skip (.exit 2))
 (.seq (.block 3
 (.seq
 (.reg false (.op false ⟨(some 33), none, (.idx 1 (.tmp 29) (.tmp 31))⟩
  (.op false ⟨(some 34), none, (.ld none (.tmp 33))⟩
  (.op false ⟨(some 8), none, (.mv (.tmp 34))⟩ .done))))
 (.reg false (.op false ⟨(some 35), none, (.mv (.tmp 3))⟩
  (.op false ⟨(some 36), none, (.mv (.tmp 8))⟩
  (.op false ⟨(some 37), none, (.cvi .u8 (.tmp 36))⟩
  (.op false ⟨(some 38), none, (.bsl 1 1 [(.int .u8 0)] [(0, (.tmp 37))])⟩
  (.op false ⟨(some 39), none, (.b2s (.tmp 38))⟩
  (.op false ⟨(some 40), none, (.bin .add (.tmp 35) (.tmp 39))⟩
  (.op false ⟨(some 3), none, (.mv (.tmp 40))⟩ .done))))))))))
 (.reg false (.op false ⟨(some 41), none, (.bin .add (.tmp 31) (.const (.int .i64 1)))⟩
  (.op false ⟨(some 31), none, (.mv (.tmp 41))⟩ .done)))))))))
 (.seq
 (.reg false (.op false ⟨(some 42), none, (.mv (.tmp 3))⟩
  (.op false ⟨(some 43), none, (.mv (.tmp 0))⟩
  (.op false ⟨(some 44), none, (.call f_pager_Pager_Free [(.tmp 43)])⟩
  (.op false ⟨(some 45), none, (.cvi .u8 (.tmp 44))⟩
  (.op false ⟨(some 46), none, (.bsl 1 1 [(.int .u8 0)] [(0, (.tmp 45))])⟩
  (.op false ⟨(some 47), none, (.b2s (.tmp 46))⟩
  (.op false ⟨(some 48), none, (.bin .add (.tmp 42) (.tmp 47))⟩
  (.op false ⟨(some 2), none, (.mv (.tmp 48))⟩ .done))))))))) .ret)))))⟩

set_option maxRecDepth 4000 in
set_option maxHeartbeats 1000000 in
theorem look_ok {P : Program} {f f1 f2 f3 : FuncId} (hd : dec P f = some (g_thimblelaw19_look f1 f2 f3)) (h1 : PGetOk P f1) (h2 : OldOk P f2) (h3 : FreeOk P f3) : LookOk P f := by
  intro d s dv pv L hp
  obtain ⟨bp, rfl⟩ := hp.ptr
  refine GCall_of hd (Nat.le_of_ble_eq_true rfl) ?_
  show gwp P _ _ _ _ _
  (apply w_sq; apply w_reg; apply w_mvt; rfl; apply w_done0; apply w_sq; apply w_reg; apply w_mvt; rfl; apply w_done0; apply w_sq; apply w_sq; apply w_reg; apply w_mvi; rfl; apply w_done0; apply w_block)
  refine w_loopS (α := Nat) (fun i => [(0, .pointer (some ⟨bp, 0, none⟩)), (3, strV (s.pages i)), (9, .int .i64 i)])
    (fun i d' L' => i ≤ 12 ∧ ∃ L2 tc, L2.Sublist L' ∧ Pg d' { s with tc := tc } dv (.pointer (some ⟨bp, 0, none⟩)) L2) (fun i => 12 - i) 0 ⟨rfl, rfl, rfl, trivial⟩ ⟨by omega, L, s.tc, List.Sublist.refl _, hp⟩ ?_
  rintro i ρ d' L0 ⟨hi, L', tc, hsub, hp'⟩
  apply w_sq; apply w_reg
  refine w_vs d' L' (Vs.drop hsub) ?_
  by_cases e : i < 12
  · (apply w_lss; rfl; rfl; apply w_done0; apply w_sq; refine w_ifdT rfl (by omega) ?_; apply w_skip; apply w_sq; apply w_block; apply w_sq; apply w_reg; apply w_mvi; rfl; apply w_mvi; rfl; apply w_done0; apply w_sq; apply w_reg; apply w_mvp; rfl; apply w_mvi; rfl)
    refine w_callO (h1.at (k := (i : Int)) hp') rfl (fun u d7 L7 hl7 ⟨qa, qc, tc', q1, q2, q3⟩ => ?_)
    rw [bytes_tc, errK_tc] at q1
    rw [bytes_tc] at q2
    subst q1
    have hpl := hp.plen i
    have hbl := hp.blen i
    (apply w_mvu; rfl; apply w_ext; rfl; rfl; apply w_ext; rfl; rfl; apply w_mvs; rfl; apply w_mvi; rfl; apply w_done0; apply w_reg; apply w_mvt; rfl; apply w_mvs; rfl; apply w_b2sR; rfl; assumption; apply w_mvi; rfl; apply w_cvb; rfl)
    refine w_bs1 (v0 := byteV (eb (s.errK i))) rfl rfl (fun b T => ?_)
    have hg : GRow 1 RByte d7 (.slice (some ⟨b, 0, none⟩) 1 1) [eb (s.errK i)] (bx b T [byteV (eb (s.errK i))]) := GRow.litB rfl rfl (by simp)
    refine w_b2sG rfl hg (by simp [lk]) ?_
    skip
    refine w_sadd (a := s.bytes i) (b := [eb (s.errK i)]) rfl rfl (by simp only [List.length_cons, List.length_nil]; omega) ?_
    refine w_sadd (a := s.pages i) (b := s.bytes i ++ [eb (s.errK i)]) rfl rfl (by simp only [List.length_append, List.length_cons, List.length_nil]; omega) ?_
    rw [← pages_next]
    (apply w_mvt; rfl; apply w_done0; apply w_reg; apply w_add; rfl; rfl; omega; omega; apply w_mvi; rfl; apply w_done0)
    exact ⟨i + 1, by omega, ⟨rfl, rfl, rfl, trivial⟩, e, L7, tc', List.sublist_cons_self _ _, q3⟩
  · have : i = 12 := by omega
    subst this
    have hpl := hp.plen 12
    (apply w_lss; rfl; rfl; apply w_done0; apply w_sq; refine w_ifdF rfl (by omega) ?_; apply w_exit; apply w_sq; apply w_sq; apply w_reg; apply w_mvp; rfl)
    refine w_callO (h2 hp') rfl (fun rv d6 L6 hl6 ⟨e1, e2, ho⟩ => ?_)
    subst e1
    have hp6 := hp'.mono hl6
    replace ho : RInts d6 rv s.olds := ho
    have hol : s.olds.length ≤ 8192 := Nat.le_trans oldsF_len hp.good.len
    (apply w_lenR; rfl; assumption; apply w_mvi; rfl; apply w_done0; apply w_block)
    refine w_loopS (α := Nat) (fun i => [(0, .pointer (some ⟨bp, 0, none⟩)), (3, strV (s.pages 12 ++ (s.olds.take i).map eb)), (29, rv), (30, .int .i64 s.olds.length), (31, .int .i64 i)])
      (fun i d' L' => d' = d6 ∧ i ≤ s.olds.length ∧ L6.Sublist L') (fun i => s.olds.length - i) 0 ⟨rfl, by rw [List.take_zero, List.map_nil, List.append_nil]; rfl, rfl, rfl, rfl, trivial⟩ ⟨rfl, by omega, List.Sublist.refl _⟩ ?_
    rintro i ρ d' L0 ⟨rfl, hi, hsub⟩
    apply w_sq; apply w_reg
    refine w_vs d' L6 (Vs.drop hsub) ?_
    by_cases e' : i < s.olds.length
    · have hn : s.pages 12 ++ (s.olds.take (i + 1)).map eb = (s.pages 12 ++ (s.olds.take i).map eb) ++ [eb s.olds[i]] := by rw [List.take_succ_eq_append_getElem e', List.map_append, List.append_assoc]; rfl
      have htl : (s.olds.take i).length = i := by rw [List.length_take]; omega
      (apply w_lss; rfl; rfl; apply w_done0; apply w_sq; refine w_ifdT rfl (by omega) ?_; apply w_skip; apply w_sq; apply w_block; apply w_sq; apply w_reg; refine w_idxR (sz := 1) (R := RInt) (by rfl) (by assumption) (by rfl) rfl (by omega) ?_; rintro _ _ _ _ _ ⟨rfl, _, _⟩; apply w_ld; rfl; exact hc_ds0 (by assumption) rfl; apply w_mvi; rfl; apply w_done0; apply w_reg; apply w_mvt; rfl; apply w_mvi; rfl; apply w_cvb; rfl)
      refine w_bs1 (v0 := byteV (eb s.olds[i])) rfl rfl (fun b T => ?_)
      have hg : GRow 1 RByte d' (.slice (some ⟨b, 0, none⟩) 1 1) [eb s.olds[i]] (bx b T [byteV (eb s.olds[i])]) := GRow.litB rfl rfl (by simp)
      refine w_b2sG rfl hg (by simp [lk]) ?_
      refine w_sadd (a := s.pages 12 ++ (s.olds.take i).map eb) (b := [eb s.olds[i]]) rfl rfl (by simp only [List.length_append, List.length_map, htl, List.length_cons, List.length_nil]; omega) ?_
      rw [← hn]
      (apply w_mvt; rfl; apply w_done0; apply w_reg; apply w_add; rfl; rfl; omega; omega; apply w_mvi; rfl; apply w_done0)
      exact ⟨i + 1, by omega, ⟨rfl, rfl, rfl, rfl, rfl, trivial⟩, rfl, e', List.sublist_cons_self _ _⟩
    · have : i = s.olds.length := by omega
      subst this
      rw [List.take_length]
      have hfr : GRead P f3 [.pointer (some ⟨bp, 0, none⟩)] d' L6 (.int .i64 s.free) := by have q := h3 hp6; exact q
      (apply w_lss; rfl; rfl; apply w_done0; apply w_sq; refine w_ifdF rfl (by omega) ?_; apply w_exit; apply w_sq; apply w_reg; apply w_mvt; rfl; apply w_mvp; rfl)
      refine w_read (A := L6) (B := []) (List.append_nil _).symm rfl hfr ?_
      (apply w_cvb; rfl)
      refine w_bs1 (v0 := byteV (eb s.free)) rfl rfl (fun b T => ?_)
      have hg : GRow 1 RByte d' (.slice (some ⟨b, 0, none⟩) 1 1) [eb s.free] (bx b T [byteV (eb s.free)]) := GRow.litB rfl rfl (by simp)
      refine w_b2sG rfl hg (by simp [lk]) ?_
      refine w_sadd (a := s.pages 12 ++ s.olds.map eb) (b := [eb s.free]) rfl rfl (by simp only [List.length_append, List.length_map, List.length_cons, List.length_nil]; omega) ?_
      (apply w_mvt; rfl; apply w_done0; apply w_ret)
      exact fin1 rfl (List.sublist_cons_self _ _) ⟨rfl, tc, hp6⟩

theorem wr01 : wr 0 ≠ wr (0 + 1) := by decide
def g_thimblelaw19_PagerMarks (f_thimblelaw19_works f_thimblelaw19_made f_thimblelaw19_run f_thimblelaw19_look f_pager_Pager_Mark f_pager_Pager_Back f_pager_Pager_Done : Nat) : GFun :=
 ⟨60, [(.tmp 6)],
 (.seq
 (.reg false (.op false ⟨(some 6), none, (.mv (.const (.bool false)))⟩ .done))
 (.seq (.seq
 (.reg false (.op false ⟨(some 13), none, (.call f_thimblelaw19_works [])⟩
  (.op false ⟨(some 14), none, (.un .not (.tmp 13))⟩ .done))) (.cond (.tmp 14)
 (.seq
 (.reg false (.op false ⟨(some 6), none, (.mv (.const (.bool false)))⟩ .done)) .ret) .skip))
 (.seq
 (.reg false (.op false ⟨(some 16), none, (.bsl 2 1 [(.int .i64 0)] [(0, (.const (.int .i64 4))), (1, (.const (.int .i64 5)))])⟩
  (.op false ⟨(some 17), none, (.call f_thimblelaw19_made [(.tmp 16)])⟩
  (.op false ⟨(some 15), none, (.mv (.tmp 17))⟩
  (.op false ⟨(some 18), none, (.ext (.tmp 15) 0)⟩
  (.op false ⟨(some 19), none, (.ext (.tmp 15) 1)⟩
  (.op false ⟨(some 7), none, (.mv (.tmp 18))⟩
  (.op false ⟨(some 8), none, (.mv (.tmp 19))⟩ .done))))))))
 (.seq (.seq
 (.reg false (.op false ⟨(some 20), none, (.mv (.tmp 8))⟩
  (.op false ⟨(some 21), none, (.eqp false (.tmp 20) (.const (.pointer none)))⟩ .done))) (.cond (.tmp 21)
 (.seq
 (.reg false (.op false ⟨(some 6), none, (.mv (.const (.bool false)))⟩ .done)) .ret) .skip))
 (.seq
 (.reg false (.op false ⟨(some 22), none, (.mv (.tmp 8))⟩
  (.op false ⟨(some 23), none, (.mv (.tmp 0))⟩
  (.op false ⟨(some 24), none, (.call f_thimblelaw19_run [(.tmp 22), (.tmp 23)])⟩ .done))))
 (.seq
 (.reg false (.op false ⟨(some 25), none, (.mv (.tmp 8))⟩
  (.op false ⟨(some 26), none, (.call f_thimblelaw19_look [(.tmp 25)])⟩
  (.op false ⟨(some 9), none, (.mv (.tmp 26))⟩ .done))))
 (.seq
 (.reg false (.op false ⟨(some 27), none, (.mv (.tmp 8))⟩
  (.op false ⟨(some 28), none, (.call f_pager_Pager_Mark [(.tmp 27)])⟩
  (.op false ⟨(some 10), none, (.mv (.tmp 28))⟩ .done))))
 (.seq (.seq
 (.reg false (.op false ⟨(some 29), none, (.mv (.tmp 1))⟩
  (.op false ⟨(some 30), none, (.mv (.tmp 2))⟩
  (.op false ⟨(some 31), none, (.bsl 2 1 [(.slice none 0 0)] [(0, (.tmp 29)), (1, (.tmp 30))])⟩
  (.op false ⟨(some 32), none, (.len (.tmp 31))⟩
  (.op false ⟨(some 33), none, (.mv (.const (.int .i64 0)))⟩ .done)))))) (.block 0 (.loop
 (.seq
 (.reg false (.op false ⟨(some 34), none, (.bin .lss (.tmp 33) (.tmp 32))⟩ .done))
 (.seq (.cond (.tmp 34) .skip (.exit 0))
 (.seq (.block 1
 (.seq
 (.reg false (.op false ⟨(some 35), none, (.idx 1 (.tmp 31) (.tmp 33))⟩
  (.op false ⟨(some 36), none, (.ld none (.tmp 35))⟩
  (.op false ⟨(some 12), none, (.mv (.tmp 36))⟩ .done))))
 (.seq
 (.reg false (.op false ⟨(some 37), none, (.mv (.tmp 8))⟩
  (.op false ⟨(some 38), none, (.mv (.tmp 12))⟩
  (.op false ⟨(some 39), none, (.call f_thimblelaw19_run [(.tmp 37), (.tmp 38)])⟩ .done))))
 (.seq
 (.reg false (.op false ⟨(some 40), none, (.mv (.tmp 8))⟩
  (.op false ⟨(some 41), none, (.mv (.tmp 10))⟩
  (.op false ⟨(some 42), none, (.call f_pager_Pager_Back [(.tmp 40), (.tmp 41)])⟩
  (.op false ⟨(some 43), none, (.bin .neq (.tmp 42) (.const (.int .i64 0)))⟩
  (.op false ⟨(some 44), none, (.mv (.tmp 43))⟩
  (.op false ⟨(some 45), (some (44, false)), (.mv (.tmp 8))⟩
  (.op false ⟨(some 46), (some (44, false)), (.call f_thimblelaw19_look [(.tmp 45)])⟩
  (.op false ⟨(some 47), (some (44, false)), (.mv (.tmp 9))⟩
  (.op false ⟨(some 48), (some (44, false)), (.bin .neq (.tmp 46) (.tmp 47))⟩
  (.op false ⟨(some 49), none, (.pick (.tmp 44) (.const (.bool true)) (.tmp 48))⟩ .done))))))))))) (.cond (.tmp 49)
 (.seq
 (.reg false (.op false ⟨(some 6), none, (.mv (.const (.bool false)))⟩ .done)) .ret) .skip)))))
 (.reg false (.op false ⟨(some 50), none, (.bin .add (.tmp 33) (.const (.int .i64 1)))⟩
  (.op false ⟨(some 33), none, (.mv (.tmp 50))⟩ .done)))))))))
 (.seq
 (.reg false (.op false ⟨(some 51), none, (.mv (.tmp 8))⟩
  (.op false ⟨(some 52), none, (.call f_pager_Pager_Done [(.tmp 51)])⟩
  (.op false ⟨(some 53), none, (.bin .eql (.tmp 52) (.const (.int .i64 0)))⟩
  (.op false ⟨(some 54), none, (.mv (.tmp 53))⟩
  (.op false ⟨(some 55), (some (54, true)), (.mv (.tmp 8))⟩
  (.op false ⟨(some 56), (some (54, true)), (.mv (.tmp 10))⟩
  (.op false ⟨(some 57), (some (54, true)), (.call f_pager_Pager_Back [(.tmp 55), (.tmp 56)])⟩
  (.op false ⟨(some 58), (some (54, true)), (.bin .eql (.tmp 57) (.const (.int .i64 2)))⟩
  (.op false ⟨(some 59), none, (.pick (.tmp 54) (.tmp 58) (.const (.bool false)))⟩
  (.op false ⟨(some 6), none, (.mv (.tmp 59))⟩ .done))))))))))) .ret)))))))))⟩

set_option maxRecDepth 4000 in
set_option maxHeartbeats 1000000 in
theorem pagerMarks {P : Program} {f f1 f2 f3 f4 f5 f6 f7 : FuncId} (hd : dec P f = some (g_thimblelaw19_PagerMarks f1 f2 f3 f4 f5 f6 f7)) (h1 : PWorksOk P f1) (h2 : MadeOk P f2) (h3 : PRunOk P f3) (h4 : LookOk P f4) (h5 : MarkOk P f5) (h6 : BackOk P f6) (h7 : DoneOk P f7)
    {d : PHeap} {av bv cv : Value} {as bs cs : List AD} (has : RSl 4 RAct d av as) (hbs : RSl 4 RAct d bv bs) (hcs : RSl 4 RAct d cv cs) : GCall P f [av, bv, cv] d [] (Ret fun r _ _ => r = .bool true) := by
  obtain ⟨ba, bc, rfl⟩ := RSl.val hbs
  obtain ⟨ca, cc, rfl⟩ := RSl.val hcs
  refine GCall_of hd (Nat.le_of_ble_eq_true rfl) ?_
  show gwp P _ _ _ _ _
  (apply w_sq; apply w_reg; apply w_mvb; rfl; apply w_done0; apply w_sq; apply w_sq; apply w_reg)
  refine w_callA (A := []) (B := []) rfl rfl h1 (fun u d1 L1 hl1 ⟨e1, e2⟩ => ?_)
  subst e1; subst e2
  (apply w_not; rfl; apply w_done0; apply w_ifF; rfl; apply w_skip; apply w_sq; apply w_reg)
  refine w_bsl (cs := [.int .i64 4, .int .i64 5]) (by simp) rfl (fun b T => ?_)
  have hI := lives_ints (d := d1) (b := b) (T := T) (n := 2) (l := [2, 3]) (cs := [.int .i64 4, .int .i64 5]) rfl rfl (by decide) (by decide)
  refine w_vs (join d1 (bx b T [.int .i64 4, .int .i64 5])) [] Vs.freeze ?_
  refine w_callO (L := []) (h2 (live := [2, 3]) hI (by decide) (by decide)) rfl (fun u d2 L2 hl2 ⟨bd, bp, e1, e2, hpA⟩ => ?_)
  subst e1
  (apply w_mvu; rfl; apply w_ext; rfl; rfl; apply w_ext; rfl; rfl; apply w_mvp; rfl; apply w_mvp; rfl; apply w_done0; apply w_sq; apply w_sq; apply w_reg; apply w_mvp; rfl; apply w_eqpS; rfl; rfl; apply w_done0; apply w_ifF; rfl; apply w_skip; apply w_sq; apply w_reg; apply w_mvp; rfl; apply w_mv)
  have hle2 : Le d d2 := hl1.trans ((Le.join_left _ _).trans hl2)
  have has2 := RSl.mono (R := RAct) mono_act has hle2
  refine w_callO (h3 hpA has2) rfl (fun u d3 L3 hl3 ⟨_, hp⟩ => ?_)
  clear hpA
  have hround : ((pd0 [2, 3]).run (List.take 40 as)).round = 0 := (Keep.run _ _).round
  generalize (pd0 [2, 3]).run (List.take 40 as) = s at hp hround
  have hG := hp.good
  (apply w_done0; apply w_sq; apply w_reg; apply w_mvp; rfl)
  refine w_callO (h4 hp) rfl (fun u d4 L4 hl4 ⟨e1, tc, hp4⟩ => ?_)
  subst e1
  (apply w_mvt; rfl; apply w_done0; apply w_sq; apply w_reg; apply w_mvp; rfl)
  refine w_callO (h5 hp4) rfl (fun mv d5 L5 hl5 ⟨e1, e2, hm⟩ => ?_)
  subst e1
  replace hm : Mk d5 s.mark s.frm (.pointer (some ⟨bp, 0, none⟩)) mv := hm
  have hp5 := hp4.mono hl5
  (apply w_mv; apply w_done0; apply w_sq; apply w_sq; apply w_reg; apply w_mvs; rfl; apply w_mvs; rfl)
  refine w_bsl (cs := [.slice ba bs.length bc, .slice ca cs.length cc]) (by simp) rfl (fun bl Tl => ?_)
  refine w_vs (join d5 (bx bl Tl [.slice ba bs.length bc, .slice ca cs.length cc])) L5 Vs.freeze ?_
  have hlj : Le d5 (join d5 (bx bl Tl [.slice ba bs.length bc, .slice ca cs.length cc])) := Le.join_left _ _
  have hdl : DCs (join d5 (bx bl Tl [.slice ba bs.length bc, .slice ca cs.length cc])) bl 0 [.slice ba bs.length bc, .slice ca cs.length cc] := Le.dcs (Le.join_right _ _)
  have hm' := hm.mono hlj
  have hp6 := hp5.mono hlj
  have hbs6 := RSl.mono (R := RAct) mono_act hbs ((((hle2.trans hl3).trans hl4).trans hl5).trans hlj)
  have hcs6 := RSl.mono (R := RAct) mono_act hcs ((((hle2.trans hl3).trans hl4).trans hl5).trans hlj)
  generalize join d5 (bx bl Tl [.slice ba bs.length bc, .slice ca cs.length cc]) = d6 at hlj hdl hm' hp6 hbs6 hcs6
  (apply w_len; rfl; apply w_mvi; rfl; apply w_done0; apply w_block)
  refine w_loopS (α := Nat) (fun i => [(8, .pointer (some ⟨bp, 0, none⟩)), (9, strV s.look), (10, mv), (31, .slice (some ⟨bl, 0, none⟩) 2 2), (32, .int .i64 2), (33, .int .i64 i)])
    (fun i d' L' => Le d6 d' ∧ i ≤ 2 ∧ ∃ t, Keep s t ∧ Pg d' t (.pointer (some ⟨bd, 0, none⟩)) (.pointer (some ⟨bp, 0, none⟩)) L') (fun i => 2 - i) 0 ⟨rfl, rfl, rfl, rfl, rfl, rfl, trivial⟩ ⟨Le.refl _, by omega, _, Keep.tc, hp6⟩ ?_
  rintro i ρ d' L' ⟨hle, hi, t, hK, hpt⟩
  have hdl' := hdl.mono hle
  have hm7 := hm'.mono hle
  by_cases e0 : i = 0
  · subst e0
    (apply w_sq; apply w_reg; apply w_lss; rfl; rfl; apply w_done0; apply w_sq; refine w_ifdT rfl (by omega) ?_; apply w_skip; apply w_sq; apply w_block; apply w_sq; apply w_reg; refine w_idxN _ rfl rfl rfl (by omega) ?_; apply w_ld; rfl; exact hc_ds (by assumption) rfl; apply w_mvs; rfl; apply w_done0; apply w_sq; apply w_reg; apply w_mvp; rfl; apply w_mvs; rfl)
    refine w_callO (h3 hpt (RSl.mono (R := RAct) mono_act hbs6 hle)) rfl (fun u d8 L8 hl8 ⟨_, hp8⟩ => ?_)
    have hK8 := hK.trans (Keep.run (bs.take 40) t)
    generalize t.run (bs.take 40) = t8 at hp8 hK8
    have hm8 : Mk d8 s.mark t8.frm (.pointer (some ⟨bp, 0, none⟩)) mv := by rw [hK8.frm]; exact hm7.mono hl8
    have hweq : wr s.mark.round = wr t8.round := by rw [hK8.round]; rfl
    have hbk := h6 hp8 hm8 (fun _ => ⟨hK8.og, hG.kd⟩)
    (apply w_done0; apply w_sq; apply w_reg; apply w_mvp; rfl; apply w_mv)
    refine w_callO hbk rfl (fun u d9 L9 hl9 ⟨q1, q2, _⟩ => ?_)
    subst q1
    obtain ⟨q3, hp9⟩ := q2 hweq
    subst q3
    have hK9 := hK8.back
    (apply w_neq; rfl; rfl; apply w_mvb; rfl; refine w_gdF rfl (by omega) ?_; apply w_gT; rfl; apply w_mvp; rfl; apply w_gT; rfl)
    refine w_callO (h4 hp9) rfl (fun u d10 L10 hl10 ⟨q1, tc', hp10⟩ => ?_)
    subst q1
    rw [back_look hK8]
    (apply w_gT; rfl; apply w_mvt; rfl; apply w_gT; rfl; apply w_sne; rfl; rfl; apply w_pickFb; rfl; rfl; apply w_done0)
    refine w_ifdF rfl (fun h => h rfl) ?_
    (apply w_skip; apply w_reg; apply w_add; rfl; rfl; omega; omega; apply w_mvi; rfl; apply w_done0)
    exact ⟨1, by omega, ⟨rfl, rfl, rfl, rfl, rfl, rfl, trivial⟩, (hle.trans hl8).trans hl10, by omega, _, hK9.trans Keep.tc, hp10⟩
  · by_cases e1 : i = 1
    · subst e1
      (apply w_sq; apply w_reg; apply w_lss; rfl; rfl; apply w_done0; apply w_sq; refine w_ifdT rfl (by omega) ?_; apply w_skip; apply w_sq; apply w_block; apply w_sq; apply w_reg; refine w_idxN _ rfl rfl rfl (by omega) ?_; apply w_ld; rfl; exact hc_ds (by assumption) rfl; apply w_mvs; rfl; apply w_done0; apply w_sq; apply w_reg; apply w_mvp; rfl; apply w_mvs; rfl)
      refine w_callO (h3 hpt (RSl.mono (R := RAct) mono_act hcs6 hle)) rfl (fun u d8 L8 hl8 ⟨_, hp8⟩ => ?_)
      have hK8 := hK.trans (Keep.run (cs.take 40) t)
      generalize t.run (cs.take 40) = t8 at hp8 hK8
      have hm8 : Mk d8 s.mark t8.frm (.pointer (some ⟨bp, 0, none⟩)) mv := by rw [hK8.frm]; exact hm7.mono hl8
      have hweq : wr s.mark.round = wr t8.round := by rw [hK8.round]; rfl
      have hbk := h6 hp8 hm8 (fun _ => ⟨hK8.og, hG.kd⟩)
      (apply w_done0; apply w_sq; apply w_reg; apply w_mvp; rfl; apply w_mv)
      refine w_callO hbk rfl (fun u d9 L9 hl9 ⟨q1, q2, _⟩ => ?_)
      subst q1
      obtain ⟨q3, hp9⟩ := q2 hweq
      subst q3
      have hK9 := hK8.back
      (apply w_neq; rfl; rfl; apply w_mvb; rfl; refine w_gdF rfl (by omega) ?_; apply w_gT; rfl; apply w_mvp; rfl; apply w_gT; rfl)
      refine w_callO (h4 hp9) rfl (fun u d10 L10 hl10 ⟨q1, tc', hp10⟩ => ?_)
      subst q1
      rw [back_look hK8]
      (apply w_gT; rfl; apply w_mvt; rfl; apply w_gT; rfl; apply w_sne; rfl; rfl; apply w_pickFb; rfl; rfl; apply w_done0)
      refine w_ifdF rfl (fun h => h rfl) ?_
      (apply w_skip; apply w_reg; apply w_add; rfl; rfl; omega; omega; apply w_mvi; rfl; apply w_done0)
      exact ⟨2, by omega, ⟨rfl, rfl, rfl, rfl, rfl, rfl, trivial⟩, (hle.trans hl8).trans hl10, by omega, _, hK9.trans Keep.tc, hp10⟩
    · have : i = 2 := by omega
      subst this
      (apply w_sq; apply w_reg; apply w_lss; rfl; rfl; apply w_done0; apply w_sq; refine w_ifdF rfl (by omega) ?_; apply w_exit; apply w_sq; apply w_reg; apply w_mvp; rfl)
      refine w_callO (h7 hpt) rfl (fun u d8 L8 hl8 ⟨q1, q2, hp8⟩ => ?_)
      subst q1; subst q2
      have hm8 : Mk d8 s.mark t.done.frm (.pointer (some ⟨bp, 0, none⟩)) mv := by rw [show t.done.frm = s.frm from hK.frm]; exact hm7
      have hrd : wr s.mark.round ≠ wr t.done.round := by
        rw [show t.done.round = t.round + 1 from rfl, hK.round, show s.mark.round = s.round from rfl, hround]
        exact wr01
      have hbk := h6 hp8 hm8 (fun e => absurd e hrd)
      (apply w_eql; rfl; rfl; apply w_mvb; rfl; refine w_gdT rfl (by omega) ?_; apply w_gT; rfl; apply w_mvp; rfl; apply w_gT; rfl; apply w_mv; apply w_gT; rfl)
      refine w_callO hbk rfl (fun u d9 L9 hl9 ⟨_, _, q2⟩ => ?_)
      obtain ⟨q3, -⟩ := q2 hrd
      subst q3
      (apply w_gT; rfl; apply w_eql; rfl; rfl; apply w_pickTb; rfl; rfl; apply w_mvb; rfl; apply w_done0; apply w_ret)
      exact fin1 rfl (List.Sublist.refl _) rfl
end Go.Gk.Pgr
end

section
namespace Go.Gk.Pgr
open Go Go.Gk
theorem act4 {l : List Value} (h : l.length = 4) : ∃ a b c d, l = [a, b, c, d] := by
  match l, h with
  | [a, b, c, d], _ => exact ⟨a, b, c, d, rfl⟩
theorem rd_act {H : Type} {enc : TypeId × Value → H} {P : Program} {W : World} {t ti tb ts : TypeId} {fs : Array Field} (ht : P.underlying t = some (.struct fs)) (h4 : P.cellsOf t = 4)
    (f0 : (fs[0]?).map (fun f => (f.offset, f.type)) = some (0, ti)) (f1 : (fs[1]?).map (fun f => (f.offset, f.type)) = some (1, ti)) (f2 : (fs[2]?).map (fun f => (f.offset, f.type)) = some (2, tb))
    (f3 : (fs[3]?).map (fun f => (f.offset, f.type)) = some (3, ts)) (ci : P.cellsOf ti = 1) (cb : P.cellsOf tb = 1) (cs : P.cellsOf ts = 1)
    (ui : P.underlying ti = some (.int .i64)) (ub : P.underlying tb = some (.int .u8)) (us : P.underlying ts = some (.slice tb)) (bb : 1 ≤ P.bytesOf tb) : Rd enc P W t RAct := by
  intro held fuel cs x h hw
  obtain ⟨hl, hfs⟩ := rd_fields ht h hw
  obtain ⟨k, e0⟩ := hfs 0 0 ti 1 f0 ci (rd_int ui)
  obtain ⟨p, e1⟩ := hfs 1 1 ti 1 f1 ci (rd_int ui)
  obtain ⟨y, e2⟩ := hfs 2 2 tb 1 f2 cb (rd_byte ub)
  obtain ⟨z, v, e3, hv⟩ := hfs 3 3 ts 1 f3 (by assumption) (rd_slice us cb (by omega) bb (rd_byte ub))
  obtain ⟨a, c, rfl⟩ := RSl.val hv
  obtain ⟨a0, a1, a2, a3, rfl⟩ := act4 (hl.trans h4)
  simp only [List.drop, List.take] at e0 e1 e2 e3
  obtain ⟨e0, -, -⟩ := e0
  obtain ⟨e1, -, -⟩ := e1
  have e2 : [a2] = [byteV y] := e2
  simp only [List.cons.injEq, and_true] at e0 e1 e2 e3
  subst e0; subst e1; subst e2; subst e3
  exact ⟨⟨k, p, y⟩, _, _, _, rfl⟩
end Go.Gk.Pgr
end
