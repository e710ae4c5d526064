/-
  Our own texts, one behind the other: GkPg2 GkPg3 GkPg4 GkPg5 GkC5 GkPg6 GkPg7 GkPg8 GkPgL GkPgM Gk28.
-/
import Derived.Recover
import Derived.Test.YtpkcbopokjffhaaPkD
section
namespace Go.Gk.Pgr
open Go Go.Gk Go.Gk.Dev Go.Gk.Cch Go.Gk.Node
attribute [local irreducible] gwp gws xwp

theorem kind_eq (s : PD) (k : Int) : kindV s.frm s.kinds k = s.kind k := rfl
theorem keyI : KeyE 0 kI := keyInt
def TakeOk (P : Program) (f : FuncId) : Prop := ∀ {d : PHeap} {s : PD} {dv pv : Value} {L : List PHeap}, Pg d s dv pv L → GCall P f [pv] d L (Ret fun r d' L' => r = .tuple #[.int .i64 s.takeR.2.1, .int .i64 s.takeR.2.2] ∧ Pg d' s.takeR.1 dv pv L')
def g_pager_Pager_Take (f_pager_Pager_none f_slices_Index_int_int : Nat) : GFun :=
 ⟨37, [(.tmp 2), (.tmp 3)],
 (.seq
 (.reg false (.op false ⟨(some 2), none, (.mv (.const (.int .i64 0)))⟩
  (.op false ⟨(some 3), none, (.mv (.const (.int .i64 0)))⟩ .done)))
 (.seq (.seq
 (.reg false (.op false ⟨(some 5), none, (.mv (.tmp 0))⟩
  (.op false ⟨(some 6), none, (.call f_pager_Pager_none [(.tmp 5)])⟩ .done))) (.cond (.tmp 6)
 (.seq
 (.reg false (.op false ⟨(some 2), none, (.mv (.const (.int .i64 0)))⟩
  (.op false ⟨(some 3), none, (.mv (.const (.int .i64 1)))⟩ .done))) .ret) .skip))
 (.seq
 (.reg false (.op false ⟨(some 7), none, (.mv (.tmp 0))⟩
  (.op false ⟨(some 8), none, (.nilc (.tmp 7))⟩
  (.op false ⟨(some 9), none, (.fld 3 (.tmp 8))⟩
  (.op false ⟨(some 10), none, (.ld none (.tmp 9))⟩
  (.op false ⟨(some 11), none, (.call f_slices_Index_int_int [(.tmp 10), (.const (.int .i64 0))])⟩
  (.op false ⟨(some 4), none, (.mv (.tmp 11))⟩ .done)))))))
 (.seq (.seq
 (.reg false (.op false ⟨(some 12), none, (.mv (.tmp 4))⟩
  (.op false ⟨(some 13), none, (.bin .lss (.tmp 12) (.const (.int .i64 0)))⟩ .done))) (.cond (.tmp 13)
 (.seq
 (.reg false (.op false ⟨(some 2), none, (.mv (.const (.int .i64 0)))⟩
  (.op false ⟨(some 3), none, (.mv (.const (.int .i64 190)))⟩ .done))) .ret) .skip))
 (.seq
 (.reg false (.op false ⟨(some 14), none, (.mv (.tmp 0))⟩
  (.op false ⟨(some 15), none, (.nilc (.tmp 14))⟩
  (.op false ⟨(some 16), none, (.fld 3 (.tmp 15))⟩
  (.op false ⟨(some 17), none, (.ld none (.tmp 16))⟩
  (.op false ⟨(some 18), none, (.mv (.tmp 4))⟩
  (.op false ⟨(some 19), none, (.idx 1 (.tmp 17) (.tmp 18))⟩
  (.op false ⟨none, none, (.st 1 (.tmp 19) (.const (.int .i64 1)))⟩ .done))))))))
 (.seq
 (.reg true (.op true ⟨(some 20), none, (.mv (.tmp 0))⟩
  (.op true ⟨(some 21), none, (.nilc (.tmp 20))⟩
  (.op true ⟨(some 22), none, (.fld 4 (.tmp 21))⟩
  (.op true ⟨(some 23), none, (.ld none (.tmp 22))⟩
  (.op true ⟨(some 24), none, (.mv (.tmp 0))⟩
  (.op true ⟨(some 25), none, (.nilc (.tmp 24))⟩
  (.op true ⟨(some 26), none, (.fld 2 (.tmp 25))⟩
  (.op true ⟨(some 27), none, (.ld none (.tmp 26))⟩
  (.op true ⟨(some 28), none, (.mv (.tmp 4))⟩
  (.op true ⟨(some 29), none, (.bin .add (.tmp 27) (.tmp 28))⟩
  (.op false ⟨(some 30), none, (.mks 1 1 [(.int .u8 0)] (.const (.int .i64 256)) (.const (.int .i64 256)))⟩
  (.op false ⟨none, none, (.mop (.up 0 (.tmp 23) (.tmp 29) (.tmp 30)))⟩ .done)))))))))))))
 (.seq
 (.reg false (.op false ⟨(some 31), none, (.mv (.tmp 0))⟩
  (.op false ⟨(some 32), none, (.nilc (.tmp 31))⟩
  (.op false ⟨(some 33), none, (.fld 2 (.tmp 32))⟩
  (.op false ⟨(some 34), none, (.ld none (.tmp 33))⟩
  (.op false ⟨(some 35), none, (.mv (.tmp 4))⟩
  (.op false ⟨(some 36), none, (.bin .add (.tmp 34) (.tmp 35))⟩
  (.op false ⟨(some 2), none, (.mv (.tmp 36))⟩
  (.op false ⟨(some 3), none, (.mv (.const (.int .i64 0)))⟩ .done))))))))) .ret)))))))⟩

set_option maxRecDepth 4000 in
theorem take_ok {P : Program} {f f1 f2 : FuncId} (hd : dec P f = some (g_pager_Pager_Take f1 f2)) (h1 : PNoneOk P f1) (h2 : IndexOk P f2) : TakeOk P f := by
  intro d s dv pv L hp
  have hp0 := hp
  obtain ⟨b, T, cv, bk, cp, hk, mb, ms, clk, c, LC, LD, bd, rfl, rfl, rfl, hg, hm, hC, hD, hc, hG⟩ := hp
  have hone := hG.one
  have hlen := hG.len
  have hinn := hG.inn
  have hsyn := hG.syn
  refine GCall_of hd (Nat.le_of_ble_eq_true rfl) ?_
  show gwp P _ _ _ _ _
  (apply w_sq; apply w_reg; apply w_mvi; rfl; apply w_mvi; rfl; apply w_done0; apply w_sq; apply w_sq; apply w_reg; apply w_mvp; rfl)
  refine w_read (A := [_]) (B := _ :: _ :: (LC ++ LD)) rfl rfl h1 ?_
  (apply w_done0; apply w_ifF; rfl; apply w_skip; apply w_sq; apply w_reg; apply w_mvp; rfl; apply w_nilc; rfl; apply w_fld; rfl; apply w_ld; rfl; exact hc_i 0 rfl rfl)
  refine w_readP (A := [hk]) (B := _ :: _ :: (LC ++ LD)) (List.Perm.swap _ _ _) rfl (GPure.borrow (fun d1 hl1 hk1 => h2 (x := 0) (GRow.rsl (R := RInt) hg mono_int (by omega) hl1 (hk1 _ (List.mem_singleton.2 rfl))))) ?_
  cases hq : place0 0 s.kinds with
  | none =>
    refine gws_env (g := 11) (v := .int .i64 (-1)) rfl ?_
    (apply w_mvi; rfl; apply w_done0; apply w_sq; apply w_sq; apply w_reg; apply w_mvi; rfl; apply w_lss; rfl; rfl; apply w_done0; refine w_ifdT rfl (by omega) ?_; apply w_sq; apply w_reg; apply w_mvi; rfl; apply w_mvi; rfl; apply w_done0; apply w_ret)
    have hr : s.takeR = (s, 0, 190) := by unfold PD.takeR; rw [hq]
    rw [hr]
    exact fin2 rfl rfl (List.Sublist.refl _) ⟨rfl, hp0⟩
  | some i =>
    obtain ⟨hi, h0⟩ := place0_some hq
    have hr : s.takeR = (s.takeAt i, ((s.frm + i : Nat) : Int), 0) := by unfold PD.takeR; rw [hq]
    rw [hr]
    obtain ⟨b1, T1, l1, c1, cs, q1, rfl, hcl, hcs, hle, -, hset⟩ := GRow.at (by omega) hg hi
    cases q1
    refine gws_env (g := 11) (v := .int .i64 i) rfl ?_
    (apply w_mvi; rfl; apply w_done0; apply w_sq; apply w_sq; apply w_reg; apply w_mvi; rfl; apply w_lss; rfl; rfl; apply w_done0; refine w_ifdF rfl (by omega) ?_; apply w_skip; apply w_sq; apply w_reg; apply w_mvp; rfl; apply w_nilc; rfl; apply w_fld; rfl; apply w_ld; rfl; exact hc_i 0 rfl rfl; apply w_mvi; rfl; refine w_idxN _ rfl rfl rfl (by omega) ?_)
    refine w_stE 1 (patch l1 (i * 1) [.int .i64 1]) rfl rfl rfl rfl (by omega) rfl rfl ?_
    (apply w_done0; apply w_sq)
    refine w_drawnA [_] _ rfl ?_
    (apply w_mvp; rfl; apply w_nilc; rfl; apply w_fld; rfl; apply w_ld; rfl; exact hc_i 0 rfl rfl; apply w_mvp; rfl; apply w_nilc; rfl; apply w_fld; rfl; apply w_ld; rfl; exact hc_i 0 rfl rfl; apply w_mvi; rfl; apply w_add; rfl; rfl; omega; omega)
    refine w_mks (n := 256) (c := 256) rfl rfl (Nat.le_refl _) (by omega) (by omega) (fun bz Tz => ?_)
    refine w_mup (kE := kI) (vE := id) (k := ((s.frm + i : Nat) : Int)) keyI 2 rfl rfl ?_ rfl ?_
    · exact int_eq (by omega)
    refine w_doneX ⟨join d (bx bz Tz (zrow [.int .u8 0] (256 * 1))), _ :: _ :: _ :: (LC ++ LD), (Vs.perm (List.Perm.swap _ _ _)).trans Vs.freeze, ?_⟩
    have hl : Le d (join d (bx bz Tz (zrow [.int .u8 0] (256 * 1)))) := Le.join_left _ _
    have hz : RBytes (join d (bx bz Tz (zrow [.int .u8 0] (256 * 1)))) (.slice (some ⟨bz, 0, none⟩) 256 256) zsec :=
      GRow.rsl (R := RByte) (sz := 1) (GRow.zero (sz := 1) (z := [.int .u8 0]) (d := d) (b := bz) (T := Tz) (n := 256) (R := RByte) (x := (0 : UInt8)) rfl (by omega) rfl (by omega)) mono_byte (by omega) hl (Le.join_right _ _)
    have hlk : (s.takeAt i).kinds.length = s.kinds.length := by simp [PD.takeAt]
    have hP := Pg.mk (d := join d (bx bz Tz (zrow [.int .u8 0] (256 * 1)))) (s := s.takeAt i) (b := b) (T := T) (cv := cv) (bk := bk) (cp := cp) (mb := mb) (clk := mClk ((s.frm + i : Nat) : Int) clk ms) (c := c) (LC := LC) (LD := LD) (bd := bd) hlk
      (GRow.mono (R := RInt) mono_int (hset [.int .i64 1] 1 rfl ⟨rfl, by decide, by decide⟩) hl) (ms := mPut ((s.frm + i : Nat) : Int) (.slice (some ⟨bz, 0, none⟩) 256 256) clk ms) (fun j hj hj1 => ?_) (hC.mono hl) (hD.mono hl)
      (hc.to rfl rfl (Og.set (by rw [show s.kinds.getD i 0 = 0 by rw [List.getD_eq_getElem?_getD, List.getElem?_eq_getElem hi, h0]; rfl]; omega))) (hG.to rfl rfl (i := i) (x := 1) rfl (by omega) (by omega))
    · (apply w_sq; apply w_reg; apply w_mvp; rfl; apply w_nilc; rfl; apply w_fld; rfl; apply w_ld; rfl; exact hc_i 0 rfl rfl; apply w_mvi; rfl; apply w_add; rfl; rfl; omega; omega; apply w_mvi; rfl; apply w_mvi; rfl; apply w_done0; apply w_ret)
      exact fin2 (int_eq (show (s.frm : Int) + i = ((s.frm + i : Nat) : Int) by omega)) rfl (List.Sublist.refl _) ⟨rfl, hP⟩
    · show ∃ v, mGet ((s.frm + j : Nat) : Int) (mPut ((s.frm + i : Nat) : Int) (.slice (some ⟨bz, 0, none⟩) 256 256) clk ms) = some v ∧ RBytes _ v (setB s.fb i zsec j) ∧ (setB s.fb i zsec j).length = 256
      rw [get_put]
      by_cases e : j = i
      · subst e
        exact ⟨_, if_pos rfl, by simp only [setB, if_true]; exact hz, by simp only [setB, if_true]; exact List.length_replicate⟩
      · rw [if_neg (by omega)]
        have hk1 : s.kinds.getD j 0 = 1 := by
          have : (s.kinds.set i 1).getD j 0 = 1 := hj1
          rw [getD_set hi, if_neg e] at this; exact this
        obtain ⟨v, g1, g2, g3⟩ := hm j (by rw [← hlk]; exact hj) hk1
        exact ⟨v, g1, by simp only [setB, if_neg e]; exact g2.mono hl, by simp only [setB, if_neg e]; exact g3⟩

def PutOk (P : Program) (f : FuncId) : Prop := ∀ {d : PHeap} {s : PD} {dv pv w : Value} {L : List PHeap} {k : Int} {b : Sec}, Pg d s dv pv L → RBytes d w b → GCall P f [pv, .int .i64 k, w] d L (Ret fun r d' L' => r = .int .i64 (s.put k b).2 ∧ Pg d' (s.put k b).1 dv pv L')
def g_pager_Pager_Put (f_pager_Pager_none f_pager_Pager_kind f_slices_Clone_byte_byte : Nat) : GFun :=
 ⟨26, [(.tmp 6)],
 (.seq
 (.reg false (.op false ⟨(some 6), none, (.mv (.const (.int .i64 0)))⟩ .done))
 (.seq (.block 0
 (.seq
 (.reg false (.op false ⟨(some 8), none, (.mv (.tmp 0))⟩
  (.op false ⟨(some 9), none, (.call f_pager_Pager_none [(.tmp 8)])⟩
  (.op false ⟨(some 7), none, (.mv (.tmp 9))⟩ .done)))) (.cond (.tmp 7)
 (.seq
 (.reg false (.op false ⟨(some 6), none, (.mv (.const (.int .i64 1)))⟩ .done)) .ret)
 (.seq
 (.reg false (.op false ⟨(some 11), none, (.mv (.tmp 0))⟩
  (.op false ⟨(some 12), none, (.mv (.tmp 1))⟩
  (.op false ⟨(some 13), none, (.call f_pager_Pager_kind [(.tmp 11), (.tmp 12)])⟩
  (.op false ⟨(some 14), none, (.bin .neq (.tmp 13) (.const (.int .i64 1)))⟩
  (.op false ⟨(some 10), none, (.mv (.tmp 14))⟩ .done)))))) (.cond (.tmp 10)
 (.seq
 (.reg false (.op false ⟨(some 6), none, (.mv (.const (.int .i64 240)))⟩ .done)) .ret)
 (.seq
 (.reg false (.op false ⟨(some 16), none, (.mv (.tmp 2))⟩
  (.op false ⟨(some 17), none, (.len (.tmp 16))⟩
  (.op false ⟨(some 18), none, (.bin .neq (.tmp 17) (.const (.int .i64 256)))⟩
  (.op false ⟨(some 15), none, (.mv (.tmp 18))⟩ .done))))) (.cond (.tmp 15)
 (.seq
 (.reg false (.op false ⟨(some 6), none, (.mv (.const (.int .i64 2)))⟩ .done)) .ret) .skip)))))))
 (.seq
 (.reg true (.op true ⟨(some 19), none, (.mv (.tmp 0))⟩
  (.op true ⟨(some 20), none, (.nilc (.tmp 19))⟩
  (.op true ⟨(some 21), none, (.fld 4 (.tmp 20))⟩
  (.op true ⟨(some 22), none, (.ld none (.tmp 21))⟩
  (.op true ⟨(some 23), none, (.mv (.tmp 1))⟩
  (.op true ⟨(some 24), none, (.mv (.tmp 2))⟩
  (.op false ⟨(some 25), none, (.call f_slices_Clone_byte_byte [(.tmp 24)])⟩
  (.op false ⟨none, none, (.mop (.up 0 (.tmp 22) (.tmp 23) (.tmp 25)))⟩ .done)))))))))
 (.seq
 (.reg false (.op false ⟨(some 6), none, (.mv (.const (.int .i64 0)))⟩ .done)) .ret))))⟩

set_option maxRecDepth 4000 in
theorem put_ok {P : Program} {f f1 f2 f3 : FuncId} (hd : dec P f = some (g_pager_Pager_Put f1 f2 f3)) (h1 : PNoneOk P f1) (h2 : KindOk P f2) (h3 : CloneOk RByte 1 P f3) : PutOk P f := by
  intro d s dv pv w L k by_ hp hw
  have hp0 := hp
  have hwl := hw.len_le
  have hw' : RSl 1 RByte d w by_ := hw
  obtain ⟨b, T, cv, bk, cp, hk, mb, ms, clk, c, LC, LD, bd, rfl, rfl, rfl, hg, hm, hC, hD, hc, hG⟩ := hp
  have hlen := hG.len
  have hinn := hG.inn
  have hsyn := hG.syn
  refine GCall_of hd (Nat.le_of_ble_eq_true rfl) ?_
  show gwp P _ _ _ _ _
  (apply w_sq; apply w_reg; apply w_mvi; rfl; apply w_done0; apply w_sq; apply w_block; apply w_sq; apply w_reg; apply w_mvp; rfl)
  refine w_read (A := [_]) (B := _ :: _ :: (LC ++ LD)) rfl rfl h1 ?_
  (apply w_mvb; rfl; apply w_done0; apply w_ifF; rfl; apply w_sq; apply w_reg; apply w_mvp; rfl; apply w_mvi; rfl)
  refine w_read (A := [_, hk]) (B := _ :: (LC ++ LD)) rfl rfl (h2 (k := k) hg (by omega)) ?_
  rw [kind_eq]
  by_cases hk1 : s.kind k = 1
  · by_cases hb : by_.length = 256
    · obtain ⟨i, hi, rfl, hki, hti⟩ := kind_in hk1 (by omega)
      have hr : s.put ((s.frm + i : Nat) : Int) by_ = ({ s with fb := setB s.fb i by_ }, 0) := by unfold PD.put; rw [if_pos hk1, if_pos hb, hti]
      rw [hr]
      (apply w_neq; rfl; rfl; apply w_mvb; rfl; apply w_done0; refine w_ifdF rfl (by omega) ?_; apply w_sq; apply w_reg; apply w_mv; apply w_lenR; rfl; assumption; apply w_neq; rfl; rfl; apply w_mvb; rfl; apply w_done0; refine w_ifdF rfl (by omega) ?_; apply w_skip; apply w_sq)
      refine w_drawnA [_] (hk :: mpI mb ms clk :: (LC ++ LD)) rfl ?_
      (apply w_mvp; rfl; apply w_nilc; rfl; apply w_fld; rfl; apply w_ld; rfl; exact hc_i 0 rfl rfl; apply w_mvi; rfl; apply w_mv)
      refine w_call0 rfl (h3 hw' (by omega)) (fun u d2 L2 _ ⟨e1, h, e2, hrow⟩ => ?_)
      subst e1; subst e2
      refine w_mup (kE := kI) (vE := id) (k := ((s.frm + i : Nat) : Int)) keyI 2 rfl rfl rfl rfl ?_
      refine w_doneX ⟨join d2 h, _ :: _ :: _ :: (LC ++ LD), (Vs.perm (List.Perm.swap _ _ _)).trans Vs.freeze, ?_⟩
      have hl : Le d2 (join d2 h) := Le.join_left _ _
      have hz : RBytes (join d2 h) u by_ := GRow.rsl (R := RByte) (sz := 1) hrow mono_byte (by omega) hl (Le.join_right _ _)
      have hP := Pg.mk (d := join d2 h) (s := { s with fb := setB s.fb i by_ }) (b := b) (T := T) (cv := cv) (bk := bk) (cp := cp) (mb := mb) (clk := mClk ((s.frm + i : Nat) : Int) clk ms) (c := c) (LC := LC) (LD := LD) (bd := bd) rfl
        (GRow.mono (R := RInt) mono_int hg hl) (ms := mPut ((s.frm + i : Nat) : Int) u clk ms) (fun j hj hj1 => ?_) (hC.mono hl) (hD.mono hl) (hc.to rfl rfl (Og.refl _)) (hG.to' rfl rfl rfl)
      · (apply w_sq; apply w_reg; apply w_mvi; rfl; apply w_done0; apply w_ret)
        exact fin1 rfl (List.Sublist.refl _) ⟨rfl, hP⟩
      · show ∃ v, mGet ((s.frm + j : Nat) : Int) (mPut ((s.frm + i : Nat) : Int) u clk ms) = some v ∧ RBytes _ v (setB s.fb i by_ j) ∧ (setB s.fb i by_ j).length = 256
        rw [get_put]
        by_cases e : j = i
        · subst e
          exact ⟨_, if_pos rfl, by simp only [setB, if_true]; exact hz, by simp only [setB, if_true]; exact hb⟩
        · rw [if_neg (by omega)]
          obtain ⟨v, g1, g2, g3⟩ := hm j hj hj1
          exact ⟨v, g1, by simp only [setB, if_neg e]; exact g2.mono hl, by simp only [setB, if_neg e]; exact g3⟩
    · have hr : s.put k by_ = (s, 2) := by unfold PD.put; rw [if_pos hk1, if_neg hb]
      rw [hr]
      (apply w_neq; rfl; rfl; apply w_mvb; rfl; apply w_done0; refine w_ifdF rfl (by omega) ?_; apply w_sq; apply w_reg; apply w_mv; apply w_lenR; rfl; assumption; apply w_neq; rfl; rfl; apply w_mvb; rfl; apply w_done0; refine w_ifdT rfl (by omega) ?_; apply w_sq; apply w_reg; apply w_mvi; rfl; apply w_done0; apply w_ret)
      exact fin1 rfl (List.Sublist.refl _) ⟨rfl, hp0⟩
  · have hr : s.put k by_ = (s, 240) := by unfold PD.put; rw [if_neg hk1]
    rw [hr]
    (apply w_neq; rfl; rfl; apply w_mvb; rfl; apply w_done0; refine w_ifdT rfl (by omega) ?_; apply w_sq; apply w_reg; apply w_mvi; rfl; apply w_done0; apply w_ret)
    exact fin1 rfl (List.Sublist.refl _) ⟨rfl, hp0⟩

def DropOk (P : Program) (f : FuncId) : Prop := ∀ {d : PHeap} {s : PD} {dv pv : Value} {L : List PHeap} {k : Int}, Pg d s dv pv L → GCall P f [pv, .int .i64 k] d L (Ret fun r d' L' => r = .int .i64 (s.drop k).2 ∧ Pg d' (s.drop k).1 dv pv L')
def g_pager_Pager_Drop (f_pager_Pager_none f_pager_Pager_kind : Nat) : GFun :=
 ⟨41, [(.tmp 4)],
 (.seq
 (.reg false (.op false ⟨(some 4), none, (.mv (.const (.int .i64 0)))⟩ .done))
 (.seq (.seq
 (.reg false (.op false ⟨(some 5), none, (.mv (.tmp 0))⟩
  (.op false ⟨(some 6), none, (.call f_pager_Pager_none [(.tmp 5)])⟩ .done))) (.cond (.tmp 6)
 (.seq
 (.reg false (.op false ⟨(some 4), none, (.mv (.const (.int .i64 1)))⟩ .done)) .ret) .skip))
 (.seq (.seq
 (.reg false (.op false ⟨(some 7), none, (.mv (.tmp 0))⟩
  (.op false ⟨(some 8), none, (.mv (.tmp 1))⟩
  (.op false ⟨(some 9), none, (.call f_pager_Pager_kind [(.tmp 7), (.tmp 8)])⟩ .done)))) (.block 0
 (.seq
 (.reg false (.op false ⟨(some 11), none, (.bin .eql (.tmp 9) (.const (.int .i64 1)))⟩
  (.op false ⟨(some 10), none, (.mv (.tmp 11))⟩ .done))) (.cond (.tmp 10)
 (.seq
 (.reg true (.op true ⟨(some 12), none, (.mv (.tmp 0))⟩
  (.op true ⟨(some 13), none, (.nilc (.tmp 12))⟩
  (.op true ⟨(some 14), none, (.fld 3 (.tmp 13))⟩
  (.op true ⟨(some 15), none, (.ld none (.tmp 14))⟩
  (.op true ⟨(some 16), none, (.mv (.tmp 1))⟩
  (.op true ⟨(some 17), none, (.mv (.tmp 0))⟩
  (.op true ⟨(some 18), none, (.nilc (.tmp 17))⟩
  (.op true ⟨(some 19), none, (.fld 2 (.tmp 18))⟩
  (.op true ⟨(some 20), none, (.ld none (.tmp 19))⟩
  (.op true ⟨(some 21), none, (.bin .sub (.tmp 16) (.tmp 20))⟩
  (.op true ⟨(some 22), none, (.idx 1 (.tmp 15) (.tmp 21))⟩
  (.bar (.op false ⟨none, none, (.st 1 (.tmp 22) (.const (.int .i64 0)))⟩ .done))))))))))))))
 (.reg false (.op false ⟨(some 23), none, (.mv (.tmp 0))⟩
  (.op false ⟨(some 24), none, (.nilc (.tmp 23))⟩
  (.op false ⟨(some 25), none, (.fld 4 (.tmp 24))⟩
  (.op false ⟨(some 26), none, (.ld none (.tmp 25))⟩
  (.op false ⟨(some 27), none, (.mv (.tmp 1))⟩
  (.op false ⟨none, none, (.mop (.del 0 (.tmp 26) (.tmp 27)))⟩ .done))))))))
 (.seq
 (.reg false (.op false ⟨(some 29), none, (.bin .eql (.tmp 9) (.const (.int .i64 2)))⟩
  (.op false ⟨(some 28), none, (.mv (.tmp 29))⟩ .done))) (.cond (.tmp 28)
 (.reg true (.op true ⟨(some 30), none, (.mv (.tmp 0))⟩
  (.op true ⟨(some 31), none, (.nilc (.tmp 30))⟩
  (.op true ⟨(some 32), none, (.fld 3 (.tmp 31))⟩
  (.op true ⟨(some 33), none, (.ld none (.tmp 32))⟩
  (.op true ⟨(some 34), none, (.mv (.tmp 1))⟩
  (.op true ⟨(some 35), none, (.mv (.tmp 0))⟩
  (.op true ⟨(some 36), none, (.nilc (.tmp 35))⟩
  (.op true ⟨(some 37), none, (.fld 2 (.tmp 36))⟩
  (.op true ⟨(some 38), none, (.ld none (.tmp 37))⟩
  (.op true ⟨(some 39), none, (.bin .sub (.tmp 34) (.tmp 38))⟩
  (.op true ⟨(some 40), none, (.idx 1 (.tmp 33) (.tmp 39))⟩
  (.bar (.op false ⟨none, none, (.st 1 (.tmp 40) (.const (.int .i64 3)))⟩ .done))))))))))))))
 (.seq
 (.reg false (.op false ⟨(some 4), none, (.mv (.const (.int .i64 240)))⟩ .done)) .ret)))))))
 (.seq
 (.reg false (.op false ⟨(some 4), none, (.mv (.const (.int .i64 0)))⟩ .done)) .ret))))⟩

set_option maxRecDepth 4000 in
theorem drop_ok {P : Program} {f f1 f2 : FuncId} (hd : dec P f = some (g_pager_Pager_Drop f1 f2)) (h1 : PNoneOk P f1) (h2 : KindOk P f2) : DropOk P f := by
  intro d s dv pv L k hp
  have hp0 := hp
  obtain ⟨b, T, cv, bk, cp, hk, mb, ms, clk, c, LC, LD, bd, rfl, rfl, rfl, hg, hm, hC, hD, hc, hG⟩ := hp
  have hlen := hG.len
  have hinn := hG.inn
  have hsyn := hG.syn
  refine GCall_of hd (Nat.le_of_ble_eq_true rfl) ?_
  show gwp P _ _ _ _ _
  (apply w_sq; apply w_reg; apply w_mvi; rfl; apply w_done0; apply w_sq; apply w_sq; apply w_reg; apply w_mvp; rfl)
  refine w_read (A := [_]) (B := _ :: _ :: (LC ++ LD)) rfl rfl h1 ?_
  (apply w_done0; apply w_ifF; rfl; apply w_skip; apply w_sq; apply w_sq; apply w_reg; apply w_mvp; rfl; apply w_mvi; rfl)
  refine w_read (A := [_, hk]) (B := _ :: (LC ++ LD)) rfl rfl (h2 (k := k) hg (by omega)) ?_
  rw [kind_eq]
  by_cases hk1 : s.kind k = 1
  · obtain ⟨i, hi, rfl, hki, hti⟩ := kind_in hk1 (by omega)
    have hr : s.drop ((s.frm + i : Nat) : Int) = ({ s with kinds := s.kinds.set i 0 }, 0) := by unfold PD.drop; rw [if_pos hk1, hti]
    rw [hr]
    obtain ⟨b1, T1, l1, c1, cs, q1, rfl, hcl, hcs, hle, -, hset⟩ := GRow.at (by omega) hg hi
    cases q1
    (apply w_done0; apply w_block; apply w_sq; apply w_reg; apply w_eql; rfl; rfl; apply w_mvb; rfl; apply w_done0; refine w_ifdT rfl (by omega) ?_; apply w_sq)
    refine w_drawnA [_] (bx bk T1 l1 :: mpI mb ms clk :: (LC ++ LD)) rfl ?_
    (apply w_mvp; rfl; apply w_nilc; rfl; apply w_fld; rfl; apply w_ld; rfl; exact hc_i 0 rfl rfl; apply w_mvi; rfl; apply w_mvp; rfl; apply w_nilc; rfl; apply w_fld; rfl; apply w_ld; rfl; exact hc_i 0 rfl rfl; apply w_sub; rfl; rfl; omega; omega)
    refine w_idxN i rfl rfl (by omega) hi ?_
    (apply w_bar)
    refine w_stE 1 (patch l1 (i * 1) [.int .i64 0]) rfl rfl rfl rfl hle rfl rfl ?_
    refine w_doneX ⟨d, _ :: _ :: _ :: (LC ++ LD), Vs.refl _ _, ?_⟩
    (apply w_reg; apply w_mvp; rfl; apply w_nilc; rfl; apply w_fld; rfl; apply w_ld; rfl; exact hc_i 0 rfl rfl; apply w_mvi; rfl)
    refine w_mdl (k := ((s.frm + i : Nat) : Int)) keyI 2 rfl rfl rfl ?_
    have hP := Pg.mk (d := d) (s := { s with kinds := s.kinds.set i 0 }) (b := b) (T := T) (cv := cv) (bk := bk) (cp := cp) (mb := mb) (clk := clk) (c := c) (LC := LC) (LD := LD) (bd := bd) (n := s.kinds.length) (by simp)
        (hset [.int .i64 0] 0 rfl ⟨rfl, by omega, by omega⟩) (ms := mDel ((s.frm + i : Nat) : Int) ms) (fun j hj hj1 => ?_) hC hD (hc.to rfl rfl (Og.set (by rw [show s.kinds.getD i 0 = 1 from hki]; omega))) (hG.to rfl rfl rfl (by omega) (by omega))
    · (apply w_done0; apply w_sq; apply w_reg; apply w_mvi; rfl; apply w_done0; apply w_ret)
      exact fin1 rfl (List.Sublist.refl _) ⟨rfl, hP⟩
    · have hj1' : (s.kinds.set i 0).getD j 0 = 1 := hj1
      rw [getD_set hi] at hj1'
      by_cases e : j = i
      · rw [if_pos e] at hj1'; cases hj1'
      · rw [if_neg e] at hj1'
        obtain ⟨v, g1, g2, g3⟩ := hm j (by simpa using hj) hj1'
        have g0 : mGet ((s.frm + j : Nat) : Int) (mDel ((s.frm + i : Nat) : Int) ms) = some v := by rw [get_del (by omega)]; exact g1
        exact ⟨v, g0, g2, g3⟩
  · by_cases hk2 : s.kind k = 2
    · obtain ⟨i, hi, rfl, hki, hti⟩ := kind_in hk2 (by omega)
      have hr : s.drop ((s.frm + i : Nat) : Int) = ({ s with kinds := s.kinds.set i 3 }, 0) := by unfold PD.drop; rw [if_neg hk1, if_pos hk2, hti]
      rw [hr]
      obtain ⟨b1, T1, l1, c1, cs, q1, rfl, hcl, hcs, hle, -, hset⟩ := GRow.at (by omega) hg hi
      cases q1
      (apply w_done0; apply w_block; apply w_sq; apply w_reg; apply w_eql; rfl; rfl; apply w_mvb; rfl; apply w_done0; refine w_ifdF rfl (by omega) ?_; apply w_sq; apply w_reg; apply w_eql; rfl; rfl; apply w_mvb; rfl; apply w_done0; refine w_ifdT rfl (by omega) ?_)
      refine w_drawnA [_] (bx bk T1 l1 :: mpI mb ms clk :: (LC ++ LD)) rfl ?_
      (apply w_mvp; rfl; apply w_nilc; rfl; apply w_fld; rfl; apply w_ld; rfl; exact hc_i 0 rfl rfl; apply w_mvi; rfl; apply w_mvp; rfl; apply w_nilc; rfl; apply w_fld; rfl; apply w_ld; rfl; exact hc_i 0 rfl rfl; apply w_sub; rfl; rfl; omega; omega)
      refine w_idxN i rfl rfl (by omega) hi ?_
      (apply w_bar)
      refine w_stE 1 (patch l1 (i * 1) [.int .i64 3]) rfl rfl rfl rfl hle rfl rfl ?_
      refine w_doneX ⟨d, _ :: _ :: _ :: (LC ++ LD), Vs.refl _ _, ?_⟩
      have hP := Pg.mk (d := d) (s := { s with kinds := s.kinds.set i 3 }) (b := b) (T := T) (cv := cv) (bk := bk) (cp := cp) (mb := mb) (clk := clk) (c := c) (LC := LC) (LD := LD) (bd := bd) (n := s.kinds.length) (by simp)
          (hset [.int .i64 3] 3 rfl ⟨rfl, by omega, by omega⟩) (ms := ms) (fun j hj hj1 => ?_) hC hD (hc.to rfl rfl (Og.set (by rw [show s.kinds.getD i 0 = 2 from hki]; omega))) (hG.to rfl rfl rfl (by omega) (by omega))
      · (apply w_sq; apply w_reg; apply w_mvi; rfl; apply w_done0; apply w_ret)
        exact fin1 rfl (List.Sublist.refl _) ⟨rfl, hP⟩
      · have hj1' : (s.kinds.set i 3).getD j 0 = 1 := hj1
        rw [getD_set hi] at hj1'
        by_cases e : j = i
        · rw [if_pos e] at hj1'; cases hj1'
        · rw [if_neg e] at hj1'
          exact hm j (by simpa using hj) hj1'
    · have hr : s.drop k = (s, 240) := by unfold PD.drop; rw [if_neg hk1, if_neg hk2]
      rw [hr]
      (apply w_done0; apply w_block; apply w_sq; apply w_reg; apply w_eql; rfl; rfl; apply w_mvb; rfl; apply w_done0; refine w_ifdF rfl (by omega) ?_; apply w_sq; apply w_reg; apply w_eql; rfl; rfl; apply w_mvb; rfl; apply w_done0; refine w_ifdF rfl (by omega) ?_; apply w_sq; apply w_reg; apply w_mvi; rfl; apply w_done0; apply w_ret)
      exact fin1 rfl (List.Sublist.refl _) ⟨rfl, hp0⟩

def RRow (d : PHeap) (h : Option Sec) (r : Value) : Prop := match h with | some x => RBytes d r x | none => r = .slice none 0 0
def PGetOk (P : Program) (f : FuncId) : Prop := ∀ {d : PHeap} {s : PD} {dv pv : Value} {L : List PHeap} {k : Int}, Pg d s dv pv L →
  GCall P f [pv, .int .i64 k] d L (Ret fun r d' L' => (∃ q, r = .tuple #[q, .int .i64 (match (s.get k).2 with | some _ => 0 | none => 240)] ∧ RRow d' (s.get k).2 q) ∧ Pg d' (s.get k).1 dv pv L')
def g_pager_Pager_Get (f_pager_Pager_none f_pager_Pager_kind f_slices_Clone_byte_byte f_cache_Cache_Get f_cache_Cache_Leave : Nat) : GFun :=
 ⟨57, [(.tmp 4), (.tmp 5)],
 (.seq
 (.reg false (.op false ⟨(some 4), none, (.mv (.const (.slice none 0 0)))⟩
  (.op false ⟨(some 5), none, (.mv (.const (.int .i64 0)))⟩ .done)))
 (.seq (.seq
 (.reg false (.op false ⟨(some 8), none, (.mv (.tmp 0))⟩
  (.op false ⟨(some 9), none, (.call f_pager_Pager_none [(.tmp 8)])⟩ .done))) (.cond (.tmp 9)
 (.seq
 (.reg false (.op false ⟨(some 4), none, (.mv (.const (.slice none 0 0)))⟩
  (.op false ⟨(some 5), none, (.mv (.const (.int .i64 1)))⟩ .done))) .ret) .skip))
 (.seq (.seq
 (.reg false (.op false ⟨(some 10), none, (.mv (.tmp 0))⟩
  (.op false ⟨(some 11), none, (.mv (.tmp 1))⟩
  (.op false ⟨(some 12), none, (.call f_pager_Pager_kind [(.tmp 10), (.tmp 11)])⟩ .done)))) (.block 0
 (.seq
 (.reg false (.op false ⟨(some 14), none, (.bin .eql (.tmp 12) (.const (.int .i64 1)))⟩
  (.op false ⟨(some 13), none, (.mv (.tmp 14))⟩ .done))) (.cond (.tmp 13)
 (.seq
 (.reg false (.op false ⟨(some 15), none, (.mv (.tmp 0))⟩
  (.op false ⟨(some 16), none, (.nilc (.tmp 15))⟩
  (.op false ⟨(some 17), none, (.fld 6 (.tmp 16))⟩
  (.op false ⟨(some 18), none, (.ld none (.tmp 17))⟩
  (.op false ⟨(some 19), none, (.bin .add (.tmp 18) (.const (.int .i64 1)))⟩
  (.op false ⟨(some 20), none, (.nilc (.tmp 15))⟩
  (.op false ⟨(some 21), none, (.fld 6 (.tmp 20))⟩
  (.op false ⟨none, none, (.st 1 (.tmp 21) (.tmp 19))⟩ .done)))))))))
 (.seq
 (.reg false (.op false ⟨(some 22), none, (.mv (.tmp 0))⟩
  (.op false ⟨(some 23), none, (.nilc (.tmp 22))⟩
  (.op false ⟨(some 24), none, (.fld 4 (.tmp 23))⟩
  (.op false ⟨(some 25), none, (.ld none (.tmp 24))⟩
  (.op false ⟨(some 26), none, (.mv (.tmp 1))⟩
  (.op false ⟨(some 27), none, (.mop (.lk 0 (.slice none 0 0) false (.tmp 25) (.tmp 26)))⟩
  (.op false ⟨(some 28), none, (.call f_slices_Clone_byte_byte [(.tmp 27)])⟩
  (.op false ⟨(some 4), none, (.mv (.tmp 28))⟩
  (.op false ⟨(some 5), none, (.mv (.const (.int .i64 0)))⟩ .done)))))))))) .ret))
 (.seq
 (.reg false (.op false ⟨(some 30), none, (.bin .eql (.tmp 12) (.const (.int .i64 2)))⟩
  (.op false ⟨(some 29), none, (.mv (.tmp 30))⟩ .done))) (.cond (.tmp 29)
 (.seq
 (.reg false (.op false ⟨(some 32), none, (.mv (.tmp 0))⟩
  (.op false ⟨(some 33), none, (.nilc (.tmp 32))⟩
  (.op false ⟨(some 34), none, (.fld 1 (.tmp 33))⟩
  (.op false ⟨(some 35), none, (.ld none (.tmp 34))⟩
  (.op false ⟨(some 36), none, (.mv (.tmp 1))⟩
  (.op false ⟨(some 37), none, (.call f_cache_Cache_Get [(.tmp 35), (.tmp 36)])⟩
  (.op false ⟨(some 31), none, (.mv (.tmp 37))⟩
  (.op false ⟨(some 38), none, (.ext (.tmp 31) 0)⟩
  (.op false ⟨(some 39), none, (.ext (.tmp 31) 1)⟩
  (.op false ⟨(some 6), none, (.mv (.tmp 38))⟩
  (.op false ⟨(some 7), none, (.mv (.tmp 39))⟩ .done))))))))))))
 (.seq (.seq
 (.reg false (.op false ⟨(some 40), none, (.mv (.tmp 7))⟩
  (.op false ⟨(some 41), none, (.bin .neq (.tmp 40) (.const (.int .i64 0)))⟩ .done))) (.cond (.tmp 41)
 (.seq
 (.reg false (.op false ⟨(some 42), none, (.mv (.tmp 7))⟩
  (.op false ⟨(some 4), none, (.mv (.const (.slice none 0 0)))⟩
  (.op false ⟨(some 5), none, (.mv (.tmp 42))⟩ .done)))) .ret) .skip))
 (.seq
 (.reg false (.op false ⟨(some 43), none, (.mv (.tmp 0))⟩
  (.op false ⟨(some 44), none, (.nilc (.tmp 43))⟩
  (.op false ⟨(some 45), none, (.fld 1 (.tmp 44))⟩
  (.op false ⟨(some 46), none, (.ld none (.tmp 45))⟩
  (.op false ⟨(some 47), none, (.mv (.tmp 1))⟩
  (.op false ⟨(some 48), none, (.call f_cache_Cache_Leave [(.tmp 46), (.tmp 47)])⟩ .done)))))))
 (.seq
 (.reg false (.op false ⟨(some 49), none, (.mv (.tmp 0))⟩
  (.op false ⟨(some 50), none, (.nilc (.tmp 49))⟩
  (.op false ⟨(some 51), none, (.fld 6 (.tmp 50))⟩
  (.op false ⟨(some 52), none, (.ld none (.tmp 51))⟩
  (.op false ⟨(some 53), none, (.bin .add (.tmp 52) (.const (.int .i64 1)))⟩
  (.op false ⟨(some 54), none, (.nilc (.tmp 49))⟩
  (.op false ⟨(some 55), none, (.fld 6 (.tmp 54))⟩
  (.op false ⟨none, none, (.st 1 (.tmp 55) (.tmp 53))⟩ .done)))))))))
 (.seq
 (.reg false (.op false ⟨(some 56), none, (.mv (.tmp 6))⟩
  (.op false ⟨(some 4), none, (.mv (.tmp 56))⟩
  (.op false ⟨(some 5), none, (.mv (.const (.int .i64 0)))⟩ .done)))) .ret))))) .skip))))))
 (.seq
 (.reg false (.op false ⟨(some 4), none, (.mv (.const (.slice none 0 0)))⟩
  (.op false ⟨(some 5), none, (.mv (.const (.int .i64 240)))⟩ .done))) .ret))))⟩

set_option maxRecDepth 4000 in
theorem pget_ok {P : Program} {f f1 f2 f3 f4 f5 : FuncId} (hd : dec P f = some (g_pager_Pager_Get f1 f2 f3 f4 f5)) (h1 : PNoneOk P f1) (h2 : KindOk P f2) (h3 : CloneOk RByte 1 P f3) (h4 : CGetOk P f4) (h5 : CLeaveOk P f5) : PGetOk P f := by
  intro d s dv pv L k hp
  have hp0 := hp
  obtain ⟨b, T, cv, bk, cp, hk, mb, ms, clk, c, LC, LD, bd, rfl, rfl, rfl, hg, hm, hC, hD, hc, hG⟩ := hp
  have hlen := hG.len
  have hinn := hG.inn
  have hsyn := hG.syn
  refine GCall_of hd (Nat.le_of_ble_eq_true rfl) ?_
  show gwp P _ _ _ _ _
  (apply w_sq; apply w_reg; apply w_mvs; rfl; apply w_mvi; rfl; apply w_done0; apply w_sq; apply w_sq; apply w_reg; apply w_mvp; rfl)
  refine w_read (A := [_]) (B := _ :: _ :: (LC ++ LD)) rfl rfl h1 ?_
  (apply w_done0; apply w_ifF; rfl; apply w_skip; apply w_sq; apply w_sq; apply w_reg; apply w_mvp; rfl; apply w_mvi; rfl)
  refine w_read (A := [_, hk]) (B := _ :: (LC ++ LD)) rfl rfl (h2 (k := k) hg (by omega)) ?_
  rw [kind_eq]
  by_cases hk1 : s.kind k = 1
  · obtain ⟨i, hi, rfl, hki, hti⟩ := kind_in hk1 (by omega)
    have hr : s.get ((s.frm + i : Nat) : Int) = ({ s with tc := s.tc + 1 }, some (s.fb i)) := by unfold PD.get; rw [if_pos hk1, hti]
    rw [hr]
    obtain ⟨v, g1, g2, g3⟩ := hm i hi hki
    (apply w_done0; apply w_block; apply w_sq; apply w_reg; apply w_eql; rfl; rfl; apply w_mvb; rfl; apply w_done0; refine w_ifdT rfl (by omega) ?_; apply w_sq; apply w_reg; apply w_mvp; rfl; apply w_nilc; rfl; apply w_fld; rfl; apply w_ld; rfl; exact hc_i 0 rfl rfl)
    refine w_addc rfl rfl ?_
    (apply w_nilc; rfl; apply w_fld; rfl)
    refine w_stE 0 [.pointer (some ⟨bd, 0, none⟩), cv, .int .i64 s.frm, .slice (some ⟨bk, 0, none⟩) s.kinds.length cp, .map (some mb), .int .i64 (wr s.round), .int .i64 (wr (s.tc + 1))] rfl rfl rfl rfl (Nat.le_of_ble_eq_true rfl) rfl rfl ?_
    (apply w_done0; apply w_sq; apply w_reg; apply w_mvp; rfl; apply w_nilc; rfl; apply w_fld; rfl; apply w_ld; rfl; exact hc_i 0 rfl rfl; apply w_mvi; rfl)
    refine w_mlk (kE := kI) (vE := id) (k := ((s.frm + i : Nat) : Int)) keyI 2 rfl rfl rfl g1 ?_
    refine w_call0 (vs := [v]) rfl (h3 g2 (by rw [g3]; decide)) (fun u d2 L2 _ ⟨q1, h, q2, hrow⟩ => ?_)
    subst q1; subst q2
    (apply w_mv; apply w_mvi; rfl; apply w_done0; apply w_ret)
    have hP := Pg.mk (d := d2) (s := { s with tc := s.tc + 1 }) (b := b) (T := T) (cv := cv) (bk := bk) (cp := cp) (mb := mb) (clk := clk) (c := c) (LC := LC) (LD := LD) (bd := bd) rfl hg hm hC hD (hc.to rfl rfl (Og.refl _)) (hG.to' rfl rfl rfl)
    skip
    exact finV [u, .int .i64 0] ⟨rfl, rfl, trivial⟩ (d' := join d2 h) (L' := _ :: _ :: _ :: (LC ++ LD)) Vs.freeze ⟨⟨_, rfl, GRow.rsl (R := RByte) (sz := 1) hrow mono_byte (by omega) (Le.join_left _ _) (Le.join_right _ _)⟩, hP.mono (Le.join_left _ _)⟩
  · by_cases hk2 : s.kind k = 2
    · obtain ⟨i, hi, rfl, hki, hti⟩ := kind_in hk2 (by omega)
      have hr : s.get ((s.frm + i : Nat) : Int) = ({ s with tc := s.tc + 1 }, some (s.syn.getD (s.frm + i) [])) := by unfold PD.get; rw [if_neg hk1, if_pos hk2]; rfl
      rw [hr]
      obtain ⟨c', e1, e2, e3, e4, e5⟩ := hc.get (k := s.frm + i) (by omega) (by omega) (by omega) (by rw [show s.frm + i - s.frm = i by omega, hki]; omega)
      (apply w_done0; apply w_block; apply w_sq; apply w_reg; apply w_eql; rfl; rfl; apply w_mvb; rfl; apply w_done0; refine w_ifdF rfl (by omega) ?_; apply w_sq; apply w_reg; apply w_eql; rfl; rfl; apply w_mvb; rfl; apply w_done0; refine w_ifdT rfl (by omega) ?_; apply w_sq; apply w_reg; apply w_mvp; rfl; apply w_nilc; rfl; apply w_fld; rfl; apply w_ld; rfl; exact hc_i 0 rfl rfl; apply w_mvi; rfl)
      have hcur : DevD.cur ⟨s.syn, []⟩ (s.frm + i) = s.syn.getD (s.frm + i) [] := rfl
      refine w_callQ (h4 (k := s.frm + i) hC hD e2 (show s.frm + i < s.syn.length by omega)) (List.perm_append_comm (l₁ := [_, _, _])) rfl (fun u d2 L2 hl2 ⟨LC2, LD2, q1, q2, q3, q4⟩ => ?_)
      rw [hcur, e1] at q2 q4
      obtain ⟨v, rfl, hv⟩ := q4
      subst q1
      refine ⟨d2, _ :: _ :: _ :: (LC2 ++ LD2), Vs.perm (List.perm_append_comm (l₂ := [_, _, _])), ?_⟩
      (apply w_mvu; rfl; apply w_ext; rfl; rfl; apply w_ext; rfl; rfl; apply w_mv; apply w_mvi; rfl; apply w_done0; apply w_sq; apply w_sq; apply w_reg; apply w_mvi; rfl; apply w_neq; rfl; rfl; apply w_done0; refine w_ifdF rfl (by omega) ?_; apply w_skip; apply w_sq; apply w_reg; apply w_mvp; rfl; apply w_nilc; rfl; apply w_fld; rfl; apply w_ld; rfl; exact hc_i 0 rfl rfl; apply w_mvi; rfl)
      refine w_callQ (h5 (k := s.frm + i) q2 e3) (List.perm_append_comm_assoc [_, _, _] _ _) rfl (fun u d3 L3 hl3 ⟨q5, q6, q7⟩ => ?_)
      subst q5; subst q6
      refine ⟨d3, _ :: _ :: _ :: (L3 ++ LD2), Vs.perm (List.perm_append_comm_assoc _ [_, _, _] _), ?_⟩
      (apply w_done0; apply w_sq; apply w_reg; apply w_mvp; rfl; apply w_nilc; rfl; apply w_fld; rfl; apply w_ld; rfl; exact hc_i 0 rfl rfl)
      refine w_addc rfl rfl ?_
      have hP := Pg.mk (d := d3) (s := { s with tc := s.tc + 1 }) (b := b) (T := T) (cv := cv) (bk := bk) (cp := cp) (mb := mb) (clk := clk) (c := (leaveF c' (s.frm + i)).1) (LC := L3) (LD := LD2) (bd := bd) rfl (GRow.mono (R := RInt) mono_int hg hl2) (hm.mono hl2) q7 q3 (e5.to rfl rfl (Og.refl _)) (hG.to' rfl rfl rfl)
      (apply w_nilc; rfl; apply w_fld; rfl)
      refine w_stE 0 [.pointer (some ⟨bd, 0, none⟩), cv, .int .i64 s.frm, .slice (some ⟨bk, 0, none⟩) s.kinds.length cp, .map (some mb), .int .i64 (wr s.round), .int .i64 (wr (s.tc + 1))] rfl rfl rfl rfl (Nat.le_of_ble_eq_true rfl) rfl rfl ?_
      (apply w_done0; apply w_sq; apply w_reg; apply w_mv; apply w_mv; apply w_mvi; rfl; apply w_done0; apply w_ret)
      exact fin2 rfl rfl (List.Sublist.refl _) ⟨⟨_, rfl, hv⟩, hP⟩
    · have hr : s.get k = (s, none) := by unfold PD.get; rw [if_neg hk1, if_neg hk2]
      rw [hr]
      (apply w_done0; apply w_block; apply w_sq; apply w_reg; apply w_eql; rfl; rfl; apply w_mvb; rfl; apply w_done0; refine w_ifdF rfl (by omega) ?_; apply w_sq; apply w_reg; apply w_eql; rfl; rfl; apply w_mvb; rfl; apply w_done0; refine w_ifdF rfl (by omega) ?_; apply w_skip; apply w_sq; apply w_reg; apply w_mvs; rfl; apply w_mvi; rfl; apply w_done0; apply w_ret)
      exact fin2 rfl rfl (List.Sublist.refl _) ⟨⟨_, rfl, rfl⟩, hp0⟩
end Go.Gk.Pgr
end

section
namespace Go.Gk.Pgr
open Go Go.Gk Go.Gk.Dev Go.Gk.Cch Go.Gk.Node
attribute [local irreducible] gwp gws xwp

def FlushOk (P : Program) (f : FuncId) : Prop := ∀ {d : PHeap} {s : PD} {dv pv : Value} {L : List PHeap}, Pg d s dv pv L → GCall P f [pv] d L (Ret fun r d' L' => r = .int .i64 0 ∧ d' = d ∧ Pg d' s.flush dv pv L')
def g_pager_Pager_Flush (f_pager_Pager_none f_device_Device_Write f_device_Device_Sync : Nat) : GFun :=
 ⟨51, [(.tmp 2)],
 (.seq
 (.reg false (.op false ⟨(some 2), none, (.mv (.const (.int .i64 0)))⟩ .done))
 (.seq (.seq
 (.reg false (.op false ⟨(some 6), none, (.mv (.tmp 0))⟩
  (.op false ⟨(some 7), none, (.call f_pager_Pager_none [(.tmp 6)])⟩ .done))) (.cond (.tmp 7)
 (.seq
 (.reg false (.op false ⟨(some 2), none, (.mv (.const (.int .i64 1)))⟩ .done)) .ret) .skip))
 (.seq (.seq
 (.reg false (.op false ⟨(some 8), none, (.mv (.tmp 0))⟩
  (.op false ⟨(some 9), none, (.nilc (.tmp 8))⟩
  (.op false ⟨(some 10), none, (.fld 3 (.tmp 9))⟩
  (.op false ⟨(some 11), none, (.ld none (.tmp 10))⟩
  (.op false ⟨(some 12), none, (.len (.tmp 11))⟩
  (.op false ⟨(some 13), none, (.mv (.const (.int .i64 0)))⟩ .done))))))) (.block 0 (.loop
 (.seq
 (.reg false (.op false ⟨(some 14), none, (.bin .lss (.tmp 13) (.tmp 12))⟩ .done))
 (.seq (.cond (.tmp 14) .skip (.exit 0))
 (.seq (.block 1
 (.seq
 (.reg false (.op false ⟨(some 15), none, (.mv (.tmp 13))⟩
  (.op false ⟨(some 16), none, (.idx 1 (.tmp 11) (.tmp 13))⟩
  (.op false ⟨(some 17), none, (.ld none (.tmp 16))⟩
  (.op false ⟨(some 3), none, (.mv (.tmp 15))⟩
  (.op false ⟨(some 4), none, (.mv (.tmp 17))⟩ .done))))))
 (.seq (.seq
 (.reg false (.op false ⟨(some 18), none, (.mv (.tmp 4))⟩
  (.op false ⟨(some 19), none, (.bin .neq (.tmp 18) (.const (.int .i64 1)))⟩ .done))) (.cond (.tmp 19) (.exit 1) .skip))
 (.seq
 (.reg true (.op true ⟨(some 20), none, (.mv (.tmp 0))⟩
  (.op true ⟨(some 21), none, (.nilc (.tmp 20))⟩
  (.op true ⟨(some 22), none, (.fld 0 (.tmp 21))⟩
  (.op true ⟨(some 23), none, (.ld none (.tmp 22))⟩
  (.op true ⟨(some 24), none, (.mv (.tmp 0))⟩
  (.op true ⟨(some 25), none, (.nilc (.tmp 24))⟩
  (.op true ⟨(some 26), none, (.fld 2 (.tmp 25))⟩
  (.op true ⟨(some 27), none, (.ld none (.tmp 26))⟩
  (.op true ⟨(some 28), none, (.mv (.tmp 3))⟩
  (.op true ⟨(some 29), none, (.bin .add (.tmp 27) (.tmp 28))⟩
  (.op true ⟨(some 30), none, (.mv (.tmp 0))⟩
  (.op true ⟨(some 31), none, (.nilc (.tmp 30))⟩
  (.op true ⟨(some 32), none, (.fld 4 (.tmp 31))⟩
  (.op true ⟨(some 33), none, (.ld none (.tmp 32))⟩
  (.op true ⟨(some 34), none, (.mv (.tmp 0))⟩
  (.op true ⟨(some 35), none, (.nilc (.tmp 34))⟩
  (.op true ⟨(some 36), none, (.fld 2 (.tmp 35))⟩
  (.op true ⟨(some 37), none, (.ld none (.tmp 36))⟩
  (.op true ⟨(some 38), none, (.mv (.tmp 3))⟩
  (.op true ⟨(some 39), none, (.bin .add (.tmp 37) (.tmp 38))⟩
  (.op false ⟨(some 40), none, (.mop (.lk 0 (.slice none 0 0) false (.tmp 33) (.tmp 39)))⟩
  (.op false ⟨(some 41), none, (.call f_device_Device_Write [(.tmp 23), (.tmp 29), (.tmp 40)])⟩
  (.bar (.op true ⟨(some 5), none, (.mv (.tmp 41))⟩ .done)))))))))))))))))))))))))
 (.seq
 (.reg false (.op false ⟨(some 42), none, (.mv (.tmp 5))⟩
  (.op false ⟨(some 43), none, (.bin .neq (.tmp 42) (.const (.int .i64 0)))⟩ .done))) (.cond (.tmp 43)
 (.seq
 (.reg false (.op false ⟨(some 44), none, (.mv (.tmp 5))⟩
  (.op false ⟨(some 2), none, (.mv (.tmp 44))⟩ .done))) .ret) .skip))))))
 (.reg false (.op false ⟨(some 45), none, (.bin .add (.tmp 13) (.const (.int .i64 1)))⟩
  (.op false ⟨(some 13), none, (.mv (.tmp 45))⟩ .done)))))))))
 (.seq
 (.reg false (.op false ⟨(some 46), none, (.mv (.tmp 0))⟩
  (.op false ⟨(some 47), none, (.nilc (.tmp 46))⟩
  (.op false ⟨(some 48), none, (.fld 0 (.tmp 47))⟩
  (.op false ⟨(some 49), none, (.ld none (.tmp 48))⟩
  (.op false ⟨(some 50), none, (.call f_device_Device_Sync [(.tmp 49)])⟩
  (.op false ⟨(some 2), none, (.mv (.tmp 50))⟩ .done))))))) .ret))))⟩

set_option maxRecDepth 4000 in
set_option maxHeartbeats 1000000 in
theorem flush_ok {P : Program} {f f1 f2 f3 : FuncId} (hd : dec P f = some (g_pager_Pager_Flush f1 f2 f3)) (h1 : PNoneOk P f1) (h2 : DWriteOk P f2) (h3 : DSyncOk P f3) : FlushOk P f := by
  intro d s dv pv L hp
  obtain ⟨b, T, cv, bk, cp, hk, mb, ms, clk, c, LC, LD, bd, rfl, rfl, rfl, hg, hm, hC, hD, hc, hG⟩ := hp
  have hone := hG.one
  have hlen := hG.len
  have hinn := hG.inn
  have hsyn := hG.syn
  refine GCall_of hd (Nat.le_of_ble_eq_true rfl) ?_
  show gwp P _ _ _ _ _
  (apply w_sq; apply w_reg; apply w_mvi; rfl; apply w_done0; apply w_sq; apply w_sq; apply w_reg; apply w_mvp; rfl)
  refine w_read (A := [_]) (B := _ :: _ :: (LC ++ LD)) rfl rfl h1 ?_
  (apply w_done0; apply w_ifF; rfl; apply w_skip; apply w_sq; apply w_sq; apply w_reg; apply w_mvp; rfl; apply w_nilc; rfl; apply w_fld; rfl; apply w_ld; rfl; exact hc_i 0 rfl rfl; apply w_len; rfl; apply w_mvi; rfl; apply w_done0; apply w_block)
  refine w_loopN (α := Nat × List PHeap) (fun x => [(0, .pointer (some ⟨b, 0, none⟩)), (11, .slice (some ⟨bk, 0, none⟩) s.kinds.length cp), (12, .int .i64 s.kinds.length), (13, .int .i64 x.1)])
    (fun x => bx b T [.pointer (some ⟨bd, 0, none⟩), cv, .int .i64 s.frm, .slice (some ⟨bk, 0, none⟩) s.kinds.length cp, .map (some mb), .int .i64 (wr s.round), .int .i64 (wr s.tc)] :: hk :: mpI mb ms clk :: (LC ++ x.2))
    (fun x => x.1 ≤ s.kinds.length ∧ Dv d ⟨s.syn, s.writes x.1⟩ (.pointer (some ⟨bd, 0, none⟩)) x.2) (fun x => s.kinds.length - x.1) (0, LD) ⟨rfl, rfl, rfl, rfl, trivial⟩ rfl ⟨by simp only; omega, hD⟩ ?_
  rintro ⟨i, LD1⟩ ρ ⟨hi, hD1⟩
  simp only at hi hD1 ⊢
  by_cases e : i < s.kinds.length
  · obtain ⟨b1, T1, l1, c1, cs, q1, rfl, hcl, hcs, hle, ⟨rfl, hb1, hb2⟩, -⟩ := GRow.at (by omega) hg e
    cases q1
    have c0 := hcs 0 _ rfl
    have hkd : s.kinds[i] = s.kd i := (kd_get e).symm
    by_cases hk1 : s.kinds[i] = 1
    · have hw : s.writes (i + 1) = s.writes i ++ [(s.frm + i, s.fb i)] := by rw [PD.writes, if_pos (by rw [← hkd]; exact hk1)]
      obtain ⟨v, g1, g2, g3⟩ := hm i e (by rw [← hk1, hkd])
      (apply w_sq; apply w_reg; apply w_lss; rfl; rfl; apply w_done0; apply w_sq; refine w_ifdT rfl (by omega) ?_; apply w_skip; apply w_sq; apply w_block; apply w_sq; apply w_reg; apply w_mvi; rfl; refine w_idxN _ rfl rfl rfl (by omega) ?_; apply w_ld; rfl; exact hc_i 1 rfl (by assumption); apply w_mvi; rfl; apply w_mvi; rfl; apply w_done0; apply w_sq; apply w_sq; apply w_reg; apply w_mvi; rfl; apply w_neq; rfl; rfl; apply w_done0; refine w_ifdF rfl (by omega) ?_; apply w_skip; apply w_sq)
      refine w_drawnA [_] (bx bk T1 l1 :: mpI mb ms clk :: (LC ++ LD1)) rfl ?_
      (apply w_mvp; rfl; apply w_nilc; rfl; apply w_fld; rfl; apply w_ld; rfl; exact hc_i 0 rfl rfl; apply w_mvp; rfl; apply w_nilc; rfl; apply w_fld; rfl; apply w_ld; rfl; exact hc_i 0 rfl rfl; apply w_mvi; rfl; apply w_add; rfl; rfl; omega; omega; apply w_mvp; rfl; apply w_nilc; rfl; apply w_fld; rfl; apply w_ld; rfl; exact hc_i 0 rfl rfl; apply w_mvp; rfl; apply w_nilc; rfl; apply w_fld; rfl; apply w_ld; rfl; exact hc_i 0 rfl rfl; apply w_mvi; rfl; apply w_add; rfl; rfl; omega; omega)
      refine w_mlk (kE := kI) (vE := id) (k := ((s.frm + i : Nat) : Int)) keyI 2 rfl rfl rfl g1 ?_
      have hwl := writes_len (s := s) (n := i)
      refine w_callQ (h2 (k := s.frm + i) hD1 (show s.frm + i < s.syn.length by omega) g2 g3 (show (s.writes i).length ≤ 1000000 by omega)) (List.perm_append_comm (l₁ := bx bk T1 l1 :: mpI mb ms clk :: LC)) rfl (fun u d2 L2 hl2 ⟨q1, q2, q3⟩ => ?_)
      subst q1; subst q2
      refine ⟨d2, _ :: _ :: (LC ++ L2), Vs.perm (List.perm_append_comm (l₂ := bx bk T1 l1 :: mpI mb ms clk :: LC)), ?_⟩
      (apply w_bar; apply w_mvi; rfl; apply w_done0; apply w_sq; apply w_reg; apply w_mvi; rfl; apply w_neq; rfl; rfl; apply w_done0; refine w_ifdF rfl (by omega) ?_; apply w_skip; apply w_reg; apply w_add; rfl; rfl; omega; omega; apply w_mvi; rfl; apply w_done0)
      exact ⟨(i + 1, L2), by simp only; omega, ⟨rfl, rfl, rfl, rfl, trivial⟩, rfl, rfl, e, by rw [hw]; exact q3⟩
    · have hw : s.writes (i + 1) = s.writes i := by rw [PD.writes, if_neg (by rw [← hkd]; exact hk1), List.append_nil]
      (apply w_sq; apply w_reg; apply w_lss; rfl; rfl; apply w_done0; apply w_sq; refine w_ifdT rfl (by omega) ?_; apply w_skip; apply w_sq; apply w_block; apply w_sq; apply w_reg; apply w_mvi; rfl; refine w_idxN _ rfl rfl rfl (by omega) ?_; apply w_ld; rfl; exact hc_i 1 rfl (by assumption); apply w_mvi; rfl; apply w_mvi; rfl; apply w_done0; apply w_sq; apply w_sq; apply w_reg; apply w_mvi; rfl; apply w_neq; rfl; rfl; apply w_done0; refine w_ifdT rfl (by omega) ?_; apply w_exit; apply w_reg; apply w_add; rfl; rfl; omega; omega; apply w_mvi; rfl; apply w_done0)
      exact ⟨(i + 1, LD1), by simp only; omega, ⟨rfl, rfl, rfl, rfl, trivial⟩, rfl, rfl, e, by simp only [hw]; exact hD1⟩
  · have : i = s.kinds.length := by omega
    subst this
    (apply w_sq; apply w_reg; apply w_lss; rfl; rfl; apply w_done0; apply w_sq; refine w_ifdF rfl (by omega) ?_; apply w_exit; apply w_sq; apply w_reg; apply w_mvp; rfl; apply w_nilc; rfl; apply w_fld; rfl; apply w_ld; rfl; exact hc_i 0 rfl rfl)
    refine w_callQ (h3 hD1 (show 1 ≤ s.syn.length by omega)) (List.perm_append_comm (l₁ := _ :: _ :: _ :: LC)) rfl (fun u d2 L2 hl2 ⟨q1, q2, q3⟩ => ?_)
    subst q1; subst q2
    refine ⟨d2, _ :: _ :: _ :: (LC ++ L2), Vs.perm (List.perm_append_comm (l₂ := _ :: _ :: _ :: LC)), ?_⟩
    have hP := Pg.mk (d := d2) (s := s.flush) (b := b) (T := T) (cv := cv) (bk := bk) (cp := cp) (mb := mb) (ms := ms) (clk := clk) (c := c) (LC := LC) (LD := L2) (bd := bd) rfl hg hm hC q3 hc.flush hG.flush
    (apply w_mvi; rfl; apply w_done0; apply w_ret)
    exact fin1 rfl (List.Sublist.refl _) ⟨rfl, rfl, hP⟩

def DoneOk (P : Program) (f : FuncId) : Prop := ∀ {d : PHeap} {s : PD} {dv pv : Value} {L : List PHeap}, Pg d s dv pv L → GCall P f [pv] d L (Ret fun r d' L' => r = .int .i64 0 ∧ d' = d ∧ Pg d' s.done dv pv L')
def g_pager_Pager_Done (f_pager_Pager_none f_cache_Cache_Forget : Nat) : GFun :=
 ⟨57, [(.tmp 2)],
 (.seq
 (.reg false (.op false ⟨(some 2), none, (.mv (.const (.int .i64 0)))⟩ .done))
 (.seq (.seq
 (.reg false (.op false ⟨(some 5), none, (.mv (.tmp 0))⟩
  (.op false ⟨(some 6), none, (.call f_pager_Pager_none [(.tmp 5)])⟩ .done))) (.cond (.tmp 6)
 (.seq
 (.reg false (.op false ⟨(some 2), none, (.mv (.const (.int .i64 1)))⟩ .done)) .ret) .skip))
 (.seq (.seq
 (.reg false (.op false ⟨(some 7), none, (.mv (.tmp 0))⟩
  (.op false ⟨(some 8), none, (.nilc (.tmp 7))⟩
  (.op false ⟨(some 9), none, (.fld 3 (.tmp 8))⟩
  (.op false ⟨(some 10), none, (.ld none (.tmp 9))⟩
  (.op false ⟨(some 11), none, (.len (.tmp 10))⟩
  (.op false ⟨(some 12), none, (.mv (.const (.int .i64 0)))⟩ .done))))))) (.block 0 (.loop
 (.seq
 (.reg false (.op false ⟨(some 13), none, (.bin .lss (.tmp 12) (.tmp 11))⟩ .done))
 (.seq (.cond (.tmp 13) .skip (.exit 0))
 (.seq (.block 1
 (.seq
 (.reg false (.op false ⟨(some 14), none, (.mv (.tmp 12))⟩
  (.op false ⟨(some 15), none, (.idx 1 (.tmp 10) (.tmp 12))⟩
  (.op false ⟨(some 16), none, (.ld none (.tmp 15))⟩
  (.op false ⟨(some 3), none, (.mv (.tmp 14))⟩
  (.op false ⟨(some 4), none, (.mv (.tmp 16))⟩ .done))))))
 (.seq
 (.reg false (.op false ⟨(some 17), none, (.mv (.tmp 4))⟩ .done)) (.block 2
 (.seq
 (.reg false (.op false ⟨(some 19), none, (.bin .eql (.tmp 17) (.const (.int .i64 3)))⟩
  (.op false ⟨(some 18), none, (.mv (.tmp 19))⟩ .done))) (.cond (.tmp 18)
 (.seq
 (.reg false (.op false ⟨(some 20), none, (.mv (.tmp 0))⟩
  (.op false ⟨(some 21), none, (.nilc (.tmp 20))⟩
  (.op false ⟨(some 22), none, (.fld 3 (.tmp 21))⟩
  (.op false ⟨(some 23), none, (.ld none (.tmp 22))⟩
  (.op false ⟨(some 24), none, (.mv (.tmp 3))⟩
  (.op false ⟨(some 25), none, (.idx 1 (.tmp 23) (.tmp 24))⟩
  (.op false ⟨none, none, (.st 1 (.tmp 25) (.const (.int .i64 0)))⟩ .done))))))))
 (.reg true (.op true ⟨(some 26), none, (.mv (.tmp 0))⟩
  (.op true ⟨(some 27), none, (.nilc (.tmp 26))⟩
  (.op true ⟨(some 28), none, (.fld 1 (.tmp 27))⟩
  (.op true ⟨(some 29), none, (.ld none (.tmp 28))⟩
  (.op true ⟨(some 30), none, (.mv (.tmp 0))⟩
  (.op true ⟨(some 31), none, (.nilc (.tmp 30))⟩
  (.op true ⟨(some 32), none, (.fld 2 (.tmp 31))⟩
  (.op true ⟨(some 33), none, (.ld none (.tmp 32))⟩
  (.op true ⟨(some 34), none, (.mv (.tmp 3))⟩
  (.op true ⟨(some 35), none, (.bin .add (.tmp 33) (.tmp 34))⟩
  (.op false ⟨(some 36), none, (.call f_cache_Cache_Forget [(.tmp 29), (.tmp 35)])⟩ .done)))))))))))))
 (.seq
 (.reg false (.op false ⟨(some 38), none, (.bin .eql (.tmp 17) (.const (.int .i64 1)))⟩
  (.op false ⟨(some 37), none, (.mv (.tmp 38))⟩ .done))) (.cond (.tmp 37)
 (.reg false (.op false ⟨(some 39), none, (.mv (.tmp 0))⟩
  (.op false ⟨(some 40), none, (.nilc (.tmp 39))⟩
  (.op false ⟨(some 41), none, (.fld 3 (.tmp 40))⟩
  (.op false ⟨(some 42), none, (.ld none (.tmp 41))⟩
  (.op false ⟨(some 43), none, (.mv (.tmp 3))⟩
  (.op false ⟨(some 44), none, (.idx 1 (.tmp 42) (.tmp 43))⟩
  (.op false ⟨none, none, (.st 1 (.tmp 44) (.const (.int .i64 2)))⟩ .done)))))))) .skip))))))))
 (.reg false (.op false ⟨(some 45), none, (.bin .add (.tmp 12) (.const (.int .i64 1)))⟩
  (.op false ⟨(some 12), none, (.mv (.tmp 45))⟩ .done)))))))))
 (.seq
 (.reg false (.op false ⟨(some 46), none, (.mv (.tmp 0))⟩
  (.op false ⟨(some 47), none, (.nilc (.tmp 46))⟩
  (.op false ⟨(some 48), none, (.fld 4 (.tmp 47))⟩
  (.op false ⟨(some 49), none, (.ld none (.tmp 48))⟩
  (.op false ⟨none, none, (.mop (.clr (.tmp 49)))⟩ .done))))))
 (.seq
 (.reg false (.op false ⟨(some 50), none, (.mv (.tmp 0))⟩
  (.op false ⟨(some 51), none, (.nilc (.tmp 50))⟩
  (.op false ⟨(some 52), none, (.fld 5 (.tmp 51))⟩
  (.op false ⟨(some 53), none, (.ld none (.tmp 52))⟩
  (.op false ⟨(some 54), none, (.bin .add (.tmp 53) (.const (.int .i64 1)))⟩
  (.op false ⟨(some 55), none, (.nilc (.tmp 50))⟩
  (.op false ⟨(some 56), none, (.fld 5 (.tmp 55))⟩
  (.op false ⟨none, none, (.st 1 (.tmp 56) (.tmp 54))⟩ .done)))))))))
 (.seq
 (.reg false (.op false ⟨(some 2), none, (.mv (.const (.int .i64 0)))⟩ .done)) .ret))))))⟩

set_option maxRecDepth 4000 in
set_option maxHeartbeats 1000000 in
theorem done_ok {P : Program} {f f1 f2 : FuncId} (hd : dec P f = some (g_pager_Pager_Done f1 f2)) (h1 : PNoneOk P f1) (h2 : CForgetOk P f2) : DoneOk P f := by
  intro d s dv pv L hp
  obtain ⟨b, T, cv, bk, cp, hk, mb, ms, clk, c, LC, LD, bd, rfl, rfl, rfl, hg, hm, hC, hD, hc, hG⟩ := hp
  have hone := hG.one
  have hlen := hG.len
  have hinn := hG.inn
  have hsyn := hG.syn
  refine GCall_of hd (Nat.le_of_ble_eq_true rfl) ?_
  show gwp P _ _ _ _ _
  (apply w_sq; apply w_reg; apply w_mvi; rfl; apply w_done0; apply w_sq; apply w_sq; apply w_reg; apply w_mvp; rfl)
  refine w_read (A := [_]) (B := _ :: _ :: (LC ++ LD)) rfl rfl h1 ?_
  (apply w_done0; apply w_ifF; rfl; apply w_skip; apply w_sq; apply w_sq; apply w_reg; apply w_mvp; rfl; apply w_nilc; rfl; apply w_fld; rfl; apply w_ld; rfl; exact hc_i 0 rfl rfl; apply w_len; rfl; apply w_mvi; rfl; apply w_done0; apply w_block)
  refine w_loopN (α := Nat × List Int × PHeap × CD × List PHeap) (fun x => [(0, .pointer (some ⟨b, 0, none⟩)), (10, .slice (some ⟨bk, 0, none⟩) s.kinds.length cp), (11, .int .i64 s.kinds.length), (12, .int .i64 x.1)])
    (fun x => bx b T [.pointer (some ⟨bd, 0, none⟩), cv, .int .i64 s.frm, .slice (some ⟨bk, 0, none⟩) s.kinds.length cp, .map (some mb), .int .i64 (wr s.round), .int .i64 (wr s.tc)] :: x.2.2.1 :: mpI mb ms clk :: (x.2.2.2.2 ++ LD))
    (fun x => x.1 ≤ s.kinds.length ∧ Mid x.1 s.kinds x.2.1 ∧ GRow 1 RInt d (.slice (some ⟨bk, 0, none⟩) s.kinds.length cp) x.2.1 x.2.2.1 ∧ CacheOk { s with kinds := x.2.1 } x.2.2.2.1 ∧ Ca d x.2.2.2.1 (.pointer (some ⟨bd, 0, none⟩)) cv x.2.2.2.2)
    (fun x => s.kinds.length - x.1) (0, s.kinds, hk, c, LC) ⟨rfl, rfl, rfl, rfl, trivial⟩ rfl ⟨by simp only; omega, Mid.zero _, hg, hc.og (Og.refl _), hC⟩ ?_
  rintro ⟨i, ks, hk1, c1, LC1⟩ ρ ⟨hi, hM, hg1, hc1, hC1⟩
  simp only at hi hM hg1 hc1 hC1 ⊢
  have hkl := hM.1
  by_cases e : i < s.kinds.length
  · have e' : i < ks.length := by omega
    obtain ⟨b1, T1, l1, cc, cs, q1, rfl, hcl, hcs, hle, ⟨rfl, hb1, hb2⟩, hset⟩ := GRow.at (by omega) hg1 e'
    rw [hkl] at q1
    cases q1
    have c0 := hcs 0 _ rfl
    have hki : ks.getD i 0 = ks[i] := by rw [List.getD_eq_getElem?_getD, List.getElem?_eq_getElem e']; rfl
    have hkd : ks[i] = s.kinds.getD i 0 := by rw [← hki, hM.2, if_neg (by omega)]
    by_cases hk3 : ks[i] = 3
    · have hn := hM.next e
      rw [show doneK (s.kinds.getD i 0) = 0 by unfold doneK; rw [if_pos (by rw [← hkd]; exact hk3)]] at hn
      (apply w_sq; apply w_reg; apply w_lss; rfl; rfl; apply w_done0; apply w_sq; refine w_ifdT rfl (by omega) ?_; apply w_skip; apply w_sq; apply w_block; apply w_sq; apply w_reg; apply w_mvi; rfl; refine w_idxN _ rfl rfl rfl (by omega) ?_; apply w_ld; rfl; exact hc_i 1 rfl (by assumption); apply w_mvi; rfl; apply w_mvi; rfl; apply w_done0; apply w_sq; apply w_reg; apply w_mvi; rfl; apply w_done0; apply w_block; apply w_sq; apply w_reg; apply w_eql; rfl; rfl; apply w_mvb; rfl; apply w_done0; refine w_ifdT rfl (by omega) ?_; apply w_sq; apply w_reg; apply w_mvp; rfl; apply w_nilc; rfl; apply w_fld; rfl; apply w_ld; rfl; exact hc_i 0 rfl rfl; apply w_mvi; rfl; refine w_idxN _ rfl rfl rfl (by omega) ?_)
      refine w_stE 1 (patch l1 (i * 1) [.int .i64 0]) rfl rfl rfl rfl hle rfl rfl ?_
      (apply w_done0)
      refine w_drawnA [_] (bx bk T1 (patch l1 (i * 1) [.int .i64 0]) :: mpI mb ms clk :: (LC1 ++ LD)) rfl ?_
      (apply w_mvp; rfl; apply w_nilc; rfl; apply w_fld; rfl; apply w_ld; rfl; exact hc_i 0 rfl rfl; apply w_mvp; rfl; apply w_nilc; rfl; apply w_fld; rfl; apply w_ld; rfl; exact hc_i 0 rfl rfl; apply w_mvi; rfl; apply w_add; rfl; rfl; omega; omega)
      refine w_callQ (h2 (k := s.frm + i) hC1 (fun j hj => free_lt hc1.inv hj)) (List.perm_append_comm_assoc [_, _] LC1 LD) rfl (fun u d2 L2 hl2 ⟨q1, q2, q3⟩ => ?_)
      subst q1; subst q2
      refine ⟨d2, _ :: _ :: (L2 ++ LD), Vs.perm (List.perm_append_comm_assoc L2 [_, _] LD), ?_⟩
      refine w_doneX ⟨d2, _ :: _ :: _ :: (L2 ++ LD), Vs.refl _ _, ?_⟩
      (apply w_reg; apply w_add; rfl; rfl; omega; omega; apply w_mvi; rfl; apply w_done0)
      exact ⟨(i + 1, ks.set i 0, _, _, L2), by simp only; omega, ⟨rfl, rfl, rfl, rfl, trivial⟩, rfl, rfl, e, hn, hset [.int .i64 0] 0 rfl ⟨rfl, by omega, by omega⟩, hc1.gone e' (by show ks.getD i 0 = 3; rw [hki]; exact hk3), q3⟩
    · by_cases hk1 : ks[i] = 1
      · have hn := hM.next e
        rw [show doneK (s.kinds.getD i 0) = 2 by unfold doneK; rw [if_neg (by rw [← hkd]; exact hk3), if_pos (by rw [← hkd]; exact hk1)]] at hn
        (apply w_sq; apply w_reg; apply w_lss; rfl; rfl; apply w_done0; apply w_sq; refine w_ifdT rfl (by omega) ?_; apply w_skip; apply w_sq; apply w_block; apply w_sq; apply w_reg; apply w_mvi; rfl; refine w_idxN _ rfl rfl rfl (by omega) ?_; apply w_ld; rfl; exact hc_i 1 rfl (by assumption); apply w_mvi; rfl; apply w_mvi; rfl; apply w_done0; apply w_sq; apply w_reg; apply w_mvi; rfl; apply w_done0; apply w_block; apply w_sq; apply w_reg; apply w_eql; rfl; rfl; apply w_mvb; rfl; apply w_done0; refine w_ifdF rfl (by omega) ?_; apply w_sq; apply w_reg; apply w_eql; rfl; rfl; apply w_mvb; rfl; apply w_done0; refine w_ifdT rfl (by omega) ?_; apply w_reg; apply w_mvp; rfl; apply w_nilc; rfl; apply w_fld; rfl; apply w_ld; rfl; exact hc_i 0 rfl rfl; apply w_mvi; rfl; refine w_idxN _ rfl rfl rfl (by omega) ?_)
        refine w_stE 1 (patch l1 (i * 1) [.int .i64 2]) rfl rfl rfl rfl hle rfl rfl ?_
        (apply w_done0; apply w_reg; apply w_add; rfl; rfl; omega; omega; apply w_mvi; rfl; apply w_done0)
        exact ⟨(i + 1, ks.set i 2, _, c1, LC1), by simp only; omega, ⟨rfl, rfl, rfl, rfl, trivial⟩, rfl, rfl, e, hn, hset [.int .i64 2] 2 rfl ⟨rfl, by omega, by omega⟩, hc1.aged e', hC1⟩
      · have hn := hM.same e (by unfold doneK; rw [if_neg (by rw [← hkd]; exact hk3), if_neg (by rw [← hkd]; exact hk1)])
        (apply w_sq; apply w_reg; apply w_lss; rfl; rfl; apply w_done0; apply w_sq; refine w_ifdT rfl (by omega) ?_; apply w_skip; apply w_sq; apply w_block; apply w_sq; apply w_reg; apply w_mvi; rfl; refine w_idxN _ rfl rfl rfl (by omega) ?_; apply w_ld; rfl; exact hc_i 1 rfl (by assumption); apply w_mvi; rfl; apply w_mvi; rfl; apply w_done0; apply w_sq; apply w_reg; apply w_mvi; rfl; apply w_done0; apply w_block; apply w_sq; apply w_reg; apply w_eql; rfl; rfl; apply w_mvb; rfl; apply w_done0; refine w_ifdF rfl (by omega) ?_; apply w_sq; apply w_reg; apply w_eql; rfl; rfl; apply w_mvb; rfl; apply w_done0; refine w_ifdF rfl (by omega) ?_; apply w_skip; apply w_reg; apply w_add; rfl; rfl; omega; omega; apply w_mvi; rfl; apply w_done0)
        exact ⟨(i + 1, ks, _, c1, LC1), by simp only; omega, ⟨rfl, rfl, rfl, rfl, trivial⟩, rfl, rfl, e, hn, hg1, hc1, hC1⟩
  · have hks := hM.done (by omega)
    subst hks
    (apply w_sq; apply w_reg; apply w_lss; rfl; rfl; apply w_done0; apply w_sq; refine w_ifdF rfl (by omega) ?_; apply w_exit; apply w_sq; apply w_reg; apply w_mvp; rfl; apply w_nilc; rfl; apply w_fld; rfl; apply w_ld; rfl; exact hc_i 0 rfl rfl)
    refine w_mcl (kE := kI) (vE := id) 2 rfl rfl ?_
    (apply w_done0; apply w_sq; apply w_reg; apply w_mvp; rfl; apply w_nilc; rfl; apply w_fld; rfl; apply w_ld; rfl; exact hc_i 0 rfl rfl)
    refine w_addc rfl rfl ?_
    (apply w_nilc; rfl; apply w_fld; rfl)
    refine w_stE 0 [.pointer (some ⟨bd, 0, none⟩), cv, .int .i64 s.frm, .slice (some ⟨bk, 0, none⟩) s.kinds.length cp, .map (some mb), .int .i64 (wr (s.round + 1)), .int .i64 (wr s.tc)] rfl rfl rfl rfl (Nat.le_of_ble_eq_true rfl) rfl rfl ?_
    have hGd : Good s.done := by
      refine ⟨by simpa [PD.done] using hone, by simpa [PD.done] using hlen, by simpa [PD.done] using hinn, hsyn, fun j => ?_⟩
      show 0 ≤ (s.kinds.map doneK).getD j 0 ∧ (s.kinds.map doneK).getD j 0 ≤ 3
      rw [getD_map]
      exact doneK_rng (hG.kd j)
    have hP := Pg.mk (d := d) (s := s.done) (b := b) (T := T) (cv := cv) (bk := bk) (cp := cp) (mb := mb) (ms := []) (clk := clk) (c := c1) (LC := LC1) (LD := LD) (bd := bd) (n := s.kinds.length) (by simp [PD.done]) hg1 (fun j hj hj1 => by
      have h0 : (s.kinds.map doneK).getD j 0 = 1 := hj1
      rw [getD_map] at h0
      unfold doneK at h0
      split at h0
      · cases h0
      · split at h0
        · cases h0
        · contradiction) hC1 hD (hc1.to rfl rfl (Og.refl _)) hGd
    (apply w_done0; apply w_sq; apply w_reg; apply w_mvi; rfl; apply w_done0; apply w_ret)
    exact fin1 rfl (List.Sublist.refl _) ⟨rfl, rfl, hP⟩
end Go.Gk.Pgr
end

section
namespace Go.Gk.Pgr
open Go Go.Gk Go.Gk.Dev Go.Gk.Cch Go.Gk.Node
attribute [local irreducible] gwp gws xwp

def FreeOk (P : Program) (f : FuncId) : Prop := ∀ {d : PHeap} {s : PD} {dv pv : Value} {L : List PHeap}, Pg d s dv pv L → GRead P f [pv] d L (.int .i64 s.free)
def g_pager_Pager_Free (f_pager_Pager_none : Nat) : GFun :=
 ⟨24, [(.tmp 2)],
 (.seq
 (.reg false (.op false ⟨(some 2), none, (.mv (.const (.int .i64 0)))⟩ .done))
 (.seq
 (.reg false (.op false ⟨(some 3), none, (.mv (.const (.int .i64 0)))⟩ .done))
 (.seq (.seq
 (.reg false (.op false ⟨(some 6), none, (.mv (.tmp 0))⟩
  (.op false ⟨(some 7), none, (.call f_pager_Pager_none [(.tmp 6)])⟩
  (.op false ⟨(some 8), none, (.un .not (.tmp 7))⟩ .done)))) (.cond (.tmp 8)
 (.seq
 (.reg false (.op false ⟨(some 9), none, (.mv (.tmp 0))⟩
  (.op false ⟨(some 10), none, (.nilc (.tmp 9))⟩
  (.op false ⟨(some 11), none, (.fld 3 (.tmp 10))⟩
  (.op false ⟨(some 12), none, (.ld none (.tmp 11))⟩
  (.op false ⟨(some 13), none, (.len (.tmp 12))⟩
  (.op false ⟨(some 14), none, (.mv (.const (.int .i64 0)))⟩ .done))))))) (.block 0 (.loop
 (.seq
 (.reg false (.op false ⟨(some 15), none, (.bin .lss (.tmp 14) (.tmp 13))⟩ .done))
 (.seq (.cond (.tmp 15) .skip (.exit 0))
 (.seq (.block 1
 (.seq
 (.reg false (.op false ⟨(some 16), none, (.idx 1 (.tmp 12) (.tmp 14))⟩
  (.op false ⟨(some 17), none, (.ld none (.tmp 16))⟩
  (.op false ⟨(some 5), none, (.mv (.tmp 17))⟩ .done))))
 (.seq
 (.reg false (.op false ⟨(some 18), none, (.mv (.tmp 5))⟩
  (.op false ⟨(some 19), none, (.bin .eql (.tmp 18) (.const (.int .i64 0)))⟩ .done))) (.cond (.tmp 19)
 (.reg false (.op false ⟨(some 20), none, (.mv (.tmp 3))⟩
  (.op false ⟨(some 21), none, (.bin .add (.tmp 20) (.const (.int .i64 1)))⟩
  (.op false ⟨(some 3), none, (.mv (.tmp 21))⟩ .done)))) .skip))))
 (.reg false (.op false ⟨(some 22), none, (.bin .add (.tmp 14) (.const (.int .i64 1)))⟩
  (.op false ⟨(some 14), none, (.mv (.tmp 22))⟩ .done))))))))) .skip))
 (.seq
 (.reg false (.op false ⟨(some 23), none, (.mv (.tmp 3))⟩
  (.op false ⟨(some 2), none, (.mv (.tmp 23))⟩ .done))) .ret))))⟩

theorem free_ok {P : Program} {f f1 : FuncId} (hd : dec P f = some (g_pager_Pager_Free f1)) (h1 : PNoneOk P f1) : FreeOk P f := by
  intro d s dv pv L hp
  obtain ⟨b, T, cv, bk, cp, hk, mb, ms, clk, c, LC, LD, bd, rfl, rfl, rfl, hg, hm, hC, hD, hc, hG⟩ := hp
  have hlen := hG.len
  have hone := hG.one
  refine GCall_of hd (Nat.le_of_ble_eq_true rfl) ?_
  show gwp P _ _ _ _ _
  (apply w_sq; apply w_reg; apply w_mvi; rfl; apply w_done0; apply w_sq; apply w_reg; apply w_mvi; rfl; apply w_done0; apply w_sq; apply w_sq; apply w_reg; apply w_mvp; rfl)
  refine w_read (A := [_]) (B := _ :: _ :: (LC ++ LD)) rfl rfl h1 ?_
  (apply w_not; rfl; apply w_done0; apply w_ifT; rfl; apply w_sq; apply w_reg; apply w_mvp; rfl; apply w_nilc; rfl; apply w_fld; rfl; apply w_ld; rfl; exact hc_i 0 rfl rfl; apply w_len; rfl; apply w_mvi; rfl; apply w_done0; apply w_block)
  refine w_loopN (α := Nat) (fun i => [(3, .int .i64 ((s.kinds.take i).countP (· == 0))), (12, .slice (some ⟨bk, 0, none⟩) s.kinds.length cp), (13, .int .i64 s.kinds.length), (14, .int .i64 i)])
    (fun i => bx b T [.pointer (some ⟨bd, 0, none⟩), cv, .int .i64 s.frm, .slice (some ⟨bk, 0, none⟩) s.kinds.length cp, .map (some mb), .int .i64 (wr s.round), .int .i64 (wr s.tc)] :: hk :: mpI mb ms clk :: (LC ++ LD))
    (fun i => i ≤ s.kinds.length) (fun i => s.kinds.length - i) 0 ⟨rfl, rfl, rfl, rfl, trivial⟩ rfl (by omega) ?_
  rintro i ρ hi
  by_cases e : i < s.kinds.length
  · obtain ⟨b1, T1, l1, c1, cs, q1, rfl, hcl, hcs, hle, ⟨rfl, hb1, hb2⟩, -⟩ := GRow.at (by omega) hg e
    cases q1
    have c0 := hcs 0 _ rfl
    have hn : (s.kinds.take (i + 1)).countP (· == 0) = (s.kinds.take i).countP (· == 0) + (if s.kinds[i] = 0 then 1 else 0) := by
      rw [List.take_succ_eq_append_getElem e, List.countP_append]; simp [List.countP_cons, List.countP_nil]
    have hcb : (s.kinds.take i).countP (· == 0) ≤ 8192 := Nat.le_trans List.countP_le_length (by rw [List.length_take]; omega)
    by_cases h0 : s.kinds[i] = 0
    · rw [if_pos h0] at hn
      (apply w_sq; apply w_reg; apply w_lss; rfl; rfl; apply w_done0; apply w_sq; refine w_ifdT rfl (by omega) ?_; apply w_skip; apply w_sq; apply w_block; apply w_sq; apply w_reg; refine w_idxN _ rfl rfl rfl (by omega) ?_; apply w_ld; rfl; exact hc_i 1 rfl (by assumption); apply w_mvi; rfl; apply w_done0; apply w_sq; apply w_reg; apply w_mvi; rfl; apply w_eql; rfl; rfl; apply w_done0; refine w_ifdT rfl (by omega) ?_; apply w_reg; apply w_mvi; rfl; apply w_add; rfl; rfl; omega; omega; apply w_mvi; rfl; apply w_done0; apply w_reg; apply w_add; rfl; rfl; omega; omega; apply w_mvi; rfl; apply w_done0)
      exact ⟨i + 1, by omega, ⟨by show Value.int _ _ = Value.int _ _; rw [hn]; rfl, rfl, rfl, rfl, trivial⟩, rfl, rfl, e⟩
    · rw [if_neg h0] at hn
      (apply w_sq; apply w_reg; apply w_lss; rfl; rfl; apply w_done0; apply w_sq; refine w_ifdT rfl (by omega) ?_; apply w_skip; apply w_sq; apply w_block; apply w_sq; apply w_reg; refine w_idxN _ rfl rfl rfl (by omega) ?_; apply w_ld; rfl; exact hc_i 1 rfl (by assumption); apply w_mvi; rfl; apply w_done0; apply w_sq; apply w_reg; apply w_mvi; rfl; apply w_eql; rfl; rfl; apply w_done0; refine w_ifdF rfl (by omega) ?_; apply w_skip; apply w_reg; apply w_add; rfl; rfl; omega; omega; apply w_mvi; rfl; apply w_done0)
      exact ⟨i + 1, by omega, ⟨by show Value.int _ _ = Value.int _ _; rw [hn]; rfl, rfl, rfl, rfl, trivial⟩, rfl, rfl, e⟩
  · have : i = s.kinds.length := by omega
    subst this
    (apply w_sq; apply w_reg; apply w_lss; rfl; rfl; apply w_done0; apply w_sq; refine w_ifdF rfl (by omega) ?_; apply w_exit; apply w_sq; apply w_reg; apply w_mvi; rfl; apply w_mvi; rfl; apply w_done0; apply w_ret)
    rw [show s.free = (s.kinds.take s.kinds.length).countP (· == 0) by rw [List.take_length]; rfl]
    exact finR rfl (List.Sublist.refl _)

def OldOk (P : Program) (f : FuncId) : Prop := ∀ {d : PHeap} {s : PD} {dv pv : Value} {L : List PHeap}, Pg d s dv pv L → GCall P f [pv] d L (Ret fun r d' L' => L' = L ∧ Le d d' ∧ RInts d' r s.olds)
def g_pager_Pager_Old (f_pager_Pager_none : Nat) : GFun :=
 ⟨32, [(.tmp 2)],
 (.seq
 (.reg false (.op false ⟨(some 2), none, (.mv (.const (.slice none 0 0)))⟩ .done))
 (.seq
 (.reg false (.op false ⟨(some 3), none, (.mv (.const (.slice none 0 0)))⟩ .done))
 (.seq (.seq
 (.reg false (.op false ⟨(some 6), none, (.mv (.tmp 0))⟩
  (.op false ⟨(some 7), none, (.call f_pager_Pager_none [(.tmp 6)])⟩
  (.op false ⟨(some 8), none, (.un .not (.tmp 7))⟩ .done)))) (.cond (.tmp 8)
 (.seq
 (.reg false (.op false ⟨(some 9), none, (.mv (.tmp 0))⟩
  (.op false ⟨(some 10), none, (.nilc (.tmp 9))⟩
  (.op false ⟨(some 11), none, (.fld 3 (.tmp 10))⟩
  (.op false ⟨(some 12), none, (.ld none (.tmp 11))⟩
  (.op false ⟨(some 13), none, (.len (.tmp 12))⟩
  (.op false ⟨(some 14), none, (.mv (.const (.int .i64 0)))⟩ .done))))))) (.block 0 (.loop
 (.seq
 (.reg false (.op false ⟨(some 15), none, (.bin .lss (.tmp 14) (.tmp 13))⟩ .done))
 (.seq (.cond (.tmp 15) .skip (.exit 0))
 (.seq (.block 1
 (.seq
 (.reg false (.op false ⟨(some 16), none, (.mv (.tmp 14))⟩
  (.op false ⟨(some 17), none, (.idx 1 (.tmp 12) (.tmp 14))⟩
  (.op false ⟨(some 18), none, (.ld none (.tmp 17))⟩
  (.op false ⟨(some 4), none, (.mv (.tmp 16))⟩
  (.op false ⟨(some 5), none, (.mv (.tmp 18))⟩ .done))))))
 (.seq
 (.reg false (.op false ⟨(some 19), none, (.mv (.tmp 5))⟩
  (.op false ⟨(some 20), none, (.bin .eql (.tmp 19) (.const (.int .i64 2)))⟩ .done))) (.cond (.tmp 20)
 (.reg false (.op false ⟨(some 21), none, (.mv (.tmp 3))⟩
  (.op false ⟨(some 22), none, (.mv (.tmp 0))⟩
  (.op false ⟨(some 23), none, (.nilc (.tmp 22))⟩
  (.op false ⟨(some 24), none, (.fld 2 (.tmp 23))⟩
  (.op false ⟨(some 25), none, (.ld none (.tmp 24))⟩
  (.op false ⟨(some 26), none, (.mv (.tmp 4))⟩
  (.op false ⟨(some 27), none, (.bin .add (.tmp 25) (.tmp 26))⟩
  (.op false ⟨(some 28), none, (.bsl 1 1 [(.int .i64 0)] [(0, (.tmp 27))])⟩
  (.op false ⟨(some 29), none, (.app 1 8 [(.int .i64 0)] (.tmp 21) (.tmp 28))⟩
  (.op false ⟨(some 3), none, (.mv (.tmp 29))⟩ .done))))))))))) .skip))))
 (.reg false (.op false ⟨(some 30), none, (.bin .add (.tmp 14) (.const (.int .i64 1)))⟩
  (.op false ⟨(some 14), none, (.mv (.tmp 30))⟩ .done))))))))) .skip))
 (.seq
 (.reg false (.op false ⟨(some 31), none, (.mv (.tmp 3))⟩
  (.op false ⟨(some 2), none, (.mv (.tmp 31))⟩ .done))) .ret))))⟩

theorem old_ok {P : Program} {f f1 : FuncId} (hd : dec P f = some (g_pager_Pager_Old f1)) (h1 : PNoneOk P f1) : OldOk P f := by
  intro d s dv pv L hp
  obtain ⟨b, T, cv, bk, cp, hk, mb, ms, clk, c, LC, LD, bd, rfl, rfl, rfl, hg, hm, hC, hD, hc, hG⟩ := hp
  have hlen := hG.len
  have hone := hG.one
  have hinn := hG.inn
  have hsyn := hG.syn
  refine GCall_of hd (Nat.le_of_ble_eq_true rfl) ?_
  show gwp P _ _ _ _ _
  (apply w_sq; apply w_reg; apply w_mvs; rfl; apply w_done0; apply w_sq; apply w_reg; apply w_mvs; rfl; apply w_done0; apply w_sq; apply w_sq; apply w_reg; apply w_mvp; rfl)
  refine w_read (A := [_]) (B := _ :: _ :: (LC ++ LD)) rfl rfl h1 ?_
  refine w_vs d (emp :: _) Vs.emp ?_
  (apply w_not; rfl; apply w_done0; apply w_ifT; rfl; apply w_sq; apply w_reg; apply w_mvp; rfl; apply w_nilc; rfl; apply w_fld; rfl; apply w_ld; rfl; exact hc_i 1 rfl rfl; apply w_len; rfl; apply w_mvi; rfl; apply w_done0; apply w_block)
  refine w_loopS (α := Nat × Value × PHeap) (fun x => [(0, .pointer (some ⟨b, 0, none⟩)), (3, x.2.1), (12, .slice (some ⟨bk, 0, none⟩) s.kinds.length cp), (13, .int .i64 s.kinds.length), (14, .int .i64 x.1)])
    (fun x d' L' => d' = d ∧ x.1 ≤ s.kinds.length ∧ GRow 1 RInt d x.2.1 (oldsF s.frm (s.kinds.take x.1) 0) x.2.2 ∧
      L' = x.2.2 :: bx b T [.pointer (some ⟨bd, 0, none⟩), cv, .int .i64 s.frm, .slice (some ⟨bk, 0, none⟩) s.kinds.length cp, .map (some mb), .int .i64 (wr s.round), .int .i64 (wr s.tc)] :: hk :: mpI mb ms clk :: (LC ++ LD))
    (fun x => s.kinds.length - x.1) (0, .slice none 0 0, emp) ⟨rfl, rfl, rfl, rfl, rfl, trivial⟩ ⟨rfl, by simp only; omega, GRow.nil, rfl⟩ ?_
  rintro ⟨i, v, hv⟩ ρ d' L' ⟨rfl, hi, hrow, rfl⟩
  simp only at hi hrow ⊢
  by_cases e : i < s.kinds.length
  · obtain ⟨b1, T1, l1, c1, cs, q1, rfl, hcl, hcs, hle, ⟨rfl, hb1, hb2⟩, -⟩ := GRow.at (by omega) hg e
    cases q1
    have c0 := hcs 0 _ rfl
    have hol : (oldsF s.frm (s.kinds.take i) 0).length ≤ 8192 := Nat.le_trans oldsF_len (by rw [List.length_take]; omega)
    have hn : oldsF s.frm (s.kinds.take (i + 1)) 0 = oldsF s.frm (s.kinds.take i) 0 ++ (if s.kinds[i] = 2 then [((s.frm + i : Nat) : Int)] else []) := by
      rw [List.take_succ_eq_append_getElem e, oldsF_snoc, List.length_take, Nat.zero_add, Nat.min_eq_left hi]
    by_cases h2 : s.kinds[i] = 2
    · rw [if_pos h2] at hn
      (apply w_sq; apply w_reg; apply w_lss; rfl; rfl; apply w_done0; apply w_sq; refine w_ifdT rfl (by omega) ?_; apply w_skip; apply w_sq; apply w_block; apply w_sq; apply w_reg; apply w_mvi; rfl; refine w_idxN _ rfl rfl rfl (by omega) ?_; apply w_ld; rfl; exact hc_i 2 rfl (by assumption); apply w_mvi; rfl; apply w_mvi; rfl; apply w_done0; apply w_sq; apply w_reg; apply w_mvi; rfl; apply w_eql; rfl; rfl; apply w_done0; refine w_ifdT rfl (by omega) ?_; apply w_reg; apply w_mv; apply w_mvp; rfl; apply w_nilc; rfl; apply w_fld; rfl; apply w_ld; rfl; exact hc_i 1 rfl rfl; apply w_mvi; rfl; apply w_add; rfl; rfl; omega; omega)
      refine w_bs1 rfl rfl (fun b3 T3 => ?_)
      refine w_appL (R := RInt) 0 rfl rfl hrow rfl (GRow.lit1 (x := ((s.frm + i : Nat) : Int)) rfl ⟨rfl, by omega, by omega⟩) cell1_int (by omega) (by simp; omega) (by simp; omega) (fun v' h' ho' => ?_)
      (apply w_mv; apply w_done0; apply w_reg; apply w_add; rfl; rfl; omega; omega; apply w_mvi; rfl; apply w_done0)
      exact ⟨(i + 1, v', h'), by simp only; omega, ⟨rfl, rfl, rfl, rfl, rfl, trivial⟩, rfl, e, by simp only [hn]; exact ho', rfl⟩
    · rw [if_neg h2, List.append_nil] at hn
      (apply w_sq; apply w_reg; apply w_lss; rfl; rfl; apply w_done0; apply w_sq; refine w_ifdT rfl (by omega) ?_; apply w_skip; apply w_sq; apply w_block; apply w_sq; apply w_reg; apply w_mvi; rfl; refine w_idxN _ rfl rfl rfl (by omega) ?_; apply w_ld; rfl; exact hc_i 2 rfl (by assumption); apply w_mvi; rfl; apply w_mvi; rfl; apply w_done0; apply w_sq; apply w_reg; apply w_mvi; rfl; apply w_eql; rfl; rfl; apply w_done0; refine w_ifdF rfl (by omega) ?_; apply w_skip; apply w_reg; apply w_add; rfl; rfl; omega; omega; apply w_mvi; rfl; apply w_done0)
      exact ⟨(i + 1, v, hv), by simp only; omega, ⟨rfl, rfl, rfl, rfl, rfl, trivial⟩, rfl, e, by simp only [hn]; exact hrow, rfl⟩
  · have : i = s.kinds.length := by omega
    subst this
    rw [List.take_length] at hrow
    have hol : (oldsF s.frm s.kinds 0).length ≤ 8192 := Nat.le_trans oldsF_len (by omega)
    (apply w_sq; apply w_reg; apply w_lss; rfl; rfl; apply w_done0; apply w_sq; refine w_ifdF rfl (by omega) ?_; apply w_exit; apply w_sq; apply w_reg; apply w_mv; apply w_mv; apply w_done0; apply w_ret)
    exact finV [v] ⟨rfl, trivial⟩ (d' := join d' hv) (L' := _ :: _ :: _ :: (LC ++ LD)) Vs.freeze ⟨rfl, Le.join_left _ _, GRow.rsl (R := RInt) (sz := 1) hrow mono_int (by omega) (Le.join_left _ _) (Le.join_right _ _)⟩

def PNewOk (P : Program) (f : FuncId) : Prop := ∀ {d : PHeap} {syn : List Sec} {dv cv lv : Value} {LC LD : List PHeap} {m frm n : Nat} {live : List Nat}, Dv d ⟨syn, []⟩ dv LD → Ca d ⟨List.replicate m fz, List.range m, 0, 0, 0⟩ dv cv LC → 1 ≤ m → m ≤ 64 → 1 ≤ n → frm + n ≤ syn.length → syn.length ≤ 8192 → live.Nodup → (∀ k ∈ live, k < n) →
  RInts d lv (live.map fun k => ((frm + k : Nat) : Int)) → GCall P f [dv, cv, .int .i64 frm, .int .i64 n, lv] d (LC ++ LD) (Ret fun r d' L' => ∃ pv, r = .tuple #[pv, .int .i64 0] ∧ Le d d' ∧ Pg d' ⟨frm, lives n live, fun _ => [], syn, 0, 0⟩ dv pv L')
def g_pager_New (f_device_Device_Size f_cache_Cache_Held f_pager_Pager_kind : Nat) : GFun :=
 ⟨74, [(.tmp 10), (.tmp 11)],
 (.seq
 (.reg false (.op false ⟨(some 10), none, (.mv (.const (.pointer none)))⟩
  (.op false ⟨(some 11), none, (.mv (.const (.int .i64 0)))⟩ .done)))
 (.seq
 (.reg false (.op false ⟨(some 16), none, (.mv (.tmp 0))⟩
  (.op false ⟨(some 17), none, (.call f_device_Device_Size [(.tmp 16)])⟩
  (.op false ⟨(some 12), none, (.mv (.tmp 17))⟩ .done))))
 (.seq (.block 0
 (.seq
 (.reg false (.op false ⟨(some 19), none, (.mv (.tmp 12))⟩
  (.op false ⟨(some 20), none, (.bin .eql (.tmp 19) (.const (.int .i64 0)))⟩
  (.op false ⟨(some 21), none, (.mv (.tmp 20))⟩
  (.op false ⟨(some 22), (some (21, false)), (.mv (.tmp 1))⟩
  (.op false ⟨(some 23), (some (21, false)), (.call f_cache_Cache_Held [(.tmp 22)])⟩
  (.op false ⟨(some 24), (some (21, false)), (.len (.tmp 23))⟩
  (.op false ⟨(some 25), (some (21, false)), (.bin .eql (.tmp 24) (.const (.int .i64 0)))⟩
  (.op false ⟨(some 26), none, (.pick (.tmp 21) (.const (.bool true)) (.tmp 25))⟩
  (.op false ⟨(some 18), none, (.mv (.tmp 26))⟩ .done)))))))))) (.cond (.tmp 18)
 (.seq
 (.reg false (.op false ⟨(some 10), none, (.mv (.const (.pointer none)))⟩
  (.op false ⟨(some 11), none, (.mv (.const (.int .i64 1)))⟩ .done))) .ret)
 (.seq
 (.reg false (.op false ⟨(some 28), none, (.mv (.tmp 2))⟩
  (.op false ⟨(some 29), none, (.bin .lss (.tmp 28) (.const (.int .i64 0)))⟩
  (.op false ⟨(some 30), none, (.mv (.tmp 29))⟩
  (.op false ⟨(some 31), (some (30, false)), (.mv (.tmp 3))⟩
  (.op false ⟨(some 32), (some (30, false)), (.bin .lss (.tmp 31) (.const (.int .i64 1)))⟩
  (.op false ⟨(some 33), none, (.pick (.tmp 30) (.const (.bool true)) (.tmp 32))⟩
  (.op false ⟨(some 34), none, (.mv (.tmp 33))⟩
  (.op false ⟨(some 35), (some (34, false)), (.mv (.tmp 2))⟩
  (.op false ⟨(some 36), (some (34, false)), (.mv (.tmp 12))⟩
  (.op false ⟨(some 37), (some (34, false)), (.bin .gtr (.tmp 35) (.tmp 36))⟩
  (.op false ⟨(some 38), none, (.pick (.tmp 34) (.const (.bool true)) (.tmp 37))⟩
  (.op false ⟨(some 39), none, (.mv (.tmp 38))⟩
  (.op false ⟨(some 40), (some (39, false)), (.mv (.tmp 3))⟩
  (.op false ⟨(some 41), (some (39, false)), (.mv (.tmp 12))⟩
  (.op false ⟨(some 42), (some (39, false)), (.mv (.tmp 2))⟩
  (.op false ⟨(some 43), (some (39, false)), (.bin .sub (.tmp 41) (.tmp 42))⟩
  (.op false ⟨(some 44), (some (39, false)), (.bin .gtr (.tmp 40) (.tmp 43))⟩
  (.op false ⟨(some 45), none, (.pick (.tmp 39) (.const (.bool true)) (.tmp 44))⟩
  (.op false ⟨(some 27), none, (.mv (.tmp 45))⟩ .done)))))))))))))))))))) (.cond (.tmp 27)
 (.seq
 (.reg false (.op false ⟨(some 10), none, (.mv (.const (.pointer none)))⟩
  (.op false ⟨(some 11), none, (.mv (.const (.int .i64 2)))⟩ .done))) .ret) .skip)))))
 (.seq
 (.reg false (.op false ⟨(some 46), none, (.mv (.tmp 0))⟩
  (.op false ⟨(some 47), none, (.mv (.tmp 1))⟩
  (.op false ⟨(some 48), none, (.mv (.tmp 2))⟩
  (.op false ⟨(some 49), none, (.mv (.tmp 3))⟩
  (.op false ⟨(some 50), none, (.mks 1 8 [(.int .i64 0)] (.tmp 49) (.tmp 49))⟩
  (.op false ⟨(some 51), none, (.mop .mk)⟩
  (.op false ⟨(some 52), none, (.bld [(0, 1), (1, 1), (2, 1), (3, 1), (4, 1), (5, 1), (6, 1)] [(.pointer none), (.pointer none), (.int .i64 0), (.slice none 0 0), (.map none), (.int .i64 0), (.int .i64 0)] [(0, (.tmp 46)), (1, (.tmp 47)), (2, (.tmp 48)), (3, (.tmp 50)), (4, (.tmp 51))])⟩
  (.op false ⟨(some 53), none, (.box (.tmp 52))⟩
  (.op false ⟨(some 13), none, (.mv (.tmp 53))⟩ .done))))))))))
 (.seq (.seq
 (.reg false (.op false ⟨(some 54), none, (.mv (.tmp 4))⟩
  (.op false ⟨(some 55), none, (.len (.tmp 54))⟩
  (.op false ⟨(some 56), none, (.mv (.const (.int .i64 0)))⟩ .done)))) (.block 1 (.loop
 (.seq
 (.reg false (.op false ⟨(some 57), none, (.bin .lss (.tmp 56) (.tmp 55))⟩ .done))
 (.seq (.cond (.tmp 57) .skip (.exit 1))
 (.seq (.block 2
 (.seq
 (.reg false (.op false ⟨(some 58), none, (.idx 1 (.tmp 54) (.tmp 56))⟩
  (.op false ⟨(some 59), none, (.ld none (.tmp 58))⟩
  (.op false ⟨(some 15), none, (.mv (.tmp 59))⟩ .done))))
 (.seq (.seq
 (.reg false (.op false ⟨(some 60), none, (.mv (.tmp 13))⟩
  (.op false ⟨(some 61), none, (.mv (.tmp 15))⟩
  (.op false ⟨(some 62), none, (.call f_pager_Pager_kind [(.tmp 60), (.tmp 61)])⟩
  (.op false ⟨(some 63), none, (.bin .neq (.tmp 62) (.const (.int .i64 0)))⟩ .done))))) (.cond (.tmp 63)
 (.seq
 (.reg false (.op false ⟨(some 10), none, (.mv (.const (.pointer none)))⟩
  (.op false ⟨(some 11), none, (.mv (.const (.int .i64 2)))⟩ .done))) .ret) .skip))
 (.reg false (.op false ⟨(some 64), none, (.mv (.tmp 13))⟩
  (.op false ⟨(some 65), none, (.nilc (.tmp 64))⟩
  (.op false ⟨(some 66), none, (.fld 3 (.tmp 65))⟩
  (.op false ⟨(some 67), none, (.ld none (.tmp 66))⟩
  (.op false ⟨(some 68), none, (.mv (.tmp 15))⟩
  (.op false ⟨(some 69), none, (.mv (.tmp 2))⟩
  (.op false ⟨(some 70), none, (.bin .sub (.tmp 68) (.tmp 69))⟩
  (.op false ⟨(some 71), none, (.idx 1 (.tmp 67) (.tmp 70))⟩
  (.op false ⟨none, none, (.st 1 (.tmp 71) (.const (.int .i64 2)))⟩ .done)))))))))))))
 (.reg false (.op false ⟨(some 72), none, (.bin .add (.tmp 56) (.const (.int .i64 1)))⟩
  (.op false ⟨(some 56), none, (.mv (.tmp 72))⟩ .done)))))))))
 (.seq
 (.reg false (.op false ⟨(some 73), none, (.mv (.tmp 13))⟩
  (.op false ⟨(some 10), none, (.mv (.tmp 73))⟩
  (.op false ⟨(some 11), none, (.mv (.const (.int .i64 0)))⟩ .done)))) .ret))))))⟩

set_option maxRecDepth 4000 in
set_option maxHeartbeats 1000000 in
theorem pnew_ok {P : Program} {f f1 f2 f3 : FuncId} (hd : dec P f = some (g_pager_New f1 f2 f3)) (h1 : DSizeOk P f1) (h2 : CHeldOk P f2) (h3 : KindOk P f3) : PNewOk P f := by
  intro d syn dv cv lv LC LD m frm n live hD hC hm1 hm2 hn hfn hs8 hnd hlv hl
  obtain ⟨bd, rfl⟩ : ∃ bd, dv = .pointer (some ⟨bd, 0, none⟩) := let ⟨b, _, _, _, _, _, _, h, _⟩ := hD; ⟨b, h⟩
  obtain ⟨bc, rfl⟩ : ∃ bc, cv = .pointer (some ⟨bc, 0, none⟩) := let ⟨b, _, _, _, _, _, _, _, _, h, _⟩ := hC; ⟨b, h⟩
  obtain ⟨xs, hxs⟩ : ∃ xs, xs = live.map fun k => ((frm + k : Nat) : Int) := ⟨_, rfl⟩
  rw [← hxs] at hl
  have hll := hl.len_le
  have hxl : xs.length = live.length := by rw [hxs, List.length_map]
  refine GCall_of hd (Nat.le_of_ble_eq_true rfl) ?_
  show gwp P _ _ _ _ _
  (apply w_sq; apply w_reg; apply w_mvp; rfl; apply w_mvi; rfl; apply w_done0; apply w_sq; apply w_reg; apply w_mvp; rfl)
  have hsz : GRead P f1 [.pointer (some ⟨bd, 0, none⟩)] d LD (.int .i64 syn.length) := h1 hD
  refine w_readP (A := LD) (B := LC) List.perm_append_comm rfl hsz ?_
  have hn0 : syn.length ≠ 0 := by omega
  (apply w_mvi; rfl; apply w_done0; apply w_sq; apply w_block; apply w_sq; apply w_reg; apply w_mvi; rfl; apply w_eql; rfl; rfl; apply w_mvb; rfl; refine w_gdF rfl (by omega) ?_; apply w_gT; rfl; apply w_mvp; rfl; apply w_gT; rfl)
  refine w_callA (A := LC) (B := LD) rfl rfl (h2 hC (fun f hf => by rw [(List.mem_replicate.1 hf).2]; decide)) (fun v d1 L1 hl1 ⟨e1, e2⟩ => ?_)
  subst e1
  have hhl : (heldF ⟨List.replicate m fz, List.range m, 0, 0, 0⟩).length = m := by simp [heldF]
  obtain ⟨ah, ch, rfl⟩ := RSl.val e2
  rw [hhl] at e2 ⊢
  have hm0 : m ≠ 0 := by omega
  have hC1 := hC.mono hl1
  have hD1 := hD.mono hl1
  have hl' := RSl.mono (R := RInt) mono_int hl hl1
  (apply w_gT; rfl; apply w_len; rfl; apply w_gT; rfl; apply w_eql; rfl; rfl; apply w_pickFb; rfl; rfl; apply w_mvb; rfl; apply w_done0; refine w_ifdF rfl (by omega) ?_; apply w_sq; apply w_reg; apply w_mvi; rfl; apply w_lss; rfl; rfl; apply w_mvb; rfl; refine w_gdF rfl (by omega) ?_; apply w_gT; rfl; apply w_mvi; rfl; apply w_gT; rfl; apply w_lss; rfl; rfl; apply w_pickFb; rfl; rfl; apply w_mvb; rfl; refine w_gdF rfl (by omega) ?_; apply w_gT; rfl; apply w_mvi; rfl; apply w_gT; rfl; apply w_mvi; rfl; apply w_gT; rfl; apply w_gtr; rfl; rfl; apply w_pickFb; rfl; rfl; apply w_mvb; rfl; refine w_gdF rfl (by omega) ?_; apply w_gT; rfl; apply w_mvi; rfl; apply w_gT; rfl; apply w_mvi; rfl; apply w_gT; rfl; apply w_mvi; rfl; apply w_gT; rfl; apply w_sub; rfl; rfl; omega; omega; apply w_gT; rfl; apply w_gtr; rfl; rfl; apply w_pickFb; rfl; rfl; apply w_mvb; rfl; apply w_done0; refine w_ifdF rfl (by omega) ?_; apply w_skip; apply w_sq; apply w_reg; apply w_mvp; rfl; apply w_mvp; rfl; apply w_mvi; rfl; apply w_mvi; rfl)
  refine w_mks (n := n) (c := n) rfl rfl (Nat.le_refl _) (by omega) (by omega) (fun bk T0 => ?_)
  refine w_mmk kI (id : Value → Value) (fun mb => ?_)
  refine w_bld (cs := [.pointer (some ⟨bd, 0, none⟩), .pointer (some ⟨bc, 0, none⟩), .int .i64 frm, .slice (some ⟨bk, 0, none⟩) n n, .map (some mb), .int .i64 0, .int .i64 0]) rfl ?_
  refine w_boxa rfl (fun b T => ?_)
  have hg : GRow 1 RInt d1 (.slice (some ⟨bk, 0, none⟩) n n) (lives n []) (bx bk T0 (zrow [.int .i64 0] (n * 1))) := GRow.zero rfl (by omega) ⟨rfl, by omega, by omega⟩ (by omega)
  refine w_vs d1 (_ :: bx bk T0 (zrow [.int .i64 0] (n * 1)) :: mpI mb [] 0 :: (L1 ++ LD)) (Vs.perm (List.Perm.cons _ (List.Perm.swap _ _ _))) ?_
  (apply w_mvp; rfl; apply w_done0; apply w_sq; apply w_sq; apply w_reg; apply w_mv; apply w_lenR; rfl; assumption; apply w_mvi; rfl; apply w_done0; apply w_block)
  refine w_loopN (α := Nat × PHeap) (fun x => [(2, .int .i64 frm), (13, .pointer (some ⟨b, 0, none⟩)), (54, lv), (55, .int .i64 xs.length), (56, .int .i64 x.1)])
    (fun x => bx b T [.pointer (some ⟨bd, 0, none⟩), .pointer (some ⟨bc, 0, none⟩), .int .i64 frm, .slice (some ⟨bk, 0, none⟩) n n, .map (some mb), .int .i64 0, .int .i64 0] :: x.2 :: mpI mb [] 0 :: (L1 ++ LD))
    (fun x => x.1 ≤ live.length ∧ GRow 1 RInt d1 (.slice (some ⟨bk, 0, none⟩) n n) (lives n (live.take x.1)) x.2) (fun x => live.length - x.1) (0, bx bk T0 (zrow [.int .i64 0] (n * 1))) ⟨rfl, rfl, rfl, rfl, rfl, trivial⟩ rfl ⟨by simp only; omega, hg⟩ ?_
  rintro ⟨i, hk⟩ ρ ⟨hi, hgi⟩
  simp only at hi hgi ⊢
  have hln := lives_len (n := n) (l := live.take i)
  by_cases e : i < live.length
  · have hin : live[i] < n := hlv _ (List.getElem_mem e)
    have hnot : live[i] ∉ live.take i := fun hm => by
      obtain ⟨j, hj, hjj⟩ := List.getElem_of_mem hm
      rw [List.length_take] at hj
      rw [List.getElem_take] at hjj
      exact List.pairwise_iff_getElem.1 hnd j i (by omega) e (by omega) hjj
    have h0 : (lives n (live.take i)).getD live[i] 0 = 0 := by rw [lives_at, if_neg (fun q => hnot q.2)]
    obtain ⟨b1, T1, l1, c1, cs, q1, rfl, hcl, hcs, hle, -, hset⟩ := GRow.at (by omega) hgi (m := live[i]) (by omega)
    rw [hln] at q1
    cases q1
    have e' : i < xs.length := by omega
    have hxi : xs[i] = ((frm + live[i] : Nat) : Int) := by subst hxs; simp
    have hnx : lives n (live.take (i + 1)) = (lives n (live.take i)).set live[i] 2 := by rw [List.take_succ_eq_append_getElem e, lives_snoc]
    have hkv : kindV frm (lives n (live.take i)) xs[i] = 0 := by
      rw [hxi]
      unfold kindV
      rw [hln, if_pos (by omega), show (((frm + live[i] : Nat) : Int) - (frm : Int)).toNat = live[i] by omega, h0]
    have hgl : GRow 1 RInt d1 (.slice (some ⟨bk, 0, none⟩) (lives n (live.take i)).length n) (lives n (live.take i)) (bx bk T1 l1) := by rw [hln]; exact hgi
    have hkr := fun {b : Nat} {T : TypeId} {x0 x1 x4 x5 x6 : Value} => h3 (k := xs[i]) (frm := frm) (b := b) (T := T) (x0 := x0) (x1 := x1) (x4 := x4) (x5 := x5) (x6 := x6) hgl (by omega)
    rw [hln, hkv] at hkr
    (apply w_sq; apply w_reg; apply w_lss; rfl; rfl; apply w_done0; apply w_sq; refine w_ifdT rfl (by omega) ?_; apply w_skip; apply w_sq; apply w_block; apply w_sq; apply w_reg; refine w_idxR (sz := 1) (R := RInt) (by rfl) (by assumption) (by rfl) rfl (by omega) ?_; rintro _ _ _ _ _ ⟨rfl, _, _⟩; apply w_ld; rfl; exact hc_ds0 (by assumption) rfl; apply w_mvi; rfl; apply w_done0; apply w_sq; apply w_sq; apply w_reg; apply w_mvp; rfl; apply w_mvi; rfl)
    refine w_read (A := [_, _]) (B := _ :: (L1 ++ LD)) rfl rfl hkr ?_
    (apply w_neq; rfl; rfl; apply w_done0; refine w_ifdF rfl (by omega) ?_; apply w_skip; apply w_reg; apply w_mvp; rfl; apply w_nilc; rfl; apply w_fld; rfl; apply w_ld; rfl; exact hc_i 0 rfl rfl; apply w_mvi; rfl; apply w_mvi; rfl; apply w_sub; rfl; rfl; omega; omega)
    refine w_idxN live[i] rfl rfl (by rw [hxi]; omega) hin ?_
    skip
    refine w_stE 1 (patch l1 (live[i] * 1) [.int .i64 2]) rfl rfl rfl rfl hle rfl rfl ?_
    (apply w_done0; apply w_reg; apply w_add; rfl; rfl; omega; omega; apply w_mvi; rfl; apply w_done0)
    exact ⟨(i + 1, _), by simp only; omega, ⟨rfl, rfl, rfl, rfl, rfl, trivial⟩, rfl, rfl, e, by rw [hnx]; exact hset [.int .i64 2] 2 rfl ⟨rfl, by omega, by omega⟩⟩
  · have : i = live.length := by omega
    subst this
    rw [List.take_length] at hgi hln
    have e' : ¬ live.length < xs.length := by omega
    (apply w_sq; apply w_reg; apply w_lss; rfl; rfl; apply w_done0; apply w_sq; refine w_ifdF rfl (by omega) ?_; apply w_exit; apply w_sq; apply w_reg; apply w_mvp; rfl; apply w_mvp; rfl; apply w_mvi; rfl; apply w_done0; apply w_ret)
    have hP := Pg.mk (d := d1) (s := ⟨frm, lives n live, fun _ => [], syn, 0, 0⟩) (b := b) (T := T) (cv := .pointer (some ⟨bc, 0, none⟩)) (bk := bk) (cp := n) (mb := mb) (clk := 0) (c := ⟨List.replicate m fz, List.range m, 0, 0, 0⟩) (LC := L1) (LD := LD) (bd := bd) hln
      hgi (ms := []) (fun j hj hj1 => by
        have h0 : (lives n live).getD j 0 = 1 := hj1
        rw [lives_at] at h0
        split at h0 <;> cases h0) hC1 hD1 (CacheOk.new hm1 hm2) (Good.new hn hfn hs8)
    exact fin2 rfl rfl (List.Sublist.refl _) ⟨_, rfl, hl1, hP⟩
end Go.Gk.Pgr
end

section
namespace Go.Gk.Pgr
open Go Go.Gk Go.Gk.Dev Go.Gk.Cch Go.Gk.Node
attribute [local irreducible] gwp gws xwp

theorem Le.dcs {d : PHeap} {b : Nat} {T : TypeId} {l : List Value} (h : Le (bx b T l) d) : DCs d b 0 l := ⟨_, _, _, h b _ (sg_self _ _), fun i u hi => by simpa using hi⟩
theorem Vs.freeze3 {d a b c : PHeap} {L : List PHeap} : Vs d (a :: b :: c :: L) (join (join (join d a) b) c) L := Vs.freeze.trans (Vs.freeze.trans Vs.freeze)
theorem GRow.intAny {d d' : PHeap} {v : Value} {xs : List Int} {h : PHeap} (o : GRow 1 RInt d v xs h) : GRow 1 RInt d' v xs h := let ⟨cs, h1, h2⟩ := o; ⟨cs, h1, h2⟩
def Mk (d : PHeap) (m : MD) (frm : Nat) (pv v : Value) : Prop := ∃ bm bk cp mq ms clk, v = .pointer (some ⟨bm, 0, none⟩) ∧ DCs d bm 0 [pv, .int .i64 (wr m.round), .slice (some ⟨bk, 0, none⟩) m.kinds.length cp, .map (some mq)] ∧ RSl 1 RInt d (.slice (some ⟨bk, 0, none⟩) m.kinds.length cp) m.kinds ∧
  Le (mpI mq ms clk) d ∧ MapOk d frm m.kinds m.fb ms
theorem Mk.mono {d d' : PHeap} {m : MD} {frm : Nat} {pv v : Value} (h : Mk d m frm pv v) (hl : Le d d') : Mk d' m frm pv v :=
  let ⟨bm, bk, cp, mq, ms, clk, h1, h2, h3, h4, h5⟩ := h
  ⟨bm, bk, cp, mq, ms, clk, h1, h2.mono hl, RSl.mono (R := RInt) mono_int h3 hl, h4.trans hl, h5.mono hl⟩
theorem mark_perm (x a b c : PHeap) (L : List PHeap) : (x :: a :: b :: c :: L).Perm (a :: b :: c :: x :: L) :=
  (List.Perm.swap a x _).trans (List.Perm.cons _ ((List.Perm.swap b x _).trans (List.Perm.cons _ (List.Perm.swap c x _))))
def MarkOk (P : Program) (f : FuncId) : Prop := ∀ {d : PHeap} {s : PD} {dv pv : Value} {L : List PHeap}, Pg d s dv pv L → GCall P f [pv] d L (Ret fun r d' L' => L' = L ∧ Le d d' ∧ Mk d' s.mark s.frm pv r)
def g_pager_Pager_Mark (f_pager_Pager_none f_slices_Clone_int_int f_maps_Clone_map_int_byte_int_byte : Nat) : GFun :=
 ⟨22, [(.tmp 2)],
 (.seq
 (.reg false (.op false ⟨(some 2), none, (.mv (.const (.pointer none)))⟩ .done))
 (.seq (.seq
 (.reg false (.op false ⟨(some 3), none, (.mv (.tmp 0))⟩
  (.op false ⟨(some 4), none, (.call f_pager_Pager_none [(.tmp 3)])⟩ .done))) (.cond (.tmp 4)
 (.seq
 (.reg false (.op false ⟨(some 2), none, (.mv (.const (.pointer none)))⟩ .done)) .ret) .skip))
 (.seq
 (.reg true (.op true ⟨(some 5), none, (.mv (.tmp 0))⟩
  (.op true ⟨(some 6), none, (.mv (.tmp 0))⟩
  (.op true ⟨(some 7), none, (.nilc (.tmp 6))⟩
  (.op true ⟨(some 8), none, (.fld 5 (.tmp 7))⟩
  (.op true ⟨(some 9), none, (.ld none (.tmp 8))⟩
  (.op true ⟨(some 10), none, (.mv (.tmp 0))⟩
  (.op true ⟨(some 11), none, (.nilc (.tmp 10))⟩
  (.op true ⟨(some 12), none, (.fld 3 (.tmp 11))⟩
  (.op true ⟨(some 13), none, (.ld none (.tmp 12))⟩
  (.op true ⟨(some 15), none, (.mv (.tmp 0))⟩
  (.op true ⟨(some 16), none, (.nilc (.tmp 15))⟩
  (.op true ⟨(some 17), none, (.fld 4 (.tmp 16))⟩
  (.op true ⟨(some 18), none, (.ld none (.tmp 17))⟩
  (.op false ⟨(some 14), none, (.call f_slices_Clone_int_int [(.tmp 13)])⟩
  (.op false ⟨(some 19), none, (.call f_maps_Clone_map_int_byte_int_byte [(.tmp 18)])⟩
  (.op true ⟨(some 20), none, (.bld [(0, 1), (1, 1), (2, 1), (3, 1)] [(.pointer none), (.int .i64 0), (.slice none 0 0), (.map none)] [(0, (.tmp 5)), (1, (.tmp 9)), (2, (.tmp 14)), (3, (.tmp 19))])⟩
  (.op false ⟨(some 21), none, (.box (.tmp 20))⟩
  (.bar (.op true ⟨(some 2), none, (.mv (.tmp 21))⟩ .done)))))))))))))))))))) .ret)))⟩

set_option maxRecDepth 4000 in
set_option maxHeartbeats 1000000 in
theorem mark_ok {P : Program} {f f1 f2 f3 : FuncId} (hd : dec P f = some (g_pager_Pager_Mark f1 f2 f3)) (h1 : PNoneOk P f1) (h2 : CloneOk RInt 8 P f2) (h3 : MapCloneOk P f3) : MarkOk P f := by
  intro d s dv pv L hp
  obtain ⟨b, T, cv, bk, cp, hk, mb, ms, clk, c, LC, LD, bd, rfl, rfl, rfl, hg, hm, hC, hD, hc, hG⟩ := hp
  have hlen := hG.len
  have hone := hG.one
  refine GCall_of hd (Nat.le_of_ble_eq_true rfl) ?_
  show gwp P _ _ _ _ _
  (apply w_sq; apply w_reg; apply w_mvp; rfl; apply w_done0; apply w_sq; apply w_sq; apply w_reg; apply w_mvp; rfl)
  refine w_read (A := [_]) (B := _ :: _ :: (LC ++ LD)) rfl rfl h1 ?_
  (apply w_done0; apply w_ifF; rfl; apply w_skip; apply w_sq)
  refine w_drawnA [_] (hk :: mpI mb ms clk :: (LC ++ LD)) rfl ?_
  (apply w_mvp; rfl; apply w_mvp; rfl; apply w_nilc; rfl; apply w_fld; rfl; apply w_ld; rfl; exact hc_i 0 rfl rfl; apply w_mvp; rfl; apply w_nilc; rfl; apply w_fld; rfl; apply w_ld; rfl; exact hc_i 0 rfl rfl; apply w_mvp; rfl; apply w_nilc; rfl; apply w_fld; rfl; apply w_ld; rfl; exact hc_i 0 rfl rfl)
  refine w_callB (Q := fun v L' => ∃ h, L' = [h] ∧ GRow 1 RInt d v s.kinds h) rfl (fun d1 hl1 hk1 => ?_) (fun v L1 ⟨h, e1, hrow⟩ => ?_)
  · exact GCall.monoR (h2 (xs := s.kinds) (GRow.rsl (R := RInt) hg mono_int (by omega) hl1 (hk1 _ (List.mem_cons_self ..))) (by omega)) (fun r d' L' _ ⟨q1, h, q2, q3⟩ => ⟨d', L', Vs.refl _ _, q1, h, q2, GRow.intAny q3⟩)
  subst e1
  skip
  refine w_callB (Q := fun v L' => ∃ q, v = .map (some q) ∧ L' = [mpI q ms clk]) rfl (fun d1 hl1 hk1 => h3 (hk1 _ (by simp))) (fun v1 L1 ⟨q, e1, e2⟩ => ?_)
  subst e1; subst e2
  obtain ⟨b1, T1, l1, c1, cs, q1, -, -, -, -, -, -⟩ := GRow.at (m := 0) (by omega) hrow (by omega)
  subst q1
  refine w_bld (cs := [.pointer (some ⟨b, 0, none⟩), .int .i64 (wr s.round), .slice (some ⟨b1, 0, none⟩) s.kinds.length c1, .map (some q)]) rfl ?_
  refine w_boxa rfl (fun bm Tm => ?_)
  (apply w_bar; apply w_mvp; rfl; apply w_done0; apply w_ret)
  refine finV [.pointer (some ⟨bm, 0, none⟩)] ⟨rfl, trivial⟩ (L' := bx b T [.pointer (some ⟨bd, 0, none⟩), cv, .int .i64 s.frm, .slice (some ⟨bk, 0, none⟩) s.kinds.length cp, .map (some mb), .int .i64 (wr s.round), .int .i64 (wr s.tc)] :: hk :: mpI mb ms clk :: (LC ++ LD))
    ((Vs.perm (mark_perm _ _ _ _ _)).trans Vs.freeze3) ⟨rfl, ?_, bm, b1, c1, q, ms, clk, rfl, ?_, ?_, ?_, ?_⟩
  · exact ((Le.join_left _ _).trans (Le.join_left _ _)).trans (Le.join_left _ _)
  · exact Le.dcs (((Le.join_right _ _).trans (Le.join_left _ _)).trans (Le.join_left _ _))
  · exact GRow.rsl (R := RInt) (sz := 1) hrow mono_int (by omega) (((Le.join_left _ _).trans (Le.join_left _ _)).trans (Le.join_left _ _)) (Le.join_right _ _)
  · exact (Le.join_right _ _).trans (Le.join_left _ _)
  · exact hm.mono (((Le.join_left _ _).trans (Le.join_left _ _)).trans (Le.join_left _ _))

theorem back_vs {d a b x e f : PHeap} {R : List PHeap} : Vs d (a :: b :: x :: e :: f :: R) d (x :: b :: a :: R) :=
  (Vs.drop (.cons_cons _ (.cons_cons _ (.cons_cons _ (.cons _ (.cons _ (List.Sublist.refl _))))))).trans (Vs.perm ((List.Perm.cons _ (List.Perm.swap x b R)).trans ((List.Perm.swap x a (b :: R)).trans (List.Perm.cons _ (List.Perm.swap b a R)))))
def BackOk (P : Program) (f : FuncId) : Prop := ∀ {d : PHeap} {s : PD} {dv pv v : Value} {L : List PHeap} {m : MD}, Pg d s dv pv L → Mk d m s.frm pv v → (wr m.round = wr s.round → Og m.kinds s.kinds ∧ ∀ i, 0 ≤ m.kinds.getD i 0 ∧ m.kinds.getD i 0 ≤ 3) →
  GCall P f [pv, v] d L (Ret fun r d' L' => d' = d ∧ (wr m.round = wr s.round → r = .int .i64 0 ∧ Pg d (s.back m) dv pv L') ∧ (wr m.round ≠ wr s.round → r = .int .i64 2 ∧ Pg d s dv pv L'))
def g_pager_Pager_Back (f_pager_Pager_none f_slices_Clone_int_int f_maps_Clone_map_int_byte_int_byte : Nat) : GFun :=
 ⟨46, [(.tmp 4)],
 (.seq
 (.reg false (.op false ⟨(some 4), none, (.mv (.const (.int .i64 0)))⟩ .done))
 (.seq (.block 0
 (.seq
 (.reg false (.op false ⟨(some 6), none, (.mv (.tmp 0))⟩
  (.op false ⟨(some 7), none, (.call f_pager_Pager_none [(.tmp 6)])⟩
  (.op false ⟨(some 8), none, (.mv (.tmp 7))⟩
  (.op false ⟨(some 9), (some (8, false)), (.mv (.tmp 1))⟩
  (.op false ⟨(some 10), (some (8, false)), (.eqp false (.tmp 9) (.const (.pointer none)))⟩
  (.op false ⟨(some 11), none, (.pick (.tmp 8) (.const (.bool true)) (.tmp 10))⟩
  (.op false ⟨(some 5), none, (.mv (.tmp 11))⟩ .done)))))))) (.cond (.tmp 5)
 (.seq
 (.reg false (.op false ⟨(some 4), none, (.mv (.const (.int .i64 1)))⟩ .done)) .ret)
 (.seq
 (.reg true (.op true ⟨(some 13), none, (.mv (.tmp 1))⟩
  (.op true ⟨(some 14), none, (.nilc (.tmp 13))⟩
  (.op true ⟨(some 15), none, (.fld 0 (.tmp 14))⟩
  (.op true ⟨(some 16), none, (.ld none (.tmp 15))⟩
  (.op true ⟨(some 17), none, (.mv (.tmp 0))⟩
  (.op true ⟨(some 18), none, (.eqp true (.tmp 16) (.tmp 17))⟩
  (.op true ⟨(some 19), none, (.mv (.tmp 18))⟩
  (.op true ⟨(some 20), (some (19, false)), (.mv (.tmp 1))⟩
  (.op true ⟨(some 21), (some (19, false)), (.nilc (.tmp 20))⟩
  (.op true ⟨(some 22), (some (19, false)), (.fld 1 (.tmp 21))⟩
  (.op true ⟨(some 23), (some (19, false)), (.ld none (.tmp 22))⟩
  (.op true ⟨(some 24), (some (19, false)), (.mv (.tmp 0))⟩
  (.op true ⟨(some 25), (some (19, false)), (.nilc (.tmp 24))⟩
  (.op true ⟨(some 26), (some (19, false)), (.fld 5 (.tmp 25))⟩
  (.op true ⟨(some 27), (some (19, false)), (.ld none (.tmp 26))⟩
  (.op true ⟨(some 28), (some (19, false)), (.bin .neq (.tmp 23) (.tmp 27))⟩
  (.op true ⟨(some 29), none, (.pick (.tmp 19) (.const (.bool true)) (.tmp 28))⟩
  (.op true ⟨(some 12), none, (.mv (.tmp 29))⟩ .done))))))))))))))))))) (.cond (.tmp 12)
 (.seq
 (.reg false (.op false ⟨(some 4), none, (.mv (.const (.int .i64 2)))⟩ .done)) .ret) .skip)))))
 (.seq
 (.reg true (.op true ⟨(some 30), none, (.mv (.tmp 0))⟩
  (.op true ⟨(some 31), none, (.mv (.tmp 0))⟩
  (.op true ⟨(some 32), none, (.mv (.tmp 1))⟩
  (.op true ⟨(some 33), none, (.nilc (.tmp 32))⟩
  (.op true ⟨(some 34), none, (.fld 2 (.tmp 33))⟩
  (.op true ⟨(some 35), none, (.ld none (.tmp 34))⟩
  (.op true ⟨(some 37), none, (.mv (.tmp 1))⟩
  (.op true ⟨(some 38), none, (.nilc (.tmp 37))⟩
  (.op true ⟨(some 39), none, (.fld 3 (.tmp 38))⟩
  (.op true ⟨(some 40), none, (.ld none (.tmp 39))⟩
  (.op false ⟨(some 36), none, (.call f_slices_Clone_int_int [(.tmp 35)])⟩
  (.op false ⟨(some 41), none, (.call f_maps_Clone_map_int_byte_int_byte [(.tmp 40)])⟩
  (.op true ⟨(some 42), none, (.nilc (.tmp 30))⟩
  (.op true ⟨(some 43), none, (.fld 3 (.tmp 42))⟩
  (.op false ⟨none, none, (.st 1 (.tmp 43) (.tmp 36))⟩
  (.op true ⟨(some 44), none, (.nilc (.tmp 31))⟩
  (.op true ⟨(some 45), none, (.fld 4 (.tmp 44))⟩
  (.op false ⟨none, none, (.st 1 (.tmp 45) (.tmp 41))⟩ .done)))))))))))))))))))
 (.seq
 (.reg false (.op false ⟨(some 4), none, (.mv (.const (.int .i64 0)))⟩ .done)) .ret))))⟩

set_option maxRecDepth 4000 in
set_option maxHeartbeats 1000000 in
theorem back_ok {P : Program} {f f1 f2 f3 : FuncId} (hd : dec P f = some (g_pager_Pager_Back f1 f2 f3)) (h1 : PNoneOk P f1) (h2 : CloneOk RInt 8 P f2) (h3 : MapCloneOk P f3) : BackOk P f := by
  intro d s dv pv v L m hp hmk hor
  have hp0 := hp
  obtain ⟨b, T, cv, bk, cp, hk, mb, ms, clk, c, LC, LD, bd, rfl, rfl, rfl, hg, hm, hC, hD, hc, hG⟩ := hp
  obtain ⟨bm, bmk, mcp, mq, mms, mclk, rfl, hmd, hmr, hml, hmm⟩ := hmk
  have hlen := hG.len
  have hone := hG.one
  refine GCall_of hd (Nat.le_of_ble_eq_true rfl) ?_
  show gwp P _ _ _ _ _
  (apply w_sq; apply w_reg; apply w_mvi; rfl; apply w_done0; apply w_sq; apply w_block; apply w_sq; apply w_reg; apply w_mvp; rfl)
  refine w_read (A := [_]) (B := _ :: _ :: (LC ++ LD)) rfl rfl h1 ?_
  (apply w_mvb; rfl; apply w_gT; rfl; apply w_mvp; rfl; apply w_gT; rfl; apply w_eqpS; rfl; rfl; apply w_pickFb; rfl; rfl; apply w_mvb; rfl; apply w_done0; apply w_ifF; rfl; apply w_sq)
  refine w_drawnA [_] (hk :: mpI mb ms clk :: (LC ++ LD)) rfl ?_
  (apply w_mvp; rfl; apply w_nilc; rfl; apply w_fld; rfl; apply w_ld; rfl; exact hc_ds (by assumption) rfl; apply w_mvp; rfl)
  refine w_eqpE rfl rfl ?_
  by_cases hw : wr m.round = wr s.round
  · obtain ⟨hog, hrng⟩ := hor hw
    have hol := hog.1
    (apply w_mvb; rfl; apply w_gT; rfl; apply w_mvp; rfl; apply w_gT; rfl; apply w_nilc; rfl; apply w_gT; rfl; apply w_fld; rfl; apply w_gT; rfl; apply w_ld; rfl; exact hc_ds (by assumption) rfl; apply w_gT; rfl; apply w_mvp; rfl; apply w_gT; rfl; apply w_nilc; rfl; apply w_gT; rfl; apply w_fld; rfl; apply w_gT; rfl; apply w_ld; rfl; exact hc_i 0 rfl rfl; apply w_gT; rfl; apply w_neq; rfl; rfl; apply w_pickFb; rfl; rfl; apply w_mvb; rfl; apply w_done; refine w_ifdF rfl (by omega) ?_; apply w_skip; apply w_sq)
    refine w_drawnA [] (bx b T [.pointer (some ⟨bd, 0, none⟩), cv, .int .i64 s.frm, .slice (some ⟨bk, 0, none⟩) s.kinds.length cp, .map (some mb), .int .i64 (wr s.round), .int .i64 (wr s.tc)] :: hk :: mpI mb ms clk :: (LC ++ LD)) rfl ?_
    (apply w_mvp; rfl; apply w_mvp; rfl; apply w_mvp; rfl; apply w_nilc; rfl; apply w_fld; rfl; apply w_ld; rfl; exact hc_ds (by assumption) rfl; apply w_mvp; rfl; apply w_nilc; rfl; apply w_fld; rfl; apply w_ld; rfl; exact hc_ds (by assumption) rfl)
    refine w_callB (Q := fun v L' => ∃ h, L' = [h] ∧ GRow 1 RInt d v m.kinds h) rfl (fun d1 hl1 hk1 => GCall.monoR (h2 (xs := m.kinds) (RSl.mono (R := RInt) mono_int hmr hl1) (by omega)) (fun r d' L' _ ⟨q1, h, q2, q3⟩ => ⟨d', L', Vs.refl _ _, q1, h, q2, GRow.intAny q3⟩)) (fun v L1 ⟨h, e1, hrow⟩ => ?_)
    subst e1
    refine w_callB (Q := fun v L' => ∃ q, v = .map (some q) ∧ L' = [mpI q mms mclk]) rfl (fun d1 hl1 hk1 => h3 (hml.trans hl1)) (fun v1 L1 ⟨q, e1, e2⟩ => ?_)
    subst e1; subst e2
    obtain ⟨b1, T1, l1, c1, cs, q1, -, -, -, -, -, -⟩ := GRow.at (m := 0) (by omega) hrow (by omega)
    subst q1
    (apply w_nilc; rfl; apply w_fld; rfl)
    refine w_stE 2 [.pointer (some ⟨bd, 0, none⟩), cv, .int .i64 s.frm, .slice (some ⟨b1, 0, none⟩) m.kinds.length c1, .map (some mb), .int .i64 (wr s.round), .int .i64 (wr s.tc)] rfl rfl rfl rfl (Nat.le_of_ble_eq_true rfl) rfl rfl ?_
    (apply w_nilc; rfl; apply w_fld; rfl)
    refine w_stE 2 [.pointer (some ⟨bd, 0, none⟩), cv, .int .i64 s.frm, .slice (some ⟨b1, 0, none⟩) m.kinds.length c1, .map (some q), .int .i64 (wr s.round), .int .i64 (wr s.tc)] rfl rfl rfl rfl (Nat.le_of_ble_eq_true rfl) rfl rfl ?_
    have hP := Pg.mk (d := d) (s := s.back m) (b := b) (T := T) (cv := cv) (bk := b1) (cp := c1) (mb := q) (ms := mms) (clk := mclk) (c := c) (LC := LC) (LD := LD) (bd := bd) rfl hrow hmm hC hD (hc.to rfl rfl hog)
      ⟨by show 1 ≤ m.kinds.length; omega, by show m.kinds.length ≤ 8192; omega, by show s.frm + m.kinds.length ≤ s.syn.length; rw [hol]; exact hG.inn, hG.syn, hrng⟩
    (apply w_done0; apply w_sq; apply w_reg; apply w_mvi; rfl; apply w_done0; apply w_ret)
    exact finV [.int .i64 0] ⟨rfl, trivial⟩ back_vs ⟨rfl, fun _ => ⟨rfl, hP⟩, fun e => absurd hw e⟩
  · (apply w_mvb; rfl; apply w_gT; rfl; apply w_mvp; rfl; apply w_gT; rfl; apply w_nilc; rfl; apply w_gT; rfl; apply w_fld; rfl; apply w_gT; rfl; apply w_ld; rfl; exact hc_ds (by assumption) rfl; apply w_gT; rfl; apply w_mvp; rfl; apply w_gT; rfl; apply w_nilc; rfl; apply w_gT; rfl; apply w_fld; rfl; apply w_gT; rfl; apply w_ld; rfl; exact hc_i 0 rfl rfl; apply w_gT; rfl; apply w_neq; rfl; rfl; apply w_pickFb; rfl; rfl; apply w_mvb; rfl; apply w_done; refine w_ifdT rfl (by omega) ?_; apply w_sq; apply w_reg; apply w_mvi; rfl; apply w_done0; apply w_ret)
    exact fin1 rfl (List.Sublist.refl _) ⟨rfl, fun e => absurd e hw, fun _ => ⟨rfl, hp0⟩⟩
end Go.Gk.Pgr
end

section
namespace Go.Gk.Cch
open Go Go.Gk Go.Gk.Dev
attribute [local irreducible] gwp gws xwp

def fillL (b : UInt8) (i : Nat) : Sec := List.replicate i b ++ List.replicate (256 - i) 0
theorem fillL_len (b : UInt8) {i : Nat} (h : i ≤ 256) : (fillL b i).length = 256 := by simp [fillL]; omega
theorem fillL_set (b : UInt8) {i : Nat} (h : i < 256) : (fillL b i).set i b = fillL b (i + 1) := by
  unfold fillL
  rw [List.set_append_right _ _ (by simp), List.length_replicate, Nat.sub_self, show 256 - i = (256 - (i + 1)) + 1 by omega, List.replicate_succ, List.set_cons_zero, List.replicate_succ' (n := i), List.append_assoc]
  rfl
def FilledOk (P : Program) (f : FuncId) : Prop := ∀ {d : PHeap} {b : UInt8}, GCall P f [byteV b, .slice none 0 0] d [] (Ret fun r d' L' => L' = [] ∧ RBytes d' r (List.replicate 256 b))
def g_thimblelaw15_Filled : GFun :=
 ⟨22, [(.tmp 4)],
 (.seq
 (.reg false (.op false ⟨(some 4), none, (.mv (.const (.slice none 0 0)))⟩ .done))
 (.seq
 (.reg false (.op false ⟨(some 7), none, (.mks 1 1 [(.int .u8 0)] (.const (.int .i64 256)) (.const (.int .i64 256)))⟩
  (.op false ⟨(some 5), none, (.mv (.tmp 7))⟩ .done)))
 (.seq (.seq
 (.reg false (.op false ⟨(some 8), none, (.mv (.tmp 5))⟩
  (.op false ⟨(some 9), none, (.len (.tmp 8))⟩
  (.op false ⟨(some 10), none, (.mv (.const (.int .i64 0)))⟩ .done)))) (.block 0 (.loop
 (.seq
 (.reg false (.op false ⟨(some 11), none, (.bin .lss (.tmp 10) (.tmp 9))⟩ .done))
 (.seq (.cond (.tmp 11) .skip (.exit 0))
 (.seq (.block 1
 (.seq
 (.reg false (.op false ⟨(some 12), none, (.mv (.tmp 10))⟩
  (.op false ⟨(some 6), none, (.mv (.tmp 12))⟩ .done)))
 (.reg false (.op false ⟨(some 13), none, (.mv (.tmp 5))⟩
  (.op false ⟨(some 14), none, (.mv (.tmp 6))⟩
  (.op false ⟨(some 15), none, (.mv (.tmp 0))⟩
  (.op false ⟨(some 16), none, (.idx 1 (.tmp 13) (.tmp 14))⟩
  (.op false ⟨none, none, (.st 1 (.tmp 16) (.tmp 15))⟩ .done))))))))
 (.reg false (.op false ⟨(some 17), none, (.bin .add (.tmp 10) (.const (.int .i64 1)))⟩
  (.op false ⟨(some 10), none, (.mv (.tmp 17))⟩ .done)))))))))
 (.seq
 (.reg false (.op false ⟨(some 18), none, (.mv (.tmp 5))⟩
  (.op false ⟨(some 19), none, (.mv (.tmp 1))⟩
  (.op false ⟨(some 20), none, (.mop (.cpy 1 (.tmp 18) (.tmp 19)))⟩ .done))))
 (.seq
 (.reg false (.op false ⟨(some 21), none, (.mv (.tmp 5))⟩
  (.op false ⟨(some 4), none, (.mv (.tmp 21))⟩ .done))) .ret)))))⟩

theorem filled_ok {P : Program} {f : FuncId} (hd : dec P f = some g_thimblelaw15_Filled) : FilledOk P f := by
  intro d b
  refine GCall_of hd (Nat.le_of_ble_eq_true rfl) ?_
  show gwp P _ _ _ _ _
  (apply w_sq; apply w_reg; apply w_mvs; rfl; apply w_done0; apply w_sq; apply w_reg)
  refine w_mks (n := 256) (c := 256) rfl rfl (Nat.le_refl _) (by omega) (by omega) (fun bb T => ?_)
  (apply w_mvs; rfl; apply w_done0; apply w_sq; apply w_sq; apply w_reg; apply w_mvs; rfl; apply w_len; rfl; apply w_mvi; rfl; apply w_done0; apply w_block)
  refine w_loopS (α := Nat × PHeap) (fun x => [(0, byteV b), (1, .slice none 0 0), (5, .slice (some ⟨bb, 0, none⟩) 256 256), (9, .int .i64 256), (10, .int .i64 x.1)])
    (fun x d' L' => d' = d ∧ x.1 ≤ 256 ∧ L' = [x.2] ∧ GRow 1 RByte d (.slice (some ⟨bb, 0, none⟩) 256 256) (fillL b x.1) x.2) (fun x => 256 - x.1) (0, bx bb T (zrow [.int .u8 0] (256 * 1))) ⟨rfl, rfl, rfl, rfl, rfl, trivial⟩
    ⟨rfl, by omega, rfl, GRow.zero (R := RByte) (x := (0 : UInt8)) rfl (by omega) rfl (by omega)⟩ ?_
  rintro ⟨i, h⟩ ρ d' L' ⟨rfl, hi, rfl, hg⟩
  simp only at hi hg ⊢
  by_cases e : i < 256
  · have hfl := fillL_len b (i := i) (by omega)
    have hg' : GRow 1 RByte d' (.slice (some ⟨bb, 0, none⟩) (fillL b i).length 256) (fillL b i) h := by rw [hfl]; exact hg
    obtain ⟨b1, T1, l1, c1, cs, q1, rfl, hcl, hcs, hle, hr, hset⟩ := GRow.at (by omega) hg' (show i < (fillL b i).length by omega)
    cases q1
    (apply w_sq; apply w_reg; apply w_lss; rfl; rfl; apply w_done0; apply w_sq; refine w_ifdT rfl (by omega) ?_; apply w_skip; apply w_sq; apply w_block; apply w_sq; apply w_reg; apply w_mvi; rfl; apply w_mvi; rfl; apply w_done0; apply w_reg; apply w_mvs; rfl; apply w_mvi; rfl; apply w_mvi; rfl; refine w_idxN _ rfl rfl rfl (by omega) ?_)
    refine w_stE 0 (patch l1 (i * 1) [byteV b]) rfl rfl rfl rfl (by omega) rfl rfl ?_
    (apply w_done0; apply w_reg; apply w_add; rfl; rfl; omega; omega; apply w_mvi; rfl; apply w_done0)
    refine ⟨(i + 1, _), by simp only; omega, ⟨rfl, rfl, rfl, rfl, rfl, trivial⟩, rfl, e, rfl, ?_⟩
    have := hset [byteV b] b rfl rfl
    rw [fillL_set b e, hfl] at this
    exact this
  · (apply w_sq; apply w_reg; apply w_lss; rfl; rfl; apply w_done0; apply w_sq; refine w_ifdF rfl (by omega) ?_; apply w_exit; apply w_sq; apply w_reg; apply w_mvs; rfl; apply w_mvs; rfl)
    refine w_cpy0 rfl rfl rfl ?_
    (apply w_done0; apply w_sq; apply w_reg; apply w_mvs; rfl; apply w_mvs; rfl; apply w_done0; apply w_ret)
    have ei : i = 256 := by omega
    subst ei
    have hf : fillL b 256 = List.replicate 256 b := by unfold fillL; rw [Nat.sub_self]; exact List.append_nil _
    refine finV [.slice (some ⟨bb, 0, none⟩) 256 256] ⟨rfl, trivial⟩ Vs.freeze ⟨rfl, ?_⟩
    rw [← hf]
    exact GRow.rsl (R := RByte) hg mono_byte (by omega) (Le.join_left _ _) (Le.join_right _ _)

def RBool (_ : PHeap) (cs : List Value) (x : Bool) : Prop := cs = [.bool x]
def IntsOk (P : Program) (f : FuncId) : Prop := ∀ {d : PHeap} {v w : Value} {a b : List Int}, RInts d v a → RInts d w b → GPure P f [v, w] d (.bool (decide (a = b)))
def g_thimbleref17_Ints : GFun :=
 ⟨26, [(.tmp 4)],
 (.seq
 (.reg false (.op false ⟨(some 4), none, (.mv (.const (.bool false)))⟩ .done))
 (.seq (.seq
 (.reg false (.op false ⟨(some 6), none, (.mv (.tmp 0))⟩
  (.op false ⟨(some 7), none, (.len (.tmp 6))⟩
  (.op false ⟨(some 8), none, (.mv (.tmp 1))⟩
  (.op false ⟨(some 9), none, (.len (.tmp 8))⟩
  (.op false ⟨(some 10), none, (.bin .neq (.tmp 7) (.tmp 9))⟩ .done)))))) (.cond (.tmp 10)
 (.seq
 (.reg false (.op false ⟨(some 4), none, (.mv (.const (.bool false)))⟩ .done)) .ret) .skip))
 (.seq (.seq
 (.reg false (.op false ⟨(some 5), none, (.mv (.const (.int .i64 0)))⟩ .done)) (.block 0 (.loop
 (.seq (.seq
 (.reg false (.op false ⟨(some 11), none, (.mv (.tmp 5))⟩
  (.op false ⟨(some 12), none, (.mv (.tmp 0))⟩
  (.op false ⟨(some 13), none, (.len (.tmp 12))⟩
  (.op false ⟨(some 14), none, (.bin .lss (.tmp 11) (.tmp 13))⟩ .done))))) (.cond (.tmp 14) .skip (.exit 0)))
 (.seq (.block 1
 (.seq
 (.reg true (.op true ⟨(some 17), none, (.mv (.tmp 0))⟩
  (.op true ⟨(some 18), none, (.mv (.tmp 5))⟩
  (.op true ⟨(some 19), none, (.idx 1 (.tmp 17) (.tmp 18))⟩
  (.op true ⟨(some 20), none, (.ld none (.tmp 19))⟩
  (.op true ⟨(some 21), none, (.mv (.tmp 1))⟩
  (.op true ⟨(some 22), none, (.mv (.tmp 5))⟩
  (.op true ⟨(some 23), none, (.idx 1 (.tmp 21) (.tmp 22))⟩
  (.op true ⟨(some 24), none, (.ld none (.tmp 23))⟩
  (.op true ⟨(some 25), none, (.bin .neq (.tmp 20) (.tmp 24))⟩ .done)))))))))) (.cond (.tmp 25)
 (.seq
 (.reg false (.op false ⟨(some 4), none, (.mv (.const (.bool false)))⟩ .done)) .ret) .skip)))
 (.reg false (.op false ⟨(some 15), none, (.mv (.tmp 5))⟩
  (.op false ⟨(some 16), none, (.bin .add (.tmp 15) (.const (.int .i64 1)))⟩
  (.op false ⟨(some 5), none, (.mv (.tmp 16))⟩ .done)))))))))
 (.seq
 (.reg false (.op false ⟨(some 4), none, (.mv (.const (.bool true)))⟩ .done)) .ret))))⟩

theorem ints_ok {P : Program} {f : FuncId} (hd : dec P f = some g_thimbleref17_Ints) : IntsOk P f := by
  intro d v w a b ha hb
  have ha : RSl 1 RInt d v a := ha
  have hb : RSl 1 RInt d w b := hb
  have la := ha.len_le
  have lb := hb.len_le
  refine GCall_of hd (Nat.le_of_ble_eq_true rfl) ?_
  show gwp P _ _ _ _ _
  by_cases hl : a.length = b.length
  · (apply w_sq; apply w_reg; apply w_mvb; rfl; apply w_done0; apply w_sq; apply w_sq; apply w_reg; apply w_mv; apply w_lenR; rfl; assumption; apply w_mv; apply w_lenR; rfl; assumption; apply w_neq; rfl; rfl; apply w_done0; refine w_ifdF rfl (by omega) ?_; apply w_skip; apply w_sq; apply w_sq; apply w_reg; apply w_mvi; rfl; apply w_done0; apply w_block)
    refine w_loopN (α := Nat) (fun i => [(0, v), (1, w), (5, .int .i64 i)]) (fun _ => []) (fun i => i ≤ a.length ∧ a.take i = b.take i) (fun i => a.length - i) 0 ⟨rfl, rfl, rfl, trivial⟩ rfl ⟨by omega, rfl⟩ ?_
    rintro i ρ ⟨hi, ht⟩
    by_cases e : i < a.length
    · have e' : i < b.length := by omega
      by_cases hv : a[i] = b[i]
      · (apply w_sq; apply w_sq; apply w_reg; apply w_mvi; rfl; apply w_mv; apply w_lenR; rfl; assumption; apply w_lss; rfl; rfl; apply w_done0; refine w_ifdT rfl (by omega) ?_; apply w_skip; apply w_sq; apply w_block; apply w_sq; apply w_drawn; apply w_mv; apply w_mvi; rfl; refine w_idxR (sz := 1) (R := RInt) (by rfl) (by assumption) (by rfl) rfl (by omega) ?_; rintro _ _ _ _ _ ⟨rfl, _, _⟩; apply w_ld; rfl; exact hc_ds0 (by assumption) rfl; apply w_mv; apply w_mvi; rfl; refine w_idxR (sz := 1) (R := RInt) (by rfl) (by assumption) (by rfl) rfl (by omega) ?_; rintro _ _ _ _ _ ⟨rfl, _, _⟩; apply w_ld; rfl; exact hc_ds0 (by assumption) rfl; apply w_neq; rfl; rfl; apply w_done0; refine w_ifdF rfl (by omega) ?_; apply w_skip; apply w_reg; apply w_mvi; rfl; apply w_add; rfl; rfl; omega; omega; apply w_mvi; rfl; apply w_done0)
        exact ⟨i + 1, by omega, ⟨rfl, rfl, rfl, trivial⟩, rfl, rfl, e, by rw [List.take_succ_eq_append_getElem e, List.take_succ_eq_append_getElem e', ht, hv]⟩
      · (apply w_sq; apply w_sq; apply w_reg; apply w_mvi; rfl; apply w_mv; apply w_lenR; rfl; assumption; apply w_lss; rfl; rfl; apply w_done0; refine w_ifdT rfl (by omega) ?_; apply w_skip; apply w_sq; apply w_block; apply w_sq; apply w_drawn; apply w_mv; apply w_mvi; rfl; refine w_idxR (sz := 1) (R := RInt) (by rfl) (by assumption) (by rfl) rfl (by omega) ?_; rintro _ _ _ _ _ ⟨rfl, _, _⟩; apply w_ld; rfl; exact hc_ds0 (by assumption) rfl; apply w_mv; apply w_mvi; rfl; refine w_idxR (sz := 1) (R := RInt) (by rfl) (by assumption) (by rfl) rfl (by omega) ?_; rintro _ _ _ _ _ ⟨rfl, _, _⟩; apply w_ld; rfl; exact hc_ds0 (by assumption) rfl; apply w_neq; rfl; rfl; apply w_done0; refine w_ifdT rfl (by omega) ?_; apply w_sq; apply w_reg; apply w_mvb; rfl; apply w_done0; apply w_ret)
        refine finPb rfl ?_
        rw [decide_eq_false]
        rintro rfl
        exact hv rfl
    · (apply w_sq; apply w_sq; apply w_reg; apply w_mvi; rfl; apply w_mv; apply w_lenR; rfl; assumption; apply w_lss; rfl; rfl; apply w_done0; refine w_ifdF rfl (by omega) ?_; apply w_exit; apply w_sq; apply w_reg; apply w_mvb; rfl; apply w_done0; apply w_ret)
      refine finPb rfl ?_
      rw [List.take_of_length_le (by omega), List.take_of_length_le (by omega)] at ht
      rw [decide_eq_true ht]
  · (apply w_sq; apply w_reg; apply w_mvb; rfl; apply w_done0; apply w_sq; apply w_sq; apply w_reg; apply w_mv; apply w_lenR; rfl; assumption; apply w_mv; apply w_lenR; rfl; assumption; apply w_neq; rfl; rfl; apply w_done0; refine w_ifdT rfl (by omega) ?_; apply w_sq; apply w_reg; apply w_mvb; rfl; apply w_done0; apply w_ret)
    refine finPb rfl ?_
    rw [decide_eq_false]
    rintro rfl
    exact hl rfl

def Cov (d : PHeap) (c : CD) (D : DevD) (cv : Value) (L : List PHeap) : Prop := ∃ dv LC LD, L = LC ++ LD ∧ Ca d c dv cv LC ∧ Dv d D dv LD
theorem Cov.mono {d d' : PHeap} {c : CD} {D : DevD} {cv : Value} {L : List PHeap} (h : Cov d c D cv L) (hl : Le d d') : Cov d' c D cv L :=
  let ⟨dv, LC, LD, h1, h2, h3⟩ := h
  ⟨dv, LC, LD, h1, h2.mono hl, h3.mono hl⟩
theorem Cov.ptr {d : PHeap} {c : CD} {D : DevD} {cv : Value} {L : List PHeap} (h : Cov d c D cv L) : ∃ b, cv = .pointer (some ⟨b, 0, none⟩) := by
  obtain ⟨dv, LC, LD, rfl, ⟨b, -, -, -, -, -, -, -, -, h, -⟩, -⟩ := h
  exact ⟨b, h⟩
section
variable {P : Program} {f : FuncId} {d : PHeap} {c : CD} {D : DevD} {cv : Value} {L : List PHeap} {k : Nat}
theorem CGetOk.cov (h : CGetOk P f) (hc : Cov d c D cv L) (hp : PinB c 4611686018427387904) (hk : k < D.syn.length) :
    GCall P f [cv, .int .i64 k] d L (Ret fun r d' L' => Cov d' (getF (D.cur k) c k).1 D cv L' ∧ GotB d' r (getF (D.cur k) c k).2) := by
  obtain ⟨dv, LC, LD, rfl, h1, h2⟩ := hc
  refine (h h1 h2 hp hk).mono (fun e d' L' hl hr => ?_)
  cases e with
  | returned v => obtain ⟨LC', LD', rfl, g1, g2, g3⟩ := hr; exact ⟨⟨dv, LC', LD', rfl, g1, g2⟩, g3⟩
  | panicked c => exact hr
  | outgrown => exact hr
theorem frameR {args : List Value} {A B : List PHeap} {R R' : Value → PHeap → List PHeap → Prop} (h : GCall P f args d A (Ret R)) (hR : ∀ v d' A', Le d d' → R v d' A' → R' v d' (A' ++ B)) : GCall P f args d (A ++ B) (Ret R') := by
  refine (h.frame B).mono (fun e d' L' hl hr => ?_)
  obtain ⟨A', rfl, hr⟩ := hr
  cases e with
  | returned v => exact hR v d' A' hl hr
  | panicked c => exact hr
  | outgrown => exact hr
theorem CLeaveOk.cov (h : CLeaveOk P f) (hc : Cov d c D cv L) (hp : PinB c 4611686018427387904) :
    GCall P f [cv, .int .i64 k] d L (Ret fun r d' L' => r = .int .i64 (leaveF c k).2 ∧ Cov d' (leaveF c k).1 D cv L') := by
  obtain ⟨dv, LC, LD, rfl, h1, h2⟩ := hc
  exact frameR (h (k := k) h1 hp) (fun v d' A' hl ⟨g1, g2, g3⟩ => ⟨g2, dv, A', LD, rfl, g3.mono (by rw [g1]; exact Le.refl _), h2.mono hl⟩)
theorem CForgetOk.cov (h : CForgetOk P f) (hc : Cov d c D cv L) (hp : ∀ i, findF k c.fr = some i → c.free.length < c.fr.length) :
    GCall P f [cv, .int .i64 k] d L (Ret fun r d' L' => r = .int .i64 (forgetF c k).2 ∧ Cov d' (forgetF c k).1 D cv L') := by
  obtain ⟨dv, LC, LD, rfl, h1, h2⟩ := hc
  exact frameR (h (k := k) h1 hp) (fun v d' A' hl ⟨g1, g2, g3⟩ => ⟨g2, dv, A', LD, rfl, g3.mono (by rw [g1]; exact Le.refl _), h2.mono hl⟩)
theorem CHeldOk.cov (h : CHeldOk P f) (hc : Cov d c D cv L) (hs : ∀ f ∈ c.fr, f.sec ≤ 8192) : GCall P f [cv] d L (Ret fun r d' L' => L' = L ∧ RInts d' r (heldF c)) := by
  obtain ⟨dv, LC, LD, rfl, h1, h2⟩ := hc
  exact frameR (h h1 hs) (fun v d' A' hl ⟨g1, g2⟩ => ⟨by rw [g1], g2⟩)
theorem HitsOk.cov (h : HitsOk P f) (hc : Cov d c D cv L) : GRead P f [cv] d L (.int .i64 (wr c.hits)) := by
  obtain ⟨dv, LC, LD, rfl, h1, h2⟩ := hc
  exact frameR (h h1) (fun v d' A' hl ⟨g1, g2, g3⟩ => ⟨g1, g2, by rw [g3]⟩)
theorem MissesOk.cov (h : MissesOk P f) (hc : Cov d c D cv L) : GRead P f [cv] d L (.int .i64 (wr c.miss)) := by
  obtain ⟨dv, LC, LD, rfl, h1, h2⟩ := hc
  exact frameR (h h1) (fun v d' A' hl ⟨g1, g2, g3⟩ => ⟨g1, g2, by rw [g3]⟩)
end
def bK (k : Nat) : UInt8 := UInt8.ofNat ((k : Int) % 256).toNat
def curK (k : Nat) : Sec := List.replicate 256 (bK k)
theorem lastW_snoc (k : Nat) (w : Nat × Sec) : ∀ l : List (Nat × Sec), lastW k (l ++ [w]) = if w.1 = k then some w.2 else lastW k l
  | [] => by simp only [List.nil_append, lastW]
  | x :: l => by
    rw [List.cons_append, lastW, lastW_snoc k w l, lastW]
    by_cases e : w.1 = k
    · rw [if_pos e, if_pos e]
    · rw [if_neg e, if_neg e]
def opnK (n : Nat) : List (Nat × Sec) := (List.range n).map fun k => (k, curK k)
theorem lastW_opnK (k : Nat) : ∀ n, lastW k (opnK n) = if k < n then some (curK k) else none
  | 0 => rfl
  | n + 1 => by
    have e : opnK (n + 1) = opnK n ++ [(n, curK n)] := by unfold opnK; rw [List.range_succ, List.map_append]; rfl
    rw [e, lastW_snoc, lastW_opnK k n]
    by_cases q : n = k
    · subst q; rw [if_pos rfl, if_pos (by omega)]
    · rw [if_neg q]
      by_cases p : k < n
      · rw [if_pos p, if_pos (by omega)]
      · rw [if_neg p, if_neg (by omega)]
def devK : DevD := ⟨List.replicate 12 zsec, opnK 12⟩
theorem devK_cur {k : Nat} (h : k < 12) : devK.cur k = curK k := by rw [DevD.cur, devK, lastW_opnK, if_pos h]; rfl
def newC (n : Nat) : CD := ⟨List.replicate n fz, List.range n, 0, 0, 0⟩
def OverOk (P : Program) (f : FuncId) : Prop := ∀ {d : PHeap} {n : Nat}, 1 ≤ n → n ≤ 64 → GCall P f [.int .i64 n] d [] (Ret fun r d' L' => Cov d' (newC n) devK r L')
def g_thimblelaw18_over (f_device_New f_thimblelaw15_Filled f_device_Device_Write f_cache_New : Nat) : GFun :=
 ⟨37, [(.tmp 2)],
 (.seq
 (.reg false (.op false ⟨(some 2), none, (.mv (.const (.pointer none)))⟩ .done))
 (.seq
 (.reg false (.op false ⟨(some 8), none, (.call f_device_New [(.const (.int .i64 12))])⟩
  (.op false ⟨(some 7), none, (.mv (.tmp 8))⟩
  (.op false ⟨(some 9), none, (.ext (.tmp 7) 0)⟩
  (.op false ⟨(some 10), none, (.ext (.tmp 7) 1)⟩
  (.op false ⟨(some 3), none, (.mv (.tmp 9))⟩
  (.op false ⟨(some 4), none, (.mv (.tmp 10))⟩ .done)))))))
 (.seq (.seq
 (.reg false (.op false ⟨(some 11), none, (.mv (.tmp 4))⟩
  (.op false ⟨(some 12), none, (.bin .neq (.tmp 11) (.const (.int .i64 0)))⟩
  (.op false ⟨(some 13), none, (.mv (.tmp 12))⟩
  (.op false ⟨(some 14), (some (13, false)), (.mv (.tmp 3))⟩
  (.op false ⟨(some 15), (some (13, false)), (.eqp false (.tmp 14) (.const (.pointer none)))⟩
  (.op false ⟨(some 16), none, (.pick (.tmp 13) (.const (.bool true)) (.tmp 15))⟩ .done))))))) (.cond (.tmp 16)
 (.seq
 (.reg false (.op false ⟨(some 2), none, (.mv (.const (.pointer none)))⟩ .done)) .ret) .skip))
 (.seq (.seq
 (.reg false (.op false ⟨(some 17), none, (.mv (.const (.int .i64 0)))⟩ .done)) (.block 0 (.loop
 (.seq
 (.reg false (.op false ⟨(some 18), none, (.bin .lss (.tmp 17) (.const (.int .i64 12)))⟩ .done))
 (.seq (.cond (.tmp 18) .skip (.exit 0))
 (.seq (.block 1
 (.seq
 (.reg false (.op false ⟨(some 19), none, (.mv (.tmp 17))⟩
  (.op false ⟨(some 5), none, (.mv (.tmp 19))⟩ .done)))
 (.seq
 (.reg false (.op false ⟨(some 20), none, (.mv (.tmp 3))⟩
  (.op false ⟨(some 21), none, (.mv (.tmp 5))⟩
  (.op false ⟨(some 22), none, (.mv (.tmp 5))⟩
  (.op false ⟨(some 23), none, (.cvi .u8 (.tmp 22))⟩
  (.op false ⟨(some 24), none, (.call f_thimblelaw15_Filled [(.tmp 23), (.const (.slice none 0 0))])⟩
  (.op false ⟨(some 25), none, (.call f_device_Device_Write [(.tmp 20), (.tmp 21), (.tmp 24)])⟩
  (.op false ⟨(some 26), none, (.bin .neq (.tmp 25) (.const (.int .i64 0)))⟩ .done)))))))) (.cond (.tmp 26)
 (.seq
 (.reg false (.op false ⟨(some 2), none, (.mv (.const (.pointer none)))⟩ .done)) .ret) .skip))))
 (.reg false (.op false ⟨(some 27), none, (.bin .add (.tmp 17) (.const (.int .i64 1)))⟩
  (.op false ⟨(some 17), none, (.mv (.tmp 27))⟩ .done)))))))))
 (.seq
 (.reg false (.op false ⟨(some 29), none, (.mv (.tmp 3))⟩
  (.op false ⟨(some 30), none, (.mv (.tmp 0))⟩
  (.op false ⟨(some 31), none, (.call f_cache_New [(.tmp 29), (.tmp 30)])⟩
  (.op false ⟨(some 28), none, (.mv (.tmp 31))⟩
  (.op false ⟨(some 32), none, (.ext (.tmp 28) 0)⟩
  (.op false ⟨(some 33), none, (.ext (.tmp 28) 1)⟩
  (.op false ⟨(some 6), none, (.mv (.tmp 32))⟩
  (.op false ⟨(some 4), none, (.mv (.tmp 33))⟩ .done)))))))))
 (.seq (.seq
 (.reg false (.op false ⟨(some 34), none, (.mv (.tmp 4))⟩
  (.op false ⟨(some 35), none, (.bin .neq (.tmp 34) (.const (.int .i64 0)))⟩ .done))) (.cond (.tmp 35)
 (.seq
 (.reg false (.op false ⟨(some 2), none, (.mv (.const (.pointer none)))⟩ .done)) .ret) .skip))
 (.seq
 (.reg false (.op false ⟨(some 36), none, (.mv (.tmp 6))⟩
  (.op false ⟨(some 2), none, (.mv (.tmp 36))⟩ .done))) .ret)))))))⟩

theorem over_ok {P : Program} {f f1 f2 f3 f4 : FuncId} (hd : dec P f = some (g_thimblelaw18_over f1 f2 f3 f4)) (h1 : DevNewOk P f1) (h2 : FilledOk P f2) (h3 : DWriteOk P f3) (h4 : CacheNewOk P f4) : OverOk P f := by
  intro d n hn1 hn2
  refine GCall_of hd (Nat.le_of_ble_eq_true rfl) ?_
  show gwp P _ _ _ _ _
  (apply w_sq; apply w_reg; apply w_mvp; rfl; apply w_done0; apply w_sq; apply w_reg)
  refine w_callA (A := []) (B := []) rfl rfl (h1 (n := 12) (by omega) (by omega)) (fun u d' L' _ ⟨dv, e1, e2, e3⟩ => ?_)
  subst e1; subst e2
  rw [List.append_nil]
  obtain ⟨b, hb⟩ : ∃ b, dv = .pointer (some ⟨b, 0, none⟩) := let ⟨b, _, _, _, _, _, _, h, _⟩ := e3; ⟨b, h⟩
  subst hb
  (apply w_mvu; rfl; apply w_ext; rfl; rfl; apply w_ext; rfl; rfl; apply w_mvp; rfl; apply w_mvi; rfl; apply w_done0; apply w_sq; apply w_sq; apply w_reg; apply w_mvi; rfl; apply w_neq; rfl; rfl; apply w_mvb; rfl; refine w_gdF rfl (by omega) ?_; apply w_gT; rfl; apply w_mvp; rfl; apply w_gT; rfl; apply w_eqpS; rfl; rfl; apply w_pickFb; rfl; rfl; apply w_done0; apply w_ifF; rfl; apply w_skip; apply w_sq; apply w_sq; apply w_reg; apply w_mvi; rfl; apply w_done0; apply w_block)
  refine w_loopS (α := Nat) (fun i => [(0, .int .i64 n), (3, .pointer (some ⟨b, 0, none⟩)), (17, .int .i64 i)]) (fun i d2 L2 => Le d' d2 ∧ i ≤ 12 ∧ Dv d2 ⟨List.replicate 12 zsec, opnK i⟩ (.pointer (some ⟨b, 0, none⟩)) L2) (fun i => 12 - i) 0 ⟨rfl, rfl, rfl, trivial⟩ ⟨Le.refl _, by omega, e3⟩ ?_
  rintro i ρ d2 L2 ⟨hl2, hi, hD⟩
  by_cases e : i < 12
  · (apply w_sq; apply w_reg; apply w_lss; rfl; rfl; apply w_done0; apply w_sq; refine w_ifdT rfl (by omega) ?_; apply w_skip; apply w_sq; apply w_block; apply w_sq; apply w_reg; apply w_mvi; rfl; apply w_mvi; rfl; apply w_done0; apply w_sq; apply w_reg; apply w_mvp; rfl; apply w_mvi; rfl; apply w_mvi; rfl; apply w_cvb; rfl)
    refine w_callA (A := []) (B := L2) rfl rfl h2 (fun w d3 L3 hl3 ⟨g1, g2⟩ => ?_)
    subst g1
    rw [List.nil_append]
    have hln : (opnK i).length = i := by simp [opnK]
    refine w_callA (A := L2) (B := []) (by rw [List.append_nil]) rfl (h3 (k := i) (l := curK i) (hD.mono hl3) (by rw [List.length_replicate]; exact e) g2 List.length_replicate (by rw [hln]; omega)) (fun u d4 L4 _ ⟨q1, q2, q3⟩ => ?_)
    subst q1; subst q2
    rw [List.append_nil]
    (apply w_neq; rfl; rfl; apply w_done0; refine w_ifdF rfl (by omega) ?_; apply w_skip; apply w_reg; apply w_add; rfl; rfl; omega; omega; apply w_mvi; rfl; apply w_done0)
    refine ⟨i + 1, by omega, ⟨rfl, rfl, rfl, trivial⟩, hl2.trans hl3, e, ?_⟩
    have : opnK (i + 1) = opnK i ++ [(i, curK i)] := by unfold opnK; rw [List.range_succ, List.map_append]; rfl
    rw [this]; exact q3
  · have ei : i = 12 := by omega
    subst ei
    (apply w_sq; apply w_reg; apply w_lss; rfl; rfl; apply w_done0; apply w_sq; refine w_ifdF rfl (by omega) ?_; apply w_exit; apply w_sq; apply w_reg; apply w_mvp; rfl; apply w_mvi; rfl)
    refine w_callA (A := L2) (B := []) (by rw [List.append_nil]) rfl (h4 hD (by rw [List.length_replicate]; omega) hn1 hn2) (fun u d4 L4 _ ⟨q1, cv, LC, q2, q3, q4⟩ => ?_)
    subst q1; subst q2; subst q3
    have hcv : Cov d4 (newC n) devK cv (LC ++ L2) := ⟨_, LC, L2, rfl, q4, hD⟩
    obtain ⟨b4, hb4⟩ := hcv.ptr
    subst hb4
    (apply w_mvu; rfl; apply w_ext; rfl; rfl; apply w_ext; rfl; rfl; apply w_mvp; rfl; apply w_mvi; rfl; apply w_done0; apply w_sq; apply w_sq; apply w_reg; apply w_mvi; rfl; apply w_neq; rfl; rfl; apply w_done0; refine w_ifdF rfl (by omega) ?_; apply w_skip; apply w_sq; apply w_reg; apply w_mvp; rfl; apply w_mvp; rfl; apply w_done0; apply w_ret)
    exact fin1 rfl (List.Sublist.refl _) (by rw [List.append_nil]; exact hcv)
end Go.Gk.Cch
end

section
namespace Go.Gk.Pgr
open Go Go.Gk Go.Gk.Dev Go.Gk.Cch Go.Gk.Node
attribute [local irreducible] gwp gws xwp

def DLoseOk (P : Program) (f : FuncId) : Prop := ∀ {d : PHeap} {syn : List Sec} {dv x y z : Value} {LD : List PHeap}, Dv d ⟨syn, []⟩ dv LD → 1 ≤ syn.length →
  GCall P f [dv, x, y, z] d LD (Ret fun r d' L' => d' = d ∧ ∃ dv' LX, r = .tuple #[dv', .int .i64 0] ∧ L' = LX ++ LD ∧ Dv d ⟨syn, []⟩ dv' LX)
def g_device_Device_Lose (f_device_Device_Size : Nat) : GFun :=
 ⟨65, [(.tmp 8), (.tmp 9)],
 (.seq
 (.reg false (.op false ⟨(some 8), none, (.mv (.const (.pointer none)))⟩
  (.op false ⟨(some 9), none, (.mv (.const (.int .i64 0)))⟩ .done)))
 (.seq (.seq
 (.reg false (.op false ⟨(some 14), none, (.mv (.tmp 0))⟩
  (.op false ⟨(some 15), none, (.call f_device_Device_Size [(.tmp 14)])⟩
  (.op false ⟨(some 16), none, (.bin .eql (.tmp 15) (.const (.int .i64 0)))⟩ .done)))) (.cond (.tmp 16)
 (.seq
 (.reg false (.op false ⟨(some 8), none, (.mv (.const (.pointer none)))⟩
  (.op false ⟨(some 9), none, (.mv (.const (.int .i64 1)))⟩ .done))) .ret) .skip))
 (.seq
 (.reg false (.op false ⟨(some 17), none, (.bsl 0 256 z256 [])⟩
  (.op false ⟨(some 18), none, (.mv (.tmp 0))⟩
  (.op false ⟨(some 19), none, (.nilc (.tmp 18))⟩
  (.op false ⟨(some 20), none, (.fld 0 (.tmp 19))⟩
  (.op false ⟨(some 21), none, (.ld none (.tmp 20))⟩
  (.op false ⟨(some 22), none, (.app 256 256 z256 (.tmp 17) (.tmp 21))⟩
  (.op false ⟨(some 23), none, (.bld [(0, 1), (1, 1), (2, 1), (3, 1)] [(.slice none 0 0), (.slice none 0 0), (.int .i64 0), (.int .i64 0)] [(0, (.tmp 22))])⟩
  (.op false ⟨(some 24), none, (.box (.tmp 23))⟩
  (.op false ⟨(some 10), none, (.mv (.tmp 24))⟩ .done))))))))))
 (.seq (.seq
 (.reg false (.op false ⟨(some 25), none, (.mv (.tmp 0))⟩
  (.op false ⟨(some 26), none, (.nilc (.tmp 25))⟩
  (.op false ⟨(some 27), none, (.fld 1 (.tmp 26))⟩
  (.op false ⟨(some 28), none, (.ld none (.tmp 27))⟩
  (.op false ⟨(some 29), none, (.len (.tmp 28))⟩
  (.op false ⟨(some 30), none, (.mv (.const (.int .i64 0)))⟩ .done))))))) (.block 0 (.loop
 (.seq
 (.reg false (.op false ⟨(some 31), none, (.bin .lss (.tmp 30) (.tmp 29))⟩ .done))
 (.seq (.cond (.tmp 31) .skip (.exit 0))
 (.seq (.block 1
 (.seq
 (.reg false (.op false ⟨(some 32), none, (.mv (.tmp 30))⟩
  (.op false ⟨(some 33), none, (.idx 257 (.tmp 28) (.tmp 30))⟩
  (.op false ⟨(some 34), none, (.ld (some 257) (.tmp 33))⟩
  (.op false ⟨(some 12), none, (.alo (.agg (Value.int .i64 0 :: z256).toArray))⟩
  (.op false ⟨(some 11), none, (.mv (.tmp 32))⟩
  (.op false ⟨none, none, (.st 257 (.tmp 12) (.tmp 34))⟩ .done)))))))
 (.seq
 (.reg false (.op false ⟨(some 13), none, (.mv (.const (.int .i64 0)))⟩ .done))
 (.seq (.seq
 (.reg false (.op false ⟨(some 35), none, (.mv (.tmp 11))⟩
  (.op false ⟨(some 36), none, (.mv (.tmp 1))⟩
  (.op false ⟨(some 37), none, (.len (.tmp 36))⟩
  (.op false ⟨(some 38), none, (.bin .lss (.tmp 35) (.tmp 37))⟩
  (.op false ⟨(some 39), none, (.mv (.tmp 38))⟩
  (.op false ⟨(some 40), (some (39, true)), (.mv (.tmp 1))⟩
  (.op false ⟨(some 41), (some (39, true)), (.mv (.tmp 11))⟩
  (.op false ⟨(some 42), (some (39, true)), (.idx 1 (.tmp 40) (.tmp 41))⟩
  (.op false ⟨(some 43), (some (39, true)), (.ld none (.tmp 42))⟩
  (.op false ⟨(some 44), none, (.pick (.tmp 39) (.tmp 43) (.const (.bool false)))⟩ .done))))))))))) (.cond (.tmp 44)
 (.reg false (.op false ⟨(some 13), none, (.mv (.const (.int .i64 256)))⟩ .done)) .skip))
 (.seq (.seq
 (.reg false (.op false ⟨(some 45), none, (.mv (.tmp 11))⟩
  (.op false ⟨(some 46), none, (.mv (.tmp 2))⟩
  (.op false ⟨(some 47), none, (.bin .eql (.tmp 45) (.tmp 46))⟩ .done)))) (.cond (.tmp 47)
 (.reg false (.op false ⟨(some 48), none, (.mv (.tmp 3))⟩
  (.op false ⟨(some 49), none, (.mn2 (.tmp 48) (.const (.int .i64 256)))⟩
  (.op false ⟨(some 50), none, (.mx2 (.const (.int .i64 0)) (.tmp 49))⟩
  (.op false ⟨(some 13), none, (.mv (.tmp 50))⟩ .done))))) .skip))
 (.reg true (.op true ⟨(some 51), none, (.mv (.tmp 10))⟩
  (.op true ⟨(some 52), none, (.nilc (.tmp 51))⟩
  (.op true ⟨(some 53), none, (.fld 0 (.tmp 52))⟩
  (.op true ⟨(some 54), none, (.ld none (.tmp 53))⟩
  (.op true ⟨(some 55), none, (.fld 0 (.tmp 12))⟩
  (.op true ⟨(some 56), none, (.ld none (.tmp 55))⟩
  (.op true ⟨(some 57), none, (.idx 256 (.tmp 54) (.tmp 56))⟩
  (.op true ⟨(some 58), none, (.sla 256 1 (.tmp 57) none none none)⟩
  (.op true ⟨(some 59), none, (.fld 1 (.tmp 12))⟩
  (.op true ⟨(some 60), none, (.mv (.tmp 13))⟩
  (.op true ⟨(some 61), none, (.sla 256 1 (.tmp 59) none (some (.tmp 60)) none)⟩
  (.op false ⟨(some 62), none, (.mop (.cpy 1 (.tmp 58) (.tmp 61)))⟩ .done))))))))))))))))))
 (.reg false (.op false ⟨(some 63), none, (.bin .add (.tmp 30) (.const (.int .i64 1)))⟩
  (.op false ⟨(some 30), none, (.mv (.tmp 63))⟩ .done)))))))))
 (.seq
 (.reg false (.op false ⟨(some 64), none, (.mv (.tmp 10))⟩
  (.op false ⟨(some 8), none, (.mv (.tmp 64))⟩
  (.op false ⟨(some 9), none, (.mv (.const (.int .i64 0)))⟩ .done)))) .ret)))))⟩

theorem dlose_ok {P : Program} {f f1 : FuncId} (hd : dec P f = some (g_device_Device_Lose f1)) (h1 : DSizeOk P f1) : DLoseOk P f := by
  intro d syn dv x y z LD hD hs
  have hsz : GRead P f1 [dv] d LD (.int .i64 syn.length) := h1 hD
  obtain ⟨b, T, vs, vo, r, hS, hO, rfl, rfl, h3, h4, h5, h6⟩ := hD
  obtain ⟨ao, co, rfl⟩ := h4.val
  have hsl : syn.length ≤ 8192 := h6
  have hn0 : syn.length ≠ 0 := by omega
  refine GCall_of hd (Nat.le_of_ble_eq_true rfl) ?_
  show gwp P _ _ _ _ _
  (apply w_sq; apply w_reg; apply w_mvp; rfl; apply w_mvi; rfl; apply w_done0; apply w_sq; apply w_sq; apply w_reg; apply w_mvp; rfl)
  refine w_read (A := [_, hS, hO]) (B := []) rfl rfl hsz ?_
  (apply w_eql; rfl; rfl; apply w_done0; refine w_ifdF rfl (by omega) ?_; apply w_skip; apply w_sq; apply w_reg)
  refine w_bsl (cs := []) (by simp) rfl (fun b17 T17 => ?_)
  (apply w_mvp; rfl; apply w_nilc; rfl; apply w_fld; rfl; apply w_ld; rfl; exact hc_i 1 rfl rfl)
  refine w_appG (R := RSec) (xs := []) (ys := syn) 0 rfl rfl (GRow.lit0 (R := RSec) (sz := 256)) rfl (GRow.src (R := RSec) h3 cell1_sec (by simp)) (by omega) (by simp; omega) (by simp; omega) (fun v' h' ho' => ?_)
  rw [List.nil_append] at ho'
  obtain ⟨av', cv', rfl⟩ := ho'.val
  refine w_bld (cs := [.slice av' syn.length cv', .slice none 0 0, .int .i64 0, .int .i64 0]) rfl ?_
  refine w_boxa rfl (fun bn Tn => ?_)
  (apply w_mvp; rfl; apply w_done0; apply w_sq; apply w_sq; apply w_reg; apply w_mvp; rfl; apply w_nilc; rfl; apply w_fld; rfl; apply w_ld; rfl; exact hc_i 2 rfl rfl; apply w_len; rfl; apply w_mvi; rfl; apply w_done0; apply w_block)
  refine w_loopN (α := Unit) (fun _ => [(10, .pointer (some ⟨bn, 0, none⟩)), (29, .int .i64 0), (30, .int .i64 0)]) (fun _ => [bx bn Tn [.slice av' syn.length cv', .slice none 0 0, .int .i64 0, .int .i64 0], h', bx b T [vs, .slice ao (List.length ([] : List (Nat × Sec))) co, .int .i64 r, .int .i64 0], hS, hO]) (fun _ => True) (fun _ => 0) () ⟨rfl, rfl, rfl, trivial⟩ rfl trivial ?_
  rintro - ρ -
  (apply w_sq; apply w_reg; apply w_lss; rfl; rfl; apply w_done0; apply w_sq; refine w_ifdF rfl (by omega) ?_; apply w_exit; apply w_sq; apply w_reg; apply w_mvp; rfl; apply w_mvp; rfl; apply w_mvi; rfl; apply w_done0; apply w_ret)
  exact finV [.pointer (some ⟨bn, 0, none⟩), .int .i64 0] ⟨rfl, rfl, trivial⟩ (d' := d) (L' := [bx bn Tn [.slice av' syn.length cv', .slice none 0 0, .int .i64 0, .int .i64 0], h', emp] ++ [bx b T [vs, .slice ao (List.length ([] : List (Nat × Sec))) co, .int .i64 r, .int .i64 0], hS, hO])
    (Vs.emp.trans (Vs.perm (List.perm_append_comm_assoc [emp] [_, _] _))) ⟨rfl, _, _, rfl, rfl, bn, Tn, .slice av' syn.length cv', _, 0, h', emp, rfl, rfl, ho', GRow.nil, fun w hw => (by cases hw), h6⟩

def pd0 (live : List Nat) : PD := ⟨2, lives 8 live, fun _ => [], List.replicate 10 zsec, 0, 0⟩
def MadeOk (P : Program) (f : FuncId) : Prop := ∀ {d : PHeap} {lv : Value} {live : List Nat}, RInts d lv (live.map fun k => ((2 + k : Nat) : Int)) → live.Nodup → (∀ k ∈ live, k < 8) →
  GCall P f [lv] d [] (Ret fun r d' L' => ∃ bd bp, r = .tuple #[.pointer (some ⟨bd, 0, none⟩), .pointer (some ⟨bp, 0, none⟩)] ∧ Le d d' ∧ Pg d' (pd0 live) (.pointer (some ⟨bd, 0, none⟩)) (.pointer (some ⟨bp, 0, none⟩)) L')
def g_thimblelaw19_made (f_device_New f_cache_New f_pager_New : Nat) : GFun :=
 ⟨40, [(.tmp 2), (.tmp 3)],
 (.seq
 (.reg false (.op false ⟨(some 2), none, (.mv (.const (.pointer none)))⟩
  (.op false ⟨(some 3), none, (.mv (.const (.pointer none)))⟩ .done)))
 (.seq
 (.reg false (.op false ⟨(some 9), none, (.call f_device_New [(.const (.int .i64 10))])⟩
  (.op false ⟨(some 8), none, (.mv (.tmp 9))⟩
  (.op false ⟨(some 10), none, (.ext (.tmp 8) 0)⟩
  (.op false ⟨(some 11), none, (.ext (.tmp 8) 1)⟩
  (.op false ⟨(some 4), none, (.mv (.tmp 10))⟩
  (.op false ⟨(some 5), none, (.mv (.tmp 11))⟩ .done)))))))
 (.seq (.seq
 (.reg false (.op false ⟨(some 12), none, (.mv (.tmp 5))⟩
  (.op false ⟨(some 13), none, (.bin .neq (.tmp 12) (.const (.int .i64 0)))⟩
  (.op false ⟨(some 14), none, (.mv (.tmp 13))⟩
  (.op false ⟨(some 15), (some (14, false)), (.mv (.tmp 4))⟩
  (.op false ⟨(some 16), (some (14, false)), (.eqp false (.tmp 15) (.const (.pointer none)))⟩
  (.op false ⟨(some 17), none, (.pick (.tmp 14) (.const (.bool true)) (.tmp 16))⟩ .done))))))) (.cond (.tmp 17)
 (.seq
 (.reg false (.op false ⟨(some 2), none, (.mv (.const (.pointer none)))⟩
  (.op false ⟨(some 3), none, (.mv (.const (.pointer none)))⟩ .done))) .ret) .skip))
 (.seq
 (.reg false (.op false ⟨(some 19), none, (.mv (.tmp 4))⟩
  (.op false ⟨(some 20), none, (.call f_cache_New [(.tmp 19), (.const (.int .i64 4))])⟩
  (.op false ⟨(some 18), none, (.mv (.tmp 20))⟩
  (.op false ⟨(some 21), none, (.ext (.tmp 18) 0)⟩
  (.op false ⟨(some 22), none, (.ext (.tmp 18) 1)⟩
  (.op false ⟨(some 6), none, (.mv (.tmp 21))⟩
  (.op false ⟨(some 5), none, (.mv (.tmp 22))⟩ .done))))))))
 (.seq (.seq
 (.reg false (.op false ⟨(some 23), none, (.mv (.tmp 5))⟩
  (.op false ⟨(some 24), none, (.bin .neq (.tmp 23) (.const (.int .i64 0)))⟩
  (.op false ⟨(some 25), none, (.mv (.tmp 24))⟩
  (.op false ⟨(some 26), (some (25, false)), (.mv (.tmp 6))⟩
  (.op false ⟨(some 27), (some (25, false)), (.eqp false (.tmp 26) (.const (.pointer none)))⟩
  (.op false ⟨(some 28), none, (.pick (.tmp 25) (.const (.bool true)) (.tmp 27))⟩ .done))))))) (.cond (.tmp 28)
 (.seq
 (.reg false (.op false ⟨(some 2), none, (.mv (.const (.pointer none)))⟩
  (.op false ⟨(some 3), none, (.mv (.const (.pointer none)))⟩ .done))) .ret) .skip))
 (.seq
 (.reg false (.op false ⟨(some 30), none, (.mv (.tmp 4))⟩
  (.op false ⟨(some 31), none, (.mv (.tmp 6))⟩
  (.op false ⟨(some 32), none, (.mv (.tmp 0))⟩
  (.op false ⟨(some 33), none, (.call f_pager_New [(.tmp 30), (.tmp 31), (.const (.int .i64 2)), (.const (.int .i64 8)), (.tmp 32)])⟩
  (.op false ⟨(some 29), none, (.mv (.tmp 33))⟩
  (.op false ⟨(some 34), none, (.ext (.tmp 29) 0)⟩
  (.op false ⟨(some 35), none, (.ext (.tmp 29) 1)⟩
  (.op false ⟨(some 7), none, (.mv (.tmp 34))⟩
  (.op false ⟨(some 5), none, (.mv (.tmp 35))⟩ .done))))))))))
 (.seq (.seq
 (.reg false (.op false ⟨(some 36), none, (.mv (.tmp 5))⟩
  (.op false ⟨(some 37), none, (.bin .neq (.tmp 36) (.const (.int .i64 0)))⟩ .done))) (.cond (.tmp 37)
 (.seq
 (.reg false (.op false ⟨(some 2), none, (.mv (.const (.pointer none)))⟩
  (.op false ⟨(some 3), none, (.mv (.const (.pointer none)))⟩ .done))) .ret) .skip))
 (.seq
 (.reg false (.op false ⟨(some 38), none, (.mv (.tmp 4))⟩
  (.op false ⟨(some 39), none, (.mv (.tmp 7))⟩
  (.op false ⟨(some 2), none, (.mv (.tmp 38))⟩
  (.op false ⟨(some 3), none, (.mv (.tmp 39))⟩ .done))))) .ret))))))))⟩

theorem made_ok {P : Program} {f f1 f2 f3 : FuncId} (hd : dec P f = some (g_thimblelaw19_made f1 f2 f3)) (h1 : DevNewOk P f1) (h2 : CacheNewOk P f2) (h3 : PNewOk P f3) : MadeOk P f := by
  intro d lv live hl hnd hlt
  refine GCall_of hd (Nat.le_of_ble_eq_true rfl) ?_
  show gwp P _ _ _ _ _
  (apply w_sq; apply w_reg; apply w_mvp; rfl; apply w_mvp; rfl; apply w_done0; apply w_sq; apply w_reg)
  refine w_callO (h1 (n := 10) (by omega) (by omega)) rfl (fun u d' L1 _ ⟨dv, e1, e2, e3⟩ => ?_)
  subst e1; subst e2
  obtain ⟨bd, rfl⟩ : ∃ b, dv = .pointer (some ⟨b, 0, none⟩) := let ⟨b, _, _, _, _, _, _, h, _⟩ := e3; ⟨b, h⟩
  (apply w_mvu; rfl; apply w_ext; rfl; rfl; apply w_ext; rfl; rfl; apply w_mvp; rfl; apply w_mvi; rfl; apply w_done0; apply w_sq; apply w_sq; apply w_reg; apply w_mvi; rfl; apply w_neq; rfl; rfl; apply w_mvb; rfl; refine w_gdF rfl (by omega) ?_; apply w_gT; rfl; apply w_mvp; rfl; apply w_gT; rfl; apply w_eqpS; rfl; rfl; apply w_pickFb; rfl; rfl; apply w_done0; apply w_ifF; rfl; apply w_skip; apply w_sq; apply w_reg; apply w_mvp; rfl)
  refine w_callO (h2 (n := 4) e3 (show 1 ≤ (List.replicate 10 zsec).length by rw [List.length_replicate]; omega) (by omega) (by omega)) rfl (fun u d2 L2 _ ⟨q1, cv, LC, q2, q3, q4⟩ => ?_)
  subst q1; subst q2; subst q3
  obtain ⟨bc, rfl⟩ : ∃ b, cv = .pointer (some ⟨b, 0, none⟩) := let ⟨b, _, _, _, _, _, _, _, _, h, _⟩ := q4; ⟨b, h⟩
  (apply w_mvu; rfl; apply w_ext; rfl; rfl; apply w_ext; rfl; rfl; apply w_mvp; rfl; apply w_mvi; rfl; apply w_done0; apply w_sq; apply w_sq; apply w_reg; apply w_mvi; rfl; apply w_neq; rfl; rfl; apply w_mvb; rfl; refine w_gdF rfl (by omega) ?_; apply w_gT; rfl; apply w_mvp; rfl; apply w_gT; rfl; apply w_eqpS; rfl; rfl; apply w_pickFb; rfl; rfl; apply w_done0; apply w_ifF; rfl; apply w_skip; apply w_sq; apply w_reg; apply w_mvp; rfl; apply w_mvp; rfl; apply w_mv)
  refine w_callO (h3 (frm := 2) (n := 8) (m := 4) (live := live) e3 q4 (by omega) (by omega) (by omega) (by rw [List.length_replicate]; omega) (by rw [List.length_replicate]; omega) hnd hlt hl) rfl (fun u d3 L3 hl3 ⟨pv, g1, g2, g3⟩ => ?_)
  subst g1
  obtain ⟨bp, rfl⟩ := g3.ptr
  (apply w_mvu; rfl; apply w_ext; rfl; rfl; apply w_ext; rfl; rfl; apply w_mvp; rfl; apply w_mvi; rfl; apply w_done0; apply w_sq; apply w_sq; apply w_reg; apply w_mvi; rfl; apply w_neq; rfl; rfl; apply w_done0; refine w_ifdF rfl (by omega) ?_; apply w_skip; apply w_sq; apply w_reg; apply w_mvp; rfl; apply w_mvp; rfl; apply w_mvp; rfl; apply w_mvp; rfl; apply w_done0; apply w_ret)
  exact fin2 rfl rfl (List.Sublist.refl _) ⟨_, _, rfl, g2, g3⟩
end Go.Gk.Pgr
end

section
namespace Go.Gk.Pgr
open Go Go.Gk Go.Gk.Dev Go.Gk.Cch Go.Gk.Node
attribute [local irreducible] gwp gws xwp

theorem lives_ints {d : PHeap} {b n : Nat} {T : TypeId} {cs : List Value} {l : List Nat} (e : cs = (l.map fun k => ((2 + k : Nat) : Int)).map (Value.int .i64)) (hn : n = l.length) (h8 : ∀ k ∈ l, k < 8) (hl : l.length ≤ 8) :
    RInts (join d (bx b T cs)) (.slice (some ⟨b, 0, none⟩) n n) (l.map fun k => ((2 + k : Nat) : Int)) :=
  GRow.rsl (R := RInt) (sz := 1) (GRow.litI (d := d) e (fun x hx => by obtain ⟨k, hk, rfl⟩ := List.mem_map.1 hx; have := h8 k hk; omega) (by rw [List.length_map]; exact hn) (by rw [List.length_map]; omega)) mono_int (by omega) (Le.join_left _ _) (Le.join_right _ _)
def PWorksOk (P : Program) (f : FuncId) : Prop := ∀ {d : PHeap}, GCall P f [] d [] (Ret fun r d' L' => r = .bool true ∧ L' = [])
def exS0 : PD := pd0 [1, 4, 5, 6, 7]
def exS1 : PD := exS0.takeR.1
def exS2 : PD := exS1.takeR.1
def exS3 : PD := (exS2.drop 3).1
def exS4 : PD := exS3.takeR.1
def exS5 : PD := exS4.takeR.1
theorem exq1 : exS0.takeR.2 = (2, 0) := rfl
theorem exq2 : exS1.takeR.2 = (4, 0) := rfl
theorem exq3 : (exS2.drop 3).2 = 0 := rfl
theorem exq4 : exS3.takeR.2 = (5, 0) := rfl
theorem exq5 : exS4.takeR.2 = (0, 190) := rfl
theorem exq6 : exS5.done.free = 1 := rfl
def g_thimblelaw19_works (f_thimblelaw19_made f_pager_Pager_Take f_pager_Pager_Drop f_pager_Pager_Done f_pager_Pager_Free : Nat) : GFun :=
 ⟨81, [(.tmp 0)],
 (.seq
 (.reg false (.op false ⟨(some 0), none, (.mv (.const (.bool false)))⟩ .done))
 (.seq
 (.reg false (.op false ⟨(some 13), none, (.bsl 5 1 [(.int .i64 0)] [(0, (.const (.int .i64 3))), (1, (.const (.int .i64 6))), (2, (.const (.int .i64 7))), (3, (.const (.int .i64 8))), (4, (.const (.int .i64 9)))])⟩
  (.op false ⟨(some 14), none, (.call f_thimblelaw19_made [(.tmp 13)])⟩
  (.op false ⟨(some 12), none, (.mv (.tmp 14))⟩
  (.op false ⟨(some 15), none, (.ext (.tmp 12) 0)⟩
  (.op false ⟨(some 16), none, (.ext (.tmp 12) 1)⟩
  (.op false ⟨(some 1), none, (.mv (.tmp 15))⟩
  (.op false ⟨(some 2), none, (.mv (.tmp 16))⟩ .done))))))))
 (.seq (.seq
 (.reg false (.op false ⟨(some 17), none, (.mv (.tmp 2))⟩
  (.op false ⟨(some 18), none, (.eqp false (.tmp 17) (.const (.pointer none)))⟩ .done))) (.cond (.tmp 18)
 (.seq
 (.reg false (.op false ⟨(some 0), none, (.mv (.const (.bool false)))⟩ .done)) .ret) .skip))
 (.seq
 (.reg false (.op false ⟨(some 20), none, (.mv (.tmp 2))⟩
  (.op false ⟨(some 21), none, (.call f_pager_Pager_Take [(.tmp 20)])⟩
  (.op false ⟨(some 19), none, (.mv (.tmp 21))⟩
  (.op false ⟨(some 22), none, (.ext (.tmp 19) 0)⟩
  (.op false ⟨(some 23), none, (.ext (.tmp 19) 1)⟩
  (.op false ⟨(some 3), none, (.mv (.tmp 22))⟩
  (.op false ⟨(some 4), none, (.mv (.tmp 23))⟩ .done))))))))
 (.seq
 (.reg false (.op false ⟨(some 25), none, (.mv (.tmp 2))⟩
  (.op false ⟨(some 26), none, (.call f_pager_Pager_Take [(.tmp 25)])⟩
  (.op false ⟨(some 24), none, (.mv (.tmp 26))⟩
  (.op false ⟨(some 27), none, (.ext (.tmp 24) 0)⟩
  (.op false ⟨(some 28), none, (.ext (.tmp 24) 1)⟩
  (.op false ⟨(some 5), none, (.mv (.tmp 27))⟩
  (.op false ⟨(some 6), none, (.mv (.tmp 28))⟩ .done))))))))
 (.seq
 (.reg false (.op false ⟨(some 29), none, (.mv (.tmp 2))⟩
  (.op false ⟨(some 30), none, (.call f_pager_Pager_Drop [(.tmp 29), (.const (.int .i64 3))])⟩
  (.op false ⟨(some 7), none, (.mv (.tmp 30))⟩ .done))))
 (.seq
 (.reg false (.op false ⟨(some 32), none, (.mv (.tmp 2))⟩
  (.op false ⟨(some 33), none, (.call f_pager_Pager_Take [(.tmp 32)])⟩
  (.op false ⟨(some 31), none, (.mv (.tmp 33))⟩
  (.op false ⟨(some 34), none, (.ext (.tmp 31) 0)⟩
  (.op false ⟨(some 35), none, (.ext (.tmp 31) 1)⟩
  (.op false ⟨(some 8), none, (.mv (.tmp 34))⟩
  (.op false ⟨(some 9), none, (.mv (.tmp 35))⟩ .done))))))))
 (.seq
 (.reg false (.op false ⟨(some 37), none, (.mv (.tmp 2))⟩
  (.op false ⟨(some 38), none, (.call f_pager_Pager_Take [(.tmp 37)])⟩
  (.op false ⟨(some 36), none, (.mv (.tmp 38))⟩
  (.op false ⟨(some 39), none, (.ext (.tmp 36) 0)⟩
  (.op false ⟨(some 40), none, (.ext (.tmp 36) 1)⟩
  (.op false ⟨(some 10), none, (.mv (.tmp 39))⟩
  (.op false ⟨(some 11), none, (.mv (.tmp 40))⟩ .done))))))))
 (.seq
 (.reg false (.op false ⟨(some 41), none, (.mv (.tmp 4))⟩
  (.op false ⟨(some 42), none, (.bin .eql (.tmp 41) (.const (.int .i64 0)))⟩
  (.op false ⟨(some 43), none, (.mv (.tmp 42))⟩
  (.op false ⟨(some 44), (some (43, true)), (.mv (.tmp 6))⟩
  (.op false ⟨(some 45), (some (43, true)), (.bin .eql (.tmp 44) (.const (.int .i64 0)))⟩
  (.op false ⟨(some 46), none, (.pick (.tmp 43) (.tmp 45) (.const (.bool false)))⟩
  (.op false ⟨(some 47), none, (.mv (.tmp 46))⟩
  (.op false ⟨(some 48), (some (47, true)), (.mv (.tmp 7))⟩
  (.op false ⟨(some 49), (some (47, true)), (.bin .eql (.tmp 48) (.const (.int .i64 0)))⟩
  (.op false ⟨(some 50), none, (.pick (.tmp 47) (.tmp 49) (.const (.bool false)))⟩
  (.op false ⟨(some 51), none, (.mv (.tmp 50))⟩
  (.op false ⟨(some 52), (some (51, true)), (.mv (.tmp 9))⟩
  (.op false ⟨(some 53), (some (51, true)), (.bin .eql (.tmp 52) (.const (.int .i64 0)))⟩
  (.op false ⟨(some 54), none, (.pick (.tmp 51) (.tmp 53) (.const (.bool false)))⟩
  (.op false ⟨(some 55), none, (.mv (.tmp 54))⟩
  (.op false ⟨(some 56), (some (55, true)), (.mv (.tmp 11))⟩
  (.op false ⟨(some 57), (some (55, true)), (.bin .eql (.tmp 56) (.const (.int .i64 190)))⟩
  (.op false ⟨(some 58), none, (.pick (.tmp 55) (.tmp 57) (.const (.bool false)))⟩
  (.op false ⟨(some 59), none, (.mv (.tmp 58))⟩
  (.op false ⟨(some 60), (some (59, true)), (.mv (.tmp 3))⟩
  (.op false ⟨(some 61), (some (59, true)), (.bin .eql (.tmp 60) (.const (.int .i64 2)))⟩
  (.op false ⟨(some 62), none, (.pick (.tmp 59) (.tmp 61) (.const (.bool false)))⟩
  (.op false ⟨(some 63), none, (.mv (.tmp 62))⟩
  (.op false ⟨(some 64), (some (63, true)), (.mv (.tmp 5))⟩
  (.op false ⟨(some 65), (some (63, true)), (.bin .eql (.tmp 64) (.const (.int .i64 4)))⟩
  (.op false ⟨(some 66), none, (.pick (.tmp 63) (.tmp 65) (.const (.bool false)))⟩
  (.op false ⟨(some 67), none, (.mv (.tmp 66))⟩
  (.op false ⟨(some 68), (some (67, true)), (.mv (.tmp 8))⟩
  (.op false ⟨(some 69), (some (67, true)), (.bin .eql (.tmp 68) (.const (.int .i64 5)))⟩
  (.op false ⟨(some 70), none, (.pick (.tmp 67) (.tmp 69) (.const (.bool false)))⟩
  (.op false ⟨(some 71), none, (.mv (.tmp 70))⟩
  (.op false ⟨(some 72), (some (71, true)), (.mv (.tmp 2))⟩
  (.op false ⟨(some 73), (some (71, true)), (.call f_pager_Pager_Done [(.tmp 72)])⟩
  (.op false ⟨(some 74), (some (71, true)), (.bin .eql (.tmp 73) (.const (.int .i64 0)))⟩
  (.op false ⟨(some 75), none, (.pick (.tmp 71) (.tmp 74) (.const (.bool false)))⟩
  (.op false ⟨(some 76), none, (.mv (.tmp 75))⟩
  (.op false ⟨(some 77), (some (76, true)), (.mv (.tmp 2))⟩
  (.op false ⟨(some 78), (some (76, true)), (.call f_pager_Pager_Free [(.tmp 77)])⟩
  (.op false ⟨(some 79), (some (76, true)), (.bin .eql (.tmp 78) (.const (.int .i64 1)))⟩
  (.op false ⟨(some 80), none, (.pick (.tmp 76) (.tmp 79) (.const (.bool false)))⟩
  (.op false ⟨(some 0), none, (.mv (.tmp 80))⟩ .done)))))))))))))))))))))))))))))))))))))))))) .ret)))))))))⟩

set_option maxRecDepth 4000 in
set_option maxHeartbeats 1000000 in
theorem pworks_ok {P : Program} {f f1 f2 f3 f4 f5 : FuncId} (hd : dec P f = some (g_thimblelaw19_works f1 f2 f3 f4 f5)) (h1 : MadeOk P f1) (h2 : TakeOk P f2) (h3 : DropOk P f3) (h4 : DoneOk P f4) (h5 : FreeOk P f5) : PWorksOk P f := by
  intro d
  refine GCall_of hd (Nat.le_of_ble_eq_true rfl) ?_
  show gwp P _ _ _ _ _
  (apply w_sq; apply w_reg; apply w_mvb; rfl; apply w_done0; apply w_sq; apply w_reg)
  refine w_bsl (cs := [.int .i64 3, .int .i64 6, .int .i64 7, .int .i64 8, .int .i64 9]) (by simp) rfl (fun b T => ?_)
  have hI := lives_ints (d := d) (b := b) (T := T) (n := 5) (l := [1, 4, 5, 6, 7]) (cs := [.int .i64 3, .int .i64 6, .int .i64 7, .int .i64 8, .int .i64 9]) rfl rfl (by decide) (by decide)
  refine w_vs (join d (bx b T [.int .i64 3, .int .i64 6, .int .i64 7, .int .i64 8, .int .i64 9])) [] Vs.freeze ?_
  refine w_callO (h1 hI (by decide) (by decide)) rfl (fun u d1 L1 _ ⟨bd, bp, e1, e2, hp0⟩ => ?_)
  subst e1
  (apply w_mvu; rfl; apply w_ext; rfl; rfl; apply w_ext; rfl; rfl; apply w_mvp; rfl; apply w_mvp; rfl; apply w_done0; apply w_sq; apply w_sq; apply w_reg; apply w_mvp; rfl; apply w_eqpS; rfl; rfl; apply w_done0; apply w_ifF; rfl; apply w_skip; apply w_sq; apply w_reg; apply w_mvp; rfl)
  refine w_callO (h2 hp0) rfl (fun u d2 L2 _ ⟨e, hp1⟩ => ?_)
  rw [show (pd0 [1, 4, 5, 6, 7]).takeR.2 = (2, 0) from exq1] at e
  subst e
  (apply w_mvu; rfl; apply w_ext; rfl; rfl; apply w_ext; rfl; rfl; apply w_mvi; rfl; apply w_mvi; rfl; apply w_done0; apply w_sq; apply w_reg; apply w_mvp; rfl)
  refine w_callO (h2 hp1) rfl (fun u d3 L3 _ ⟨e, hp2⟩ => ?_)
  rw [show (pd0 [1, 4, 5, 6, 7]).takeR.1.takeR.2 = (4, 0) from exq2] at e
  subst e
  (apply w_mvu; rfl; apply w_ext; rfl; rfl; apply w_ext; rfl; rfl; apply w_mvi; rfl; apply w_mvi; rfl; apply w_done0; apply w_sq; apply w_reg; apply w_mvp; rfl)
  refine w_callO (h3 (k := 3) hp2) rfl (fun u d4 L4 _ ⟨e, hp3⟩ => ?_)
  rw [show ((pd0 [1, 4, 5, 6, 7]).takeR.1.takeR.1.drop 3).2 = 0 from exq3] at e
  subst e
  (apply w_mvi; rfl; apply w_done0; apply w_sq; apply w_reg; apply w_mvp; rfl)
  refine w_callO (h2 hp3) rfl (fun u d5 L5 _ ⟨e, hp4⟩ => ?_)
  rw [show ((pd0 [1, 4, 5, 6, 7]).takeR.1.takeR.1.drop 3).1.takeR.2 = (5, 0) from exq4] at e
  subst e
  (apply w_mvu; rfl; apply w_ext; rfl; rfl; apply w_ext; rfl; rfl; apply w_mvi; rfl; apply w_mvi; rfl; apply w_done0; apply w_sq; apply w_reg; apply w_mvp; rfl)
  refine w_callO (h2 hp4) rfl (fun u d6 L6 _ ⟨e, hp5⟩ => ?_)
  rw [show ((pd0 [1, 4, 5, 6, 7]).takeR.1.takeR.1.drop 3).1.takeR.1.takeR.2 = (0, 190) from exq5] at e
  subst e
  (apply w_mvu; rfl; apply w_ext; rfl; rfl; apply w_ext; rfl; rfl; apply w_mvi; rfl; apply w_mvi; rfl; apply w_done0; apply w_sq; apply w_reg; apply w_mvi; rfl; apply w_eql; rfl; rfl; apply w_mvb; rfl; refine w_gdT rfl (by omega) ?_; apply w_gT; rfl; apply w_mvi; rfl; apply w_gT; rfl; apply w_eql; rfl; rfl; apply w_pickTb; rfl; rfl; apply w_mvb; rfl; refine w_gdT rfl (by omega) ?_; apply w_gT; rfl; apply w_mvi; rfl; apply w_gT; rfl; apply w_eql; rfl; rfl; apply w_pickTb; rfl; rfl; apply w_mvb; rfl; refine w_gdT rfl (by omega) ?_; apply w_gT; rfl; apply w_mvi; rfl; apply w_gT; rfl; apply w_eql; rfl; rfl; apply w_pickTb; rfl; rfl; apply w_mvb; rfl; refine w_gdT rfl (by omega) ?_; apply w_gT; rfl; apply w_mvi; rfl; apply w_gT; rfl; apply w_eql; rfl; rfl; apply w_pickTb; rfl; rfl; apply w_mvb; rfl; refine w_gdT rfl (by omega) ?_; apply w_gT; rfl; apply w_mvi; rfl; apply w_gT; rfl; apply w_eql; rfl; rfl; apply w_pickTb; rfl; rfl; apply w_mvb; rfl; refine w_gdT rfl (by omega) ?_; apply w_gT; rfl; apply w_mvi; rfl; apply w_gT; rfl; apply w_eql; rfl; rfl; apply w_pickTb; rfl; rfl; apply w_mvb; rfl; refine w_gdT rfl (by omega) ?_; apply w_gT; rfl; apply w_mvi; rfl; apply w_gT; rfl; apply w_eql; rfl; rfl; apply w_pickTb; rfl; rfl; apply w_mvb; rfl; refine w_gdT rfl (by omega) ?_; apply w_gT; rfl; apply w_mvp; rfl; apply w_gT; rfl)
  refine w_callO (h4 hp5) rfl (fun u d7 L7 _ ⟨e, e', hp6⟩ => ?_)
  subst e; subst e'
  (apply w_gT; rfl; apply w_eql; rfl; rfl; apply w_pickTb; rfl; rfl; apply w_mvb; rfl; refine w_gdT rfl (by omega) ?_; apply w_gT; rfl; apply w_mvp; rfl; apply w_gT; rfl)
  refine w_read (A := L7) (B := []) (List.append_nil _).symm rfl (h5 hp6) ?_
  rw [show ((pd0 [1, 4, 5, 6, 7]).takeR.1.takeR.1.drop 3).1.takeR.1.takeR.1.done.free = 1 from exq6]
  (apply w_gT; rfl; apply w_eql; rfl; rfl; apply w_pickTb; rfl; rfl; apply w_mvb; rfl; apply w_done0; apply w_ret)
  exact fin1 rfl (List.nil_sublist _) ⟨rfl, rfl⟩
end Go.Gk.Pgr
end

section
namespace Go.Gk.Pgr
open Go Go.Gk Go.Gk.Dev Go.Gk.Cch Go.Gk.Node
attribute [local irreducible] gwp gws xwp

section
variable {P : Program} {pan : List PanicEntry → Post} {Qn : Env → Post} {Ls L : List PHeap} {ρ : Env} {d : PHeap} {s : GS} {t : Nat} {tk : Bool}
theorem and7 (a : Int) : IntKind.i64.wrap ((BitVec.ofInt 64 a &&& BitVec.ofInt 64 7).toNat : Int) = a % 8 := by
  have h : (BitVec.ofInt 64 a &&& BitVec.ofInt 64 7).toNat = (a % 8).toNat := by
    rw [BitVec.toNat_and, show (BitVec.ofInt 64 7).toNat = 2 ^ 3 - 1 from rfl, Nat.and_two_pow_sub_one_eq_mod, BitVec.toNat_ofInt]
    omega
  rw [h, wrap64_eq (by omega) (by omega)]
  omega
theorem w_and7 {x : Operand} {a : Int} (k : Nat) (ex : ev ρ x = .int .i64 a) (hk : a % 8 = (k : Int)) (h : gws P pan Qn s Ls (upd ρ t (.int .i64 (k : Nat))) d L) : gws P pan Qn (.op tk ⟨some t, none, .bin .and x (.const (.int .i64 7))⟩ s) Ls ρ d L := by
  refine w_q rfl (show binV .and (ev ρ x) (.int .i64 7) = some (.int .i64 (k : Nat)) from ?_) h
  rw [ex]
  exact congrArg (fun z => some (Value.int .i64 z)) ((and7 a).trans hk)
theorem fin0 {R : Ending → PHeap → List PHeap → Prop} {ρ : Env} {d : PHeap} {L : List PHeap} (L' : List PHeap) (hs : L'.Sublist L) (h : R (.returned (.tuple #[])) d L') : retPost [] R ρ d L := ⟨[], trivial, d, L', Vs.drop hs, h⟩
end
structure AD where
  kind : Int
  k : Int
  by_ : UInt8
def RAct (_ : PHeap) (cs : List Value) (a : AD) : Prop := ∃ p n c, cs = [.int .i64 a.kind, .int .i64 a.k, byteV a.by_, .slice p n c]
theorem mono_act : Mono RAct := fun _ h => h
abbrev fillB (b : UInt8) : Sec := List.replicate 256 b
def PD.act (s : PD) (a : AD) : PD :=
  if a.kind = 0 then (if s.takeR.2.2 = 0 then (s.takeR.1.put s.takeR.2.1 (fillB a.by_)).1 else s.takeR.1)
  else if a.kind = 1 then (s.put (2 + a.k % 8) (fillB a.by_)).1
  else if a.kind = 3 then (s.drop (2 + a.k % 8)).1
  else if a.kind = 4 then s.flush
  else s
def PD.run (s : PD) (l : List AD) : PD := l.foldl PD.act s
theorem run_snoc {s : PD} {l : List AD} {a : AD} : s.run (l ++ [a]) = (s.run l).act a := by simp [PD.run]
def PRunOk (P : Program) (f : FuncId) : Prop := ∀ {d : PHeap} {s : PD} {dv pv av : Value} {L : List PHeap} {l : List AD}, Pg d s dv pv L → RSl 4 RAct d av l → GCall P f [pv, av] d L (Ret fun _ d' L' => Le d d' ∧ Pg d' (s.run (l.take 40)) dv pv L')
def g_thimblelaw19_run (f_pager_Pager_Take f_thimblelaw15_Filled f_pager_Pager_Put f_pager_Pager_Drop f_pager_Pager_Flush : Nat) : GFun :=
 ⟨62, [],
 (.seq
 (.reg false (.op false ⟨(some 4), none, (.mv (.const (.int .i64 0)))⟩ .done)) (.block 0 (.loop
 (.seq (.seq
 (.reg false (.op false ⟨(some 8), none, (.mv (.tmp 4))⟩
  (.op false ⟨(some 9), none, (.mv (.tmp 1))⟩
  (.op false ⟨(some 10), none, (.len (.tmp 9))⟩
  (.op false ⟨(some 11), none, (.bin .lss (.tmp 8) (.tmp 10))⟩
  (.op false ⟨(some 12), none, (.mv (.tmp 11))⟩
  (.op false ⟨(some 13), (some (12, true)), (.mv (.tmp 4))⟩
  (.op false ⟨(some 14), (some (12, true)), (.bin .lss (.tmp 13) (.const (.int .i64 40)))⟩
  (.op false ⟨(some 15), none, (.pick (.tmp 12) (.tmp 14) (.const (.bool false)))⟩ .done))))))))) (.cond (.tmp 15) .skip (.exit 0)))
 (.seq (.block 1
 (.seq
 (.reg false (.op false ⟨(some 18), none, (.mv (.tmp 1))⟩
  (.op false ⟨(some 19), none, (.mv (.tmp 4))⟩
  (.op false ⟨(some 20), none, (.idx 4 (.tmp 18) (.tmp 19))⟩
  (.op false ⟨(some 21), none, (.ld (some 4) (.tmp 20))⟩
  (.op false ⟨(some 5), none, (.alo (.agg #[(.int .i64 0), (.int .i64 0), (.int .u8 0), (.slice none 0 0)]))⟩
  (.op false ⟨none, none, (.st 4 (.tmp 5) (.tmp 21))⟩ .done)))))))
 (.seq
 (.reg false (.op false ⟨(some 22), none, (.fld 0 (.tmp 5))⟩
  (.op false ⟨(some 23), none, (.ld none (.tmp 22))⟩ .done))) (.block 2
 (.seq
 (.reg false (.op false ⟨(some 25), none, (.bin .eql (.tmp 23) (.const (.int .i64 0)))⟩
  (.op false ⟨(some 24), none, (.mv (.tmp 25))⟩ .done))) (.cond (.tmp 24)
 (.seq
 (.reg false (.op false ⟨(some 27), none, (.mv (.tmp 0))⟩
  (.op false ⟨(some 28), none, (.call f_pager_Pager_Take [(.tmp 27)])⟩
  (.op false ⟨(some 26), none, (.mv (.tmp 28))⟩
  (.op false ⟨(some 29), none, (.ext (.tmp 26) 0)⟩
  (.op false ⟨(some 30), none, (.ext (.tmp 26) 1)⟩
  (.op false ⟨(some 6), none, (.mv (.tmp 29))⟩
  (.op false ⟨(some 7), none, (.mv (.tmp 30))⟩ .done))))))))
 (.seq
 (.reg false (.op false ⟨(some 31), none, (.mv (.tmp 7))⟩
  (.op false ⟨(some 32), none, (.bin .eql (.tmp 31) (.const (.int .i64 0)))⟩ .done))) (.cond (.tmp 32)
 (.reg false (.op false ⟨(some 33), none, (.mv (.tmp 0))⟩
  (.op false ⟨(some 34), none, (.mv (.tmp 6))⟩
  (.op false ⟨(some 35), none, (.fld 2 (.tmp 5))⟩
  (.op false ⟨(some 36), none, (.ld none (.tmp 35))⟩
  (.op false ⟨(some 37), none, (.call f_thimblelaw15_Filled [(.tmp 36), (.const (.slice none 0 0))])⟩
  (.op false ⟨(some 38), none, (.call f_pager_Pager_Put [(.tmp 33), (.tmp 34), (.tmp 37)])⟩ .done))))))) .skip)))
 (.seq
 (.reg false (.op false ⟨(some 40), none, (.bin .eql (.tmp 23) (.const (.int .i64 1)))⟩
  (.op false ⟨(some 39), none, (.mv (.tmp 40))⟩ .done))) (.cond (.tmp 39)
 (.reg true (.op true ⟨(some 41), none, (.mv (.tmp 0))⟩
  (.op true ⟨(some 42), none, (.fld 1 (.tmp 5))⟩
  (.op true ⟨(some 43), none, (.ld none (.tmp 42))⟩
  (.op true ⟨(some 44), none, (.bin .and (.tmp 43) (.const (.int .i64 7)))⟩
  (.op true ⟨(some 45), none, (.bin .add (.const (.int .i64 2)) (.tmp 44))⟩
  (.op true ⟨(some 46), none, (.fld 2 (.tmp 5))⟩
  (.op true ⟨(some 47), none, (.ld none (.tmp 46))⟩
  (.op false ⟨(some 48), none, (.call f_thimblelaw15_Filled [(.tmp 47), (.const (.slice none 0 0))])⟩
  (.op false ⟨(some 49), none, (.call f_pager_Pager_Put [(.tmp 41), (.tmp 45), (.tmp 48)])⟩ .done))))))))))
 (.seq
 (.reg false (.op false ⟨(some 51), none, (.bin .eql (.tmp 23) (.const (.int .i64 3)))⟩
  (.op false ⟨(some 50), none, (.mv (.tmp 51))⟩ .done))) (.cond (.tmp 50)
 (.reg false (.op false ⟨(some 52), none, (.mv (.tmp 0))⟩
  (.op false ⟨(some 53), none, (.fld 1 (.tmp 5))⟩
  (.op false ⟨(some 54), none, (.ld none (.tmp 53))⟩
  (.op false ⟨(some 55), none, (.bin .and (.tmp 54) (.const (.int .i64 7)))⟩
  (.op false ⟨(some 56), none, (.bin .add (.const (.int .i64 2)) (.tmp 55))⟩
  (.op false ⟨(some 57), none, (.call f_pager_Pager_Drop [(.tmp 52), (.tmp 56)])⟩ .done)))))))
 (.seq
 (.reg false (.op false ⟨(some 59), none, (.bin .eql (.tmp 23) (.const (.int .i64 4)))⟩
  (.op false ⟨(some 58), none, (.mv (.tmp 59))⟩ .done))) (.cond (.tmp 58)
 (.reg false (.op false ⟨(some 60), none, (.mv (.tmp 0))⟩
  (.op false ⟨(some 61), none, (.call f_pager_Pager_Flush [(.tmp 60)])⟩ .done))) .skip))))))))))))
 (.reg false (.op false ⟨(some 16), none, (.mv (.tmp 4))⟩
  (.op false ⟨(some 17), none, (.bin .add (.tmp 16) (.const (.int .i64 1)))⟩
  (.op false ⟨(some 4), none, (.mv (.tmp 17))⟩ .done)))))))))⟩

set_option maxRecDepth 4000 in
set_option maxHeartbeats 1000000 in
theorem prun_ok {P : Program} {f f1 f2 f3 f4 f5 : FuncId} (hd : dec P f = some (g_thimblelaw19_run f1 f2 f3 f4 f5)) (h1 : TakeOk P f1) (h2 : FilledOk P f2) (h3 : PutOk P f3) (h4 : DropOk P f4) (h5 : FlushOk P f5) : PRunOk P f := by
  intro d s dv pv av L l hp hl
  obtain ⟨bp, rfl⟩ := hp.ptr
  have hll := hl.len_le
  refine GCall_of hd (Nat.le_of_ble_eq_true rfl) ?_
  show gwp P _ _ _ _ _
  (apply w_sq; apply w_reg; apply w_mvi; rfl; apply w_done0; apply w_block)
  refine w_loopS (α := Nat) (fun i => [(0, .pointer (some ⟨bp, 0, none⟩)), (1, av), (4, .int .i64 i)]) (fun i d' L' => Le d d' ∧ i ≤ l.length ∧ i ≤ 40 ∧ ∃ L2, L2.Sublist L' ∧ Pg d' (s.run (l.take i)) dv (.pointer (some ⟨bp, 0, none⟩)) L2) (fun i => 40 - i) 0 ⟨rfl, rfl, rfl, trivial⟩ ⟨Le.refl _, by omega, by omega, _, List.Sublist.refl _, hp⟩ ?_
  rintro i ρ d' L0 ⟨hle, hi, hi4, L', hsub, hp'⟩
  apply w_sq; apply w_sq; apply w_reg
  refine w_vs d' L' (Vs.drop hsub) ?_
  have hl' := RSl.mono (R := RAct) mono_act hl hle
  by_cases e : i < l.length
  · by_cases e4 : i < 40
    · have hn : s.run (l.take (i + 1)) = (s.run (l.take i)).act l[i] := by rw [List.take_succ_eq_append_getElem e, run_snoc]
      (apply w_mvi; rfl; apply w_mv; apply w_lenR; rfl; assumption; apply w_lss; rfl; rfl; apply w_mvb; rfl; refine w_gdT rfl (by omega) ?_; apply w_gT; rfl; apply w_mvi; rfl; apply w_gT; rfl; apply w_lss; rfl; rfl; apply w_pickTb; rfl; rfl; apply w_done0; refine w_ifdT rfl (by omega) ?_; apply w_skip; apply w_sq; apply w_block; apply w_sq; apply w_reg; apply w_mv; apply w_mvi; rfl)
      refine w_idxR (sz := 4) (R := RAct) rfl hl' rfl rfl e ?_
      rintro b2 o2 cs - hdc ⟨p, n, c, rfl⟩
      (apply w_ldd; rfl; assumption; rfl; apply w_aloL; intro _ _)
      rename_i b5 T5
      refine w_stA 0 rfl rfl rfl rfl rfl rfl ?_
      have hmod : ∃ m : Nat, l[i].k % 8 = (m : Int) := ⟨(l[i].k % 8).toNat, by omega⟩
      obtain ⟨m, hm⟩ := hmod
      by_cases h0 : l[i].kind = 0
      · (apply w_done0; apply w_sq; apply w_reg; apply w_fld; rfl; apply w_ld; rfl; exact hc_i 0 rfl rfl; apply w_done0; apply w_block; apply w_sq; apply w_reg; apply w_eql; rfl; rfl; apply w_mvb; rfl; apply w_done0; refine w_ifdT rfl (by omega) ?_; apply w_sq; apply w_reg; apply w_mvp; rfl)
        refine w_callQ (h1 hp') (List.perm_append_comm (l₁ := [_])) rfl (fun u d2 L2 hl2 ⟨q1, q2⟩ => ?_)
        subst q1
        refine ⟨d2, _ :: L2, Vs.perm (List.perm_append_comm (l₂ := [_])), ?_⟩
        by_cases hz : (s.run (l.take i)).takeR.2.2 = 0
        · have ha : (s.run (l.take i)).act l[i] = ((s.run (l.take i)).takeR.1.put (s.run (l.take i)).takeR.2.1 (fillB l[i].by_)).1 := by unfold PD.act; rw [if_pos h0, if_pos hz]
          (apply w_mvu; rfl; apply w_ext; rfl; rfl; apply w_ext; rfl; rfl; apply w_mvi; rfl; apply w_mvi; rfl; apply w_done0; apply w_sq; apply w_reg; apply w_mvi; rfl; apply w_eql; rfl; rfl; apply w_done0; refine w_ifdT rfl (by omega) ?_; apply w_reg; apply w_mvp; rfl; apply w_mvi; rfl; apply w_fld; rfl; apply w_ld; rfl; exact hc_i 0 rfl rfl)
          refine w_callA (A := []) (B := _ :: L2) rfl rfl (h2 (b := l[i].by_)) (fun w d3 L3 hl3 ⟨g1, g2⟩ => ?_)
          subst g1
          refine w_callQ (h3 (k := (s.run (l.take i)).takeR.2.1) (q2.mono hl3) g2) (List.perm_append_comm (l₁ := [_])) rfl (fun u d4 L4 hl4 ⟨q3, q4⟩ => ?_)
          refine ⟨d4, L4, Vs.drop (List.sublist_append_left _ _), ?_⟩
          (apply w_done0; apply w_reg; apply w_mvi; rfl; apply w_add; rfl; rfl; omega; omega; apply w_mvi; rfl; apply w_done0)
          exact ⟨i + 1, by omega, ⟨rfl, rfl, rfl, trivial⟩, ((hle.trans hl2).trans hl3).trans hl4, e, e4, L4, List.Sublist.refl _, by rw [hn, ha]; exact q4⟩
        · have ha : (s.run (l.take i)).act l[i] = (s.run (l.take i)).takeR.1 := by unfold PD.act; rw [if_pos h0, if_neg hz]
          (apply w_mvu; rfl; apply w_ext; rfl; rfl; apply w_ext; rfl; rfl; apply w_mvi; rfl; apply w_mvi; rfl; apply w_done0; apply w_sq; apply w_reg; apply w_mvi; rfl; apply w_eql; rfl; rfl; apply w_done0; refine w_ifdF rfl (by omega) ?_; apply w_skip; apply w_reg; apply w_mvi; rfl; apply w_add; rfl; rfl; omega; omega; apply w_mvi; rfl; apply w_done0)
          exact ⟨i + 1, by omega, ⟨rfl, rfl, rfl, trivial⟩, hle.trans hl2, e, e4, L2, List.sublist_cons_self _ _, by rw [hn, ha]; exact q2⟩
      · by_cases h1 : l[i].kind = 1
        · have ha : (s.run (l.take i)).act l[i] = ((s.run (l.take i)).put (2 + l[i].k % 8) (fillB l[i].by_)).1 := by unfold PD.act; rw [if_neg h0, if_pos h1]
          (apply w_done0; apply w_sq; apply w_reg; apply w_fld; rfl; apply w_ld; rfl; exact hc_i 0 rfl rfl; apply w_done0; apply w_block; apply w_sq; apply w_reg; apply w_eql; rfl; rfl; apply w_mvb; rfl; apply w_done0; refine w_ifdF rfl (by omega) ?_; apply w_sq; apply w_reg; apply w_eql; rfl; rfl; apply w_mvb; rfl; apply w_done0; refine w_ifdT rfl (by omega) ?_)
          refine w_drawnA [_] L' rfl ?_
          (apply w_mvp; rfl; apply w_fld; rfl; apply w_ld; rfl; exact hc_i 0 rfl rfl)
          refine w_and7 m rfl hm ?_
          (apply w_add; rfl; rfl; omega; omega; apply w_fld; rfl; apply w_ld; rfl; exact hc_i 0 rfl rfl)
          refine w_callA (A := []) (B := L') rfl rfl (h2 (b := l[i].by_)) (fun w d3 L3 hl3 ⟨g1, g2⟩ => ?_)
          subst g1
          have hp3 := h3 (k := 2 + (m : Int)) (hp'.mono hl3) g2
          refine w_callO (L := L') hp3 rfl (fun u d4 L4 hl4 ⟨q3, q4⟩ => ?_)
          refine w_doneX ⟨d4, L4, Vs.drop (List.sublist_append_right _ _), ?_⟩
          (apply w_reg; apply w_mvi; rfl; apply w_add; rfl; rfl; omega; omega; apply w_mvi; rfl; apply w_done0)
          exact ⟨i + 1, by omega, ⟨rfl, rfl, rfl, trivial⟩, (hle.trans hl3).trans hl4, e, e4, L4, List.Sublist.refl _, by rw [hn, ha, hm]; exact q4⟩
        · by_cases h3 : l[i].kind = 3
          · have ha : (s.run (l.take i)).act l[i] = ((s.run (l.take i)).drop (2 + l[i].k % 8)).1 := by unfold PD.act; rw [if_neg h0, if_neg h1, if_pos h3]
            (apply w_done0; apply w_sq; apply w_reg; apply w_fld; rfl; apply w_ld; rfl; exact hc_i 0 rfl rfl; apply w_done0; apply w_block; apply w_sq; apply w_reg; apply w_eql; rfl; rfl; apply w_mvb; rfl; apply w_done0; refine w_ifdF rfl (by omega) ?_; apply w_sq; apply w_reg; apply w_eql; rfl; rfl; apply w_mvb; rfl; apply w_done0; refine w_ifdF rfl (by omega) ?_; apply w_sq; apply w_reg; apply w_eql; rfl; rfl; apply w_mvb; rfl; apply w_done0; refine w_ifdT rfl (by omega) ?_; apply w_reg; apply w_mvp; rfl; apply w_fld; rfl; apply w_ld; rfl; exact hc_i 0 rfl rfl)
            refine w_and7 m rfl hm ?_
            (apply w_add; rfl; rfl; omega; omega)
            refine w_callQ (h4 (k := 2 + (m : Int)) hp') (List.perm_append_comm (l₁ := [_])) rfl (fun u d4 L4 hl4 ⟨q3, q4⟩ => ?_)
            refine ⟨d4, L4, Vs.drop (List.sublist_append_left _ _), ?_⟩
            (apply w_done0; apply w_reg; apply w_mvi; rfl; apply w_add; rfl; rfl; omega; omega; apply w_mvi; rfl; apply w_done0)
            exact ⟨i + 1, by omega, ⟨rfl, rfl, rfl, trivial⟩, hle.trans hl4, e, e4, L4, List.Sublist.refl _, by rw [hn, ha, hm]; exact q4⟩
          · by_cases h4 : l[i].kind = 4
            · have ha : (s.run (l.take i)).act l[i] = (s.run (l.take i)).flush := by unfold PD.act; rw [if_neg h0, if_neg h1, if_neg h3, if_pos h4]
              (apply w_done0; apply w_sq; apply w_reg; apply w_fld; rfl; apply w_ld; rfl; exact hc_i 0 rfl rfl; apply w_done0; apply w_block; apply w_sq; apply w_reg; apply w_eql; rfl; rfl; apply w_mvb; rfl; apply w_done0; refine w_ifdF rfl (by omega) ?_; apply w_sq; apply w_reg; apply w_eql; rfl; rfl; apply w_mvb; rfl; apply w_done0; refine w_ifdF rfl (by omega) ?_; apply w_sq; apply w_reg; apply w_eql; rfl; rfl; apply w_mvb; rfl; apply w_done0; refine w_ifdF rfl (by omega) ?_; apply w_sq; apply w_reg; apply w_eql; rfl; rfl; apply w_mvb; rfl; apply w_done0; refine w_ifdT rfl (by omega) ?_; apply w_reg; apply w_mvp; rfl)
              refine w_callQ (h5 hp') (List.perm_append_comm (l₁ := [_])) rfl (fun u d4 L4 hl4 ⟨q3, q4, q5⟩ => ?_)
              refine ⟨d4, L4, Vs.drop (List.sublist_append_left _ _), ?_⟩
              (apply w_done0; apply w_reg; apply w_mvi; rfl; apply w_add; rfl; rfl; omega; omega; apply w_mvi; rfl; apply w_done0)
              exact ⟨i + 1, by omega, ⟨rfl, rfl, rfl, trivial⟩, hle.trans hl4, e, e4, L4, List.Sublist.refl _, by rw [hn, ha]; exact q5⟩
            · have ha : (s.run (l.take i)).act l[i] = s.run (l.take i) := by unfold PD.act; rw [if_neg h0, if_neg h1, if_neg h3, if_neg h4]
              (apply w_done0; apply w_sq; apply w_reg; apply w_fld; rfl; apply w_ld; rfl; exact hc_i 0 rfl rfl; apply w_done0; apply w_block; apply w_sq; apply w_reg; apply w_eql; rfl; rfl; apply w_mvb; rfl; apply w_done0; refine w_ifdF rfl (by omega) ?_; apply w_sq; apply w_reg; apply w_eql; rfl; rfl; apply w_mvb; rfl; apply w_done0; refine w_ifdF rfl (by omega) ?_; apply w_sq; apply w_reg; apply w_eql; rfl; rfl; apply w_mvb; rfl; apply w_done0; refine w_ifdF rfl (by omega) ?_; apply w_sq; apply w_reg; apply w_eql; rfl; rfl; apply w_mvb; rfl; apply w_done0; refine w_ifdF rfl (by omega) ?_; apply w_skip; apply w_reg; apply w_mvi; rfl; apply w_add; rfl; rfl; omega; omega; apply w_mvi; rfl; apply w_done0)
              exact ⟨i + 1, by omega, ⟨rfl, rfl, rfl, trivial⟩, hle, e, e4, L', List.sublist_cons_self _ _, by rw [hn, ha]; exact hp'⟩
    · have : i = 40 := by omega
      subst this
      (apply w_mvi; rfl; apply w_mv; apply w_lenR; rfl; assumption; apply w_lss; rfl; rfl; apply w_mvb; rfl; refine w_gdT rfl (by omega) ?_; apply w_gT; rfl; apply w_mvi; rfl; apply w_gT; rfl; apply w_lss; rfl; rfl; apply w_pickTb; rfl; rfl; apply w_done0; refine w_ifdF rfl (by omega) ?_; apply w_exit)
      exact fin0 _ (List.Sublist.refl _) ⟨hle, hp'⟩
  · have : i = l.length := by omega
    subst this
    rw [List.take_length] at hp'
    have h40 : l.take 40 = l := List.take_of_length_le hi4
    (apply w_mvi; rfl; apply w_mv; apply w_lenR; rfl; assumption; apply w_lss; rfl; rfl; apply w_mvb; rfl; refine w_gdF rfl (by omega) ?_; apply w_gF; rfl; apply w_gF; rfl; apply w_pickFb; rfl; rfl; apply w_done0; apply w_ifF; rfl; apply w_exit)
    exact fin0 _ (List.Sublist.refl _) ⟨hle, by rw [h40]; exact hp'⟩
end Go.Gk.Pgr
end

section
namespace Go.Gk.Pgr
open Go Go.Gk Go.Gk.Dev Go.Gk.Cch

structure Keep (s t : PD) : Prop where
  frm : t.frm = s.frm
  len : t.kinds.length = s.kinds.length
  syn : t.syn.length = s.syn.length
  old : ∀ i, 2 ≤ s.kd i → 2 ≤ t.kd i
  new : ∀ i, 2 ≤ t.kd i → 2 ≤ s.kd i
  sec : ∀ i, 2 ≤ s.kd i → t.syn.getD (s.frm + i) [] = s.syn.getD (s.frm + i) []
  round : t.round = s.round
theorem Keep.refl (s : PD) : Keep s s := ⟨rfl, rfl, rfl, fun _ h => h, fun _ h => h, fun _ _ => rfl, rfl⟩
theorem Keep.trans {s t u : PD} (h : Keep s t) (k : Keep t u) : Keep s u :=
  ⟨k.frm.trans h.frm, k.len.trans h.len, k.syn.trans h.syn, fun i hi => k.old i (h.old i hi), fun i hi => h.new i (k.new i hi), fun i hi => by have := k.sec i (h.old i hi); rw [h.frm] at this; exact this.trans (h.sec i hi), k.round.trans h.round⟩
theorem Keep.set {s : PD} {i : Nat} {x : Int} {fb : Nat → Sec} (h : 2 ≤ s.kd i ↔ 2 ≤ x) : Keep s { s with kinds := s.kinds.set i x, fb := fb } := by
  have key : ∀ j, 2 ≤ s.kd j ↔ 2 ≤ (s.kinds.set i x).getD j 0 := fun j => by
    by_cases hi : i < s.kinds.length
    · rw [getD_set hi]
      by_cases e : j = i
      · subst e; rw [if_pos rfl]; exact h
      · rw [if_neg e]
    · rw [List.set_eq_of_length_le (by omega)]
  exact ⟨rfl, by simp, rfl, fun j hj => (key j).1 hj, fun j hj => (key j).2 hj, fun _ _ => rfl, rfl⟩
theorem Keep.fb {s : PD} {fb : Nat → Sec} : Keep s { s with fb := fb } := ⟨rfl, rfl, rfl, fun _ h => h, fun _ h => h, fun _ _ => rfl, rfl⟩
theorem Keep.tc {s : PD} {tc : Nat} : Keep s { s with tc := tc } := ⟨rfl, rfl, rfl, fun _ h => h, fun _ h => h, fun _ _ => rfl, rfl⟩
theorem Keep.takeR (s : PD) : Keep s s.takeR.1 := by
  unfold PD.takeR
  cases h : place0 0 s.kinds with
  | none => exact Keep.refl s
  | some i =>
    obtain ⟨h1, h2⟩ := place0_some h
    exact Keep.set (by rw [kd_get h1, h2]; decide)
theorem Keep.put (s : PD) (k : Int) (b : Sec) : Keep s (s.put k b).1 := by
  unfold PD.put
  split
  · split
    · exact Keep.fb
    · exact Keep.refl s
  · exact Keep.refl s
theorem Keep.drop (s : PD) (k : Int) : Keep s (s.drop k).1 := by
  unfold PD.drop
  split
  · rename_i h
    obtain ⟨i, h1, rfl, h2, h3⟩ := kind_in h (by omega)
    rw [h3]
    exact Keep.set (by rw [h2]; decide)
  · split
    · rename_i h
      obtain ⟨i, h1, rfl, h2, h3⟩ := kind_in h (by omega)
      rw [h3]
      exact Keep.set (by rw [h2]; decide)
    · exact Keep.refl s
theorem flush_at {s : PD} {i : Nat} (h : s.kd i ≠ 1) : s.flush.syn.getD (s.frm + i) [] = s.syn.getD (s.frm + i) [] := by
  refine synced_at (fun w hw e => ?_)
  obtain ⟨j, h4, h5, rfl⟩ := writes_mem hw
  simp only at e
  rw [show j = i by omega] at h5
  exact h h5
theorem Keep.flush (s : PD) : Keep s s.flush := ⟨rfl, rfl, synced_len _ _, fun _ h => h, fun _ h => h, fun i hi => flush_at (by omega), rfl⟩
theorem Keep.act (s : PD) (a : AD) : Keep s (s.act a) := by
  unfold PD.act
  split
  · split
    · exact (Keep.takeR s).trans (Keep.put _ _ _)
    · exact Keep.takeR s
  · split
    · exact Keep.put _ _ _
    · split
      · exact Keep.drop _ _
      · split
        · exact Keep.flush s
        · exact Keep.refl s
theorem Keep.run (l : List AD) : ∀ s : PD, Keep s (s.run l) := by
  induction l with
  | nil => exact fun s => Keep.refl s
  | cons a l ih => exact fun s => (Keep.act s a).trans (ih (s.act a))
theorem get_old {s : PD} {k : Int} (h : s.kind k = 2) : s.get k = ({ s with tc := s.tc + 1 }, some (s.syn.getD k.toNat [])) := by
  unfold PD.get
  rw [if_neg (by omega), if_pos h]
theorem Keep.old_at {s t : PD} (h : Keep s t) {k : Int} (hk : s.kind k = 2) : t.syn.getD k.toNat [] = s.syn.getD k.toNat [] := by
  obtain ⟨i, h1, rfl, h2, h3⟩ := kind_in hk (by omega)
  exact h.sec i (by omega)
theorem Dv.sec {d : PHeap} {D : DevD} {v : Value} {L : List PHeap} (h : Dv d D v L) {k : Nat} (hk : k < D.syn.length) : (D.syn.getD k []).length = 256 := by
  obtain ⟨b, T, vs, vo, r, hs, ho, -, -, h3, -⟩ := h
  obtain ⟨cs, h1, h2⟩ := h3
  rw [List.getD_eq_getElem?_getD, List.getElem?_eq_getElem hk]
  exact (h2 k hk).2
theorem Pg.dev {d : PHeap} {s : PD} {dv pv : Value} {L : List PHeap} (h : Pg d s dv pv L) : ∃ A LD, L = A ++ LD ∧ Dv d ⟨s.syn, []⟩ dv LD := by
  obtain ⟨b, T, cv, bk, cp, hk, mb, ms, clk, c, LC, LD, bd, h1, h2, h3, h4, h5, h6, h7, h8, h9⟩ := h
  exact ⟨_ :: hk :: mpI mb ms clk :: LC, LD, h3, h7⟩
theorem Keep.og {s t : PD} (h : Keep s t) : Og s.kinds t.kinds := ⟨h.len.symm, fun i => ⟨h.old i, h.new i⟩⟩
theorem Keep.back {s t : PD} (h : Keep s t) : Keep s (t.back s.mark) := ⟨h.frm, rfl, h.syn, fun _ q => q, fun _ q => q, h.sec, h.round⟩
def PD.bytes (s : PD) (k : Int) : Sec := if s.kind k = 1 then s.fb (k - s.frm).toNat else if s.kind k = 2 then s.syn.getD k.toNat [] else []
def PD.errK (s : PD) (k : Int) : Int := if s.kind k = 1 then 0 else if s.kind k = 2 then 0 else 240
theorem back_kind {s t : PD} (h : Keep s t) (k : Int) : (t.back s.mark).kind k = s.kind k := by
  unfold PD.kind
  rw [show (t.back s.mark).frm = s.frm from h.frm]; rfl
theorem back_bytes {s t : PD} (h : Keep s t) (k : Int) : (t.back s.mark).bytes k = s.bytes k := by
  have hk := back_kind h k
  unfold PD.bytes
  rw [hk]
  by_cases h1 : s.kind k = 1
  · rw [if_pos h1, if_pos h1, show (t.back s.mark).frm = s.frm from h.frm]; rfl
  · rw [if_neg h1, if_neg h1]
    by_cases h2 : s.kind k = 2
    · rw [if_pos h2, if_pos h2]; exact h.old_at h2
    · rw [if_neg h2, if_neg h2]
theorem back_err {s t : PD} (h : Keep s t) (k : Int) : (t.back s.mark).errK k = s.errK k := by
  unfold PD.errK; rw [back_kind h k]
def eb (x : Int) : UInt8 := UInt8.ofNat (x % 256).toNat
def PD.pages (s : PD) (n : Nat) : List UInt8 := (List.range n).flatMap fun (k : Nat) => s.bytes (k : Int) ++ [eb (s.errK (k : Int))]
def PD.look (s : PD) : List UInt8 := s.pages 12 ++ s.olds.map eb ++ [eb s.free]
theorem pages_next {s : PD} {n : Nat} : s.pages (n + 1) = s.pages n ++ (s.bytes (n : Int) ++ [eb (s.errK (n : Int))]) := by simp [PD.pages, List.range_succ, List.flatMap_append]
theorem back_look {s t : PD} (h : Keep s t) : (t.back s.mark).look = s.look := by
  unfold PD.look PD.pages PD.olds PD.free
  rw [show (t.back s.mark).frm = s.frm from h.frm]
  simp only [back_bytes h, back_err h]
  rfl
theorem bytes_tc {s : PD} {n : Nat} {k : Int} : PD.bytes { s with tc := n } k = s.bytes k := rfl
theorem errK_tc {s : PD} {n : Nat} {k : Int} : PD.errK { s with tc := n } k = s.errK k := rfl
theorem bytes_old {s : PD} {k : Int} (h : s.kind k = 2) : s.bytes k = s.syn.getD k.toNat [] := by unfold PD.bytes; rw [if_neg (by omega), if_pos h]
theorem errK_old {s : PD} {k : Int} (h : s.kind k = 2) : s.errK k = 0 := by unfold PD.errK; rw [if_neg (by omega), if_pos h]
theorem PGetOk.at {P : Program} {f : FuncId} (h : PGetOk P f) {d : PHeap} {s : PD} {dv pv : Value} {L : List PHeap} {k : Int} (hp : Pg d s dv pv L) :
    GCall P f [pv, .int .i64 k] d L (Ret fun r d' L' => ∃ a c tc, r = .tuple #[.slice a (s.bytes k).length c, .int .i64 (s.errK k)] ∧ RBytes d' (.slice a (s.bytes k).length c) (s.bytes k) ∧ Pg d' { s with tc := tc } dv pv L') := by
  refine GCall.monoR (h (k := k) hp) (fun r d' L' _ ⟨⟨q, q1, q2⟩, q3⟩ => ⟨d', L', Vs.refl _ _, ?_⟩)
  subst q1
  unfold PD.bytes PD.errK
  unfold PD.get at q2 q3 ⊢
  by_cases h1 : s.kind k = 1
  · simp only [if_pos h1] at q2 q3 ⊢
    obtain ⟨a, c, rfl⟩ := RSl.val q2
    exact ⟨a, c, _, rfl, q2, q3⟩
  · by_cases h2 : s.kind k = 2
    · simp only [if_neg h1, if_pos h2] at q2 q3 ⊢
      obtain ⟨a, c, rfl⟩ := RSl.val q2
      exact ⟨a, c, _, rfl, q2, q3⟩
    · simp only [if_neg h1, if_neg h2] at q2 q3 ⊢
      obtain rfl : q = .slice none 0 0 := q2
      exact ⟨none, 0, s.tc, rfl, RSl.nil, q3⟩
end Go.Gk.Pgr
end

section
namespace Go.Gk.Pgr
open Go Go.Gk Go.Gk.Dev Go.Gk.Cch

theorem getD_setS {l : List Sec} {i j : Nat} {x : Sec} (hi : i < l.length) : (l.set i x).getD j [] = if j = i then x else l.getD j [] := by
  simp only [List.getD_eq_getElem?_getD, List.getElem?_set]
  by_cases e : i = j
  · subst e; simp [hi]
  · rw [if_neg e, if_neg (fun h => e h.symm)]
theorem synced_writes {s : PD} (hin : s.frm + s.kinds.length ≤ s.syn.length) {i : Nat} (h1 : s.kd i = 1) : ∀ {n : Nat}, n ≤ s.kinds.length → i < n → (synced (s.writes n) s.syn).getD (s.frm + i) [] = s.fb i
  | n + 1, hn, hi => by
    rw [PD.writes]
    by_cases e : i = n
    · subst e
      rw [if_pos h1, synced_snoc, getD_setS (by rw [synced_len]; omega), if_pos rfl]
    · have ih := synced_writes hin h1 (n := n) (by omega) (by omega)
      split
      · rw [synced_snoc, getD_setS (by rw [synced_len]; omega), if_neg (by omega)]; exact ih
      · rw [List.append_nil]; exact ih
abbrev PD.fin (s : PD) : PD := s.flush.done
theorem kind_fin {s : PD} {k : Int} : s.fin.kind k = doneK (s.kind k) := by
  unfold PD.kind
  have h1 : s.fin.frm = s.frm := rfl
  have h2 : s.fin.kinds.length = s.kinds.length := by simp [PD.fin, PD.done, PD.flush]
  rw [h1, h2]
  split
  · show (s.kinds.map doneK).getD _ 0 = _
    rw [getD_map]
  · rfl
theorem bytes_fin {s : PD} (hG : Good s) {k : Int} : s.fin.bytes k = s.bytes k := by
  have hk := kind_fin (s := s) (k := k)
  have hrng : s.kind k = -1 ∨ (0 ≤ s.kind k ∧ s.kind k ≤ 3) := by
    unfold PD.kind
    split
    · exact .inr (hG.kd _)
    · exact .inl rfl
  have hin := hG.inn
  by_cases h1 : s.kind k = 1
  · rw [h1] at hk
    have hk2 : s.fin.kind k = 2 := hk
    rw [bytes_old hk2]
    obtain ⟨i, i1, rfl, i2, i3⟩ := kind_in h1 (by omega)
    have : s.bytes ((s.frm + i : Nat) : Int) = s.fb i := by unfold PD.bytes; rw [if_pos h1, i3]
    rw [this]
    exact synced_writes hin i2 (Nat.le_refl _) i1
  · by_cases h2 : s.kind k = 2
    · rw [h2] at hk
      have hk2 : s.fin.kind k = 2 := hk
      rw [bytes_old hk2, bytes_old h2]
      obtain ⟨i, i1, rfl, i2, i3⟩ := kind_in h2 (by omega)
      exact flush_at (by omega)
    · have h3 : s.fin.kind k ≠ 1 ∧ s.fin.kind k ≠ 2 := by
        rw [hk]; unfold doneK
        by_cases q : s.kind k = 3
        · rw [if_pos q]; omega
        · rw [if_neg q, if_neg h1]; omega
      unfold PD.bytes
      rw [if_neg h3.1, if_neg h3.2, if_neg h1, if_neg h2]
theorem Pg.full {d : PHeap} {s : PD} {dv pv : Value} {L : List PHeap} (h : Pg d s dv pv L) {k : Int} (hk : s.kind k = 1 ∨ s.kind k = 2) : (s.bytes k).length = 256 := by
  have hG := h.good
  obtain ⟨A, LD, -, hD⟩ := h.dev
  obtain ⟨b, T, cv, bk, cp, hkk, mb, ms, clk, c, LC, LD, bd, h1, h2, h3, h4, h5, -⟩ := h
  have hin := hG.inn
  rcases hk with hk | hk
  · obtain ⟨i, i1, rfl, i2, i3⟩ := kind_in hk (by omega)
    obtain ⟨v, -, -, q⟩ := h5 i i1 i2
    unfold PD.bytes; rw [if_pos hk, i3]; exact q
  · obtain ⟨i, i1, rfl, i2, i3⟩ := kind_in hk (by omega)
    rw [bytes_old hk]
    exact Dv.sec hD (show ((s.frm + i : Nat) : Int).toNat < s.syn.length by omega)
theorem bytes_none {s : PD} {k : Int} (h1 : s.kind k ≠ 1) (h2 : s.kind k ≠ 2) : s.bytes k = [] := by unfold PD.bytes; rw [if_neg h1, if_neg h2]
theorem kd_fin {s : PD} (hG : Good s) {i : Nat} : s.fin.kd i = 0 ∨ s.fin.kd i = 2 := by
  show (s.kinds.map doneK).getD i 0 = 0 ∨ (s.kinds.map doneK).getD i 0 = 2
  rw [getD_map]
  have h : 0 ≤ s.kinds.getD i 0 ∧ s.kinds.getD i 0 ≤ 3 := hG.kd i
  unfold doneK
  by_cases q : s.kinds.getD i 0 = 3
  · rw [if_pos q]; omega
  · rw [if_neg q]
    by_cases q1 : s.kinds.getD i 0 = 1
    · rw [if_pos q1]; omega
    · rw [if_neg q1]; omega
theorem oldsF_count {frm : Nat} : ∀ {l : List Int} {i : Nat}, (oldsF frm l i).length = l.countP (· == 2)
  | [], _ => rfl
  | x :: l, i => by
    rw [oldsF]
    by_cases e : x = 2
    · rw [if_pos e, List.length_cons, oldsF_count, List.countP_cons_of_pos (by simpa using e)]
    · rw [if_neg e, oldsF_count, List.countP_cons_of_neg (by simpa using e)]
theorem count_two : ∀ {l : List Int}, (∀ x ∈ l, x = 0 ∨ x = 2) → l.countP (· == 0) + l.countP (· == 2) = l.length
  | [], _ => rfl
  | x :: l, h => by
    have ih := count_two (l := l) (fun y hy => h y (List.mem_cons_of_mem _ hy))
    rcases h x (List.mem_cons_self ..) with rfl | rfl
    · rw [List.countP_cons_of_pos (by decide), List.countP_cons_of_neg (by decide), List.length_cons]; omega
    · rw [List.countP_cons_of_neg (by decide), List.countP_cons_of_pos (by decide), List.length_cons]; omega
def cntO (s : PD) (i : Nat) : Nat := (s.kinds.take (i - s.frm)).countP (· == 2)
theorem cntO_zero {s : PD} : cntO s 0 = 0 := by simp [cntO]
theorem cntO_next {s : PD} {i : Nat} : cntO s (i + 1) = cntO s i + (if s.kind i = 2 then 1 else 0) := by
  unfold cntO
  by_cases h : s.frm ≤ i
  · obtain ⟨j, rfl⟩ : ∃ j, i = s.frm + j := ⟨i - s.frm, by omega⟩
    rw [show s.frm + j + 1 - s.frm = j + 1 by omega, show s.frm + j - s.frm = j by omega]
    by_cases hj : j < s.kinds.length
    · rw [List.take_succ_eq_append_getElem hj, List.countP_append, show s.kind ((s.frm + j : Nat) : Int) = s.kinds[j] by rw [kind_at hj, kd_get hj]]
      congr 1
      simp [List.countP_cons, List.countP_nil]
    · rw [List.take_of_length_le (by omega), List.take_of_length_le (by omega), if_neg (by unfold PD.kind; rw [if_neg (by omega)]; omega), Nat.add_zero]
  · rw [show i + 1 - s.frm = 0 by omega, show i - s.frm = 0 by omega, if_neg (by unfold PD.kind; rw [if_neg (by omega)]; omega), Nat.add_zero]
theorem cnt_all {s : PD} (hG : Good s) {n : Nat} (hn : s.frm + s.kinds.length ≤ n) : s.fin.olds.length = cntO s.fin n ∧ s.fin.free + cntO s.fin n = s.kinds.length := by
  have hl : s.fin.kinds.length = s.kinds.length := by simp [PD.fin, PD.done, PD.flush]
  have e : cntO s.fin n = s.fin.kinds.countP (· == 2) := by
    unfold cntO
    rw [List.take_of_length_le (by rw [hl]; show s.kinds.length ≤ n - s.frm; omega)]
  rw [e]
  refine ⟨oldsF_count, ?_⟩
  rw [← hl]
  refine count_two (fun x hx => ?_)
  obtain ⟨i, hi, rfl⟩ := List.getElem_of_mem hx
  have := kd_fin hG (i := i)
  rw [kd_get hi] at this
  exact this
end Go.Gk.Pgr
end

section
namespace Go.Gk
open Go

def KeptA (X : List Nat) (a0 a : Act) : Prop := ∀ t, t ∉ X → a.tmps[t]? = a0.tmps[t]?
theorem KeptA.put {X : List Nat} {a0 a : Act} (h : KeptA X a0 a) {dst : Option Nat} (hd : ∀ t, dst = some t → t ∈ X) (v : Value) : KeptA X a0 (a.put dst v) := by
  intro t ht
  cases dst with
  | none => exact h t ht
  | some d =>
    have hne : d ≠ t := fun e => ht (e ▸ hd d rfl)
    show (a.tmps.setIfInBounds d v)[t]? = _
    rw [Array.getElem?_setIfInBounds, if_neg hne]
    exact h t ht
theorem KeptA.defer {X : List Nat} {a0 a : Act} (h : KeptA X a0 a) (l : List Deferred) : KeptA X a0 { a with defers := l } := h
def withK (X : List Nat) (a0 : Act) (Q : Exit → Act → World → Prop) : Exit → Act → World → Prop := fun e a w => Q e a w ∧ (e = .outgrown ∨ KeptA X a0 a)
theorem letsOut_k {X : List Nat} {a0 : Act} {Q : Exit → Act → World → Prop} (h : LetsOut Q) : LetsOut (withK X a0 Q) := let ⟨a, w, h⟩ := h; ⟨a, w, h, .inl rfl⟩
section
variable {P : Program} {ops : Array Oper} {Q : Exit → Act → World → Prop} {X : List Nat} {a0 : Act}
theorem wp_kept {o : Oper} {a : Act} {w : World} {K : Act → World → Prop} (hd : ∀ t, o.dst = some t → t ∈ X) (hk : KeptA X a0 a) (h : o.wp P a w K Q) : o.wp P a w (fun a w => K a w ∧ KeptA X a0 a) (withK X a0 Q) := by
  unfold Oper.wp at *
  generalize (execOp a.eval o).run P w = r at *
  cases r with
  | ok n w' =>
    cases n <;> simp only [Oper.upon] at h ⊢ <;>
      first
        | exact ⟨h, hk.put hd _⟩
        | exact ⟨h, (hk.defer _).put hd _⟩
        | exact Calls.mono h (fun e w'' he => by
            cases e with
            | returned v => exact ⟨he, hk.put hd v⟩
            | panicked c => exact ⟨he, .inr hk⟩
            | outgrown => exact letsOut_k he)
        | exact Rows.mono h (fun _ _ he => ⟨he, hk.put hd _⟩)
        | exact h
  | halt x w' => cases x <;> simp only [Oper.upon] at h ⊢ <;> first | exact ⟨h, .inr hk⟩ | exact h
theorem wpOp_kept {i : Nat} {a : Act} {w : World} {K : Act → World → Prop} (hd : ∀ (o : Oper), ops[i]? = some o → ∀ t, o.dst = some t → t ∈ X) (hk : KeptA X a0 a) (h : wpOp P ops Q i K a w) : wpOp P ops (withK X a0 Q) i (fun a w => K a w ∧ KeptA X a0 a) a w := by
  unfold wpOp at *
  split
  · exact ⟨by simpa [*] using h, hk⟩
  · rename_i o ho
    simp only [ho] at h
    split
    · rename_i hw; simp only [hw, if_true] at h; exact h.imp (wp_kept (hd o ho) hk) (fun h => ⟨h.1, letsOut_k h.2⟩)
    · rename_i hw; simp only [hw] at h; exact ⟨h, hk.put (hd o ho) _⟩
theorem wpOps_kept (hd : ∀ (i : Nat) (o : Oper), ops[i]? = some o → ∀ t, o.dst = some t → t ∈ X) : ∀ (l : List Nat) (a : Act) (w : World), KeptA X a0 a → wpOps P ops Q l a w → wpOps P ops (withK X a0 Q) l a w
  | [], a, w, hk, h => ⟨h, .inr hk⟩
  | i :: l, a, w, hk, h => by
    rw [wpOps_cons] at h ⊢
    exact wpOp_mono (fun a w h => wpOps_kept hd l a w h.2 h.1) (wpOp_kept (hd i) hk h)
theorem wpAny_kept (hd : ∀ (i : Nat) (o : Oper), ops[i]? = some o → ∀ t, o.dst = some t → t ∈ X) : ∀ (k : Nat) (listed : Array Bool) (a : Act) (w : World), KeptA X a0 a → wpAny P .any ops Q k listed a w → wpAny P .any ops (withK X a0 Q) k listed a w
  | 0, _, _, _, hk, h => ⟨h.1, h.2, .inr hk⟩
  | k + 1, _, a, w, hk, h => ⟨fun e => ⟨h.1 e, .inr hk⟩, fun i hi => wpOp_mono (fun a w h => wpAny_kept hd k _ a w h.2 h.1) (wpOp_kept (hd i) hk (h.2 i hi))⟩
end
def dstsC : Code → List Nat
  | .region _ ops _ => ops.toList.filterMap (·.dst)
  | .seq a b => dstsC a ++ dstsC b
  | .cond _ a b => dstsC a ++ dstsC b
  | .block _ a => dstsC a
  | .loop a => dstsC a
  | _ => []
theorem dsts_region {id : Nat} {ops : Array Oper} {dr : Bool} {X : List Nat} (h : ∀ t ∈ dstsC (.region id ops dr), t ∈ X) : ∀ (i : Nat) (o : Oper), ops[i]? = some o → ∀ t, o.dst = some t → t ∈ X := by
  intro i o ho t ht
  refine h t ?_
  simp only [dstsC, List.mem_filterMap]
  exact ⟨o, Array.mem_toList_iff.2 (Array.mem_of_getElem? ho), ht⟩
theorem region_kept {pr : Bool} {P : Program} {n : Nat} {ds : List Deferred} {ops : Array Oper} {Q : GPost} {F : List PHeap} {W0 : World} {d0 : PHeap} {id : Nat} (hm : P.follows .mixedOrders = true) {X : List Nat} {a0 : Act}
    (hX : ∀ (i : Nat) (o : Oper), ops[i]? = some o → ∀ t, o.dst = some t → t ∈ X) {s : GS} (hs : decR pr P n ops true = some s) {ρ : Env} {d : PHeap} {L Ls : List PHeap} {W : World} (h : gws P Q.pan Q.n s Ls ρ d L) (hOk : Ok (d :: (L ++ (Ls ++ F))) W) (hle : Le d0 d) (hk : Keep W0 W) (hka : KeptA X a0 (act n ρ ds)) :
    (Code.region id ops true).wp P (withK X a0 (lift n ds F W0 d0 Q)) (act n ρ ds) W := by
  simp only [decR] at hs
  split at hs
  · rename_i hc
    simp only [Bool.and_eq_true, decide_eq_true_eq] at hc
    obtain ⟨⟨⟨h1, h2⟩, h3⟩, h4⟩ := hc
    refine wp_region_any hm (wpAny_kept hX _ _ _ _ hka (AnyB.any _ _ _ _ ((any_sound h1 h2 _ true false _ s ρ d L Ls ops.size _ h4 hs (fun e => by cases e) h hOk.drew hle ?_ h3).1 rfl)))
    exact hk.trans ⟨rfl, rfl, rfl, Nat.le_refl _⟩
  · cases hs
theorem gwp_soundK {pr : Bool} {P : Program} {n : Nat} {ds : List Deferred} {F : List PHeap} {W0 : World} {d0 : PHeap} (hm : P.follows .mixedOrders = true) {X : List Nat} {a0 : Act} :
    ∀ (c : Code) (Q : GPost) (ρ : Env) (d : PHeap) (L : List PHeap) (W : World), (∀ t ∈ dstsC c, t ∈ X) → KeptA X a0 (act n ρ ds) → gwp P (decC pr P n c) Q ρ d L → Ok (d :: (L ++ F)) W → Le d0 d → Keep W0 W → c.wp P (withK X a0 (lift n ds F W0 d0 Q)) (act n ρ ds) W := by
  intro c
  induction c with
  | skip =>
    intro Q ρ d L W hX hka h hOk hle hk
    exact wp_skip ⟨⟨ρ, d, L, rfl, hOk, hle, hk, h⟩, .inr hka⟩
  | region id ops drawn =>
    intro Q ρ d L W hX hka h hOk hle hk
    have hX' := dsts_region hX
    simp only [decC] at h
    cases hs : decR pr P n ops drawn with
    | none => rw [hs] at h; exact h.elim
    | some s =>
    rw [hs] at h
    cases drawn with
    | false =>
      simp only [decR] at hs
      exact wp_region (wpOps_kept hX' _ _ _ hka (straight_sound _ s hs ρ d L W h hOk hle hk))
    | true =>
      obtain ⟨d1, Ls, L1, hv, h⟩ := h
      have hOk1 := hv.2 F W hOk
      refine region_kept hm hX' hs h (hOk1.perm (List.Perm.cons d1 ?_)) (hle.trans hv.1) hk hka
      rw [← List.append_assoc]
      exact (List.perm_append_comm).append_right F
  | seq a b iha ihb =>
    intro Q ρ d L W hX hka h hOk hle hk
    refine wp_seq (wp_mono (iha _ ρ d L W (fun t ht => hX t (List.mem_append_left _ ht)) hka h hOk hle hk) ?_)
    intro e a w hq
    cases e with
    | normal =>
      obtain ⟨⟨ρ', d', L', rfl, h1, h2, h3, h4⟩, hka'⟩ := hq
      exact ihb Q ρ' d' L' w (fun t ht => hX t (List.mem_append_right _ ht)) (hka'.resolve_left (by simp)) h4 h1 h2 h3
    | _ => exact hq
  | cond c a b iha ihb =>
    intro Q ρ d L W hX hka h hOk hle hk
    simp only [decC] at h
    split at h
    · rename_i hc
      obtain ⟨t, ht, h1, h2⟩ := h
      exact wp_cond_split (by rw [act_eval hc]; exact ht) (fun e => iha Q ρ d L W (fun t ht => hX t (List.mem_append_left _ ht)) hka (h1 e) hOk hle hk) (fun e => ihb Q ρ d L W (fun t ht => hX t (List.mem_append_right _ ht)) hka (h2 e) hOk hle hk)
    · exact h.elim
  | block id a iha =>
    intro Q ρ d L W hX hka h hOk hle hk
    refine wp_block (wp_mono (iha _ ρ d L W hX hka h hOk hle hk) ?_)
    intro e a w hq
    cases e with
    | exit i =>
      obtain ⟨⟨ρ', d', L', rfl, h1, h2, h3, h4⟩, hka'⟩ := hq
      have hka' := hka'.resolve_left (by simp)
      simp only [Exit.inBlock]
      by_cases e : i = id
      · simp only [e, if_true] at h4 ⊢
        exact ⟨⟨ρ', d', L', rfl, h1, h2, h3, h4⟩, .inr hka'⟩
      · simp only [if_neg e] at h4 ⊢
        exact ⟨⟨ρ', d', L', rfl, h1, h2, h3, h4⟩, .inr hka'⟩
    | _ => exact hq
  | loop a iha =>
    intro Q ρ d L W hX hka h hOk hle hk
    obtain ⟨I, ⟨m, hI⟩, round⟩ := h
    refine wp_loop_ghost (fun m a w => ∃ ρ d L, a = act n ρ ds ∧ Ok (d :: (L ++ F)) w ∧ Le d0 d ∧ Keep W0 w ∧ I m ρ d L ∧ KeptA X a0 a) m ⟨ρ, d, L, rfl, hOk, hle, hk, hI, hka⟩ ?_
    rintro m a w ⟨ρ', d', L', rfl, h1, h2, h3, h4, hka'⟩
    refine wp_mono (iha _ ρ' d' L' w hX hka' (round m ρ' d' L' h4) h1 h2 h3) ?_
    intro e a w hq
    cases e with
    | normal =>
      obtain ⟨⟨ρ'', d'', L'', rfl, k1, k2, k3, m', k4, k5⟩, hka''⟩ := hq
      exact ⟨m', k4, ρ'', d'', L'', rfl, k1, k2, k3, k5, hka''.resolve_left (by simp)⟩
    | _ => exact hq
  | exit id =>
    intro Q ρ d L W hX hka h hOk hle hk
    exact wp_exit ⟨⟨ρ, d, L, rfl, hOk, hle, hk, h⟩, .inr hka⟩
  | ret =>
    intro Q ρ d L W hX hka h hOk hle hk
    exact wp_ret ⟨⟨ρ, d, L, rfl, hOk, hle, hk, h⟩, .inr hka⟩
  | _ => intro Q ρ d L W hX hka h; exact h.elim
end Go.Gk
end
