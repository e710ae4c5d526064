/-
  Our own texts, one behind the other: GkPgA GkPgArg.
-/
import Derived.Test.YtjclkpgmloejoaaPkE
section
namespace Go.Gk.Pgr
open Go Go.Gk Go.Gk.Dev Go.Gk.Cch Go.Gk.Node
attribute [local irreducible] gwp gws xwp

def wasL (s : PD) (i : Nat) : List Value := (List.range 10).map fun k => strV (if k < i then s.bytes k else [])
theorem wasL_at {s : PD} {i k : Nat} (hk : k < 10) : (wasL s i)[k]? = some (strV (if k < i then s.bytes k else [])) := by
  rw [wasL, List.getElem?_map, List.getElem?_range hk]; rfl
theorem wasL_len {s : PD} {i : Nat} : (wasL s i).length = 10 := by simp [wasL]
theorem wasL_next {s : PD} {i : Nat} (hi : i < 10) : patch (wasL s i) (i * 1) [strV (s.bytes i)] = wasL s (i + 1) := by
  rw [Nat.mul_one, patch_set (by rw [wasL_len]; exact hi)]
  refine List.ext_getElem? (fun k => ?_)
  rw [List.getElem?_set]
  by_cases hk : k < 10
  · rw [wasL_at hk, wasL_at hk, wasL_len]
    by_cases e : i = k
    · subst e; rw [if_pos rfl, if_pos hk, if_pos (by omega)]
    · rw [if_neg e]
      by_cases q : k < i
      · rw [if_pos q, if_pos (by omega)]
      · rw [if_neg q, if_neg (by omega)]
  · rw [List.getElem?_eq_none (by rw [wasL_len]; omega), List.getElem?_eq_none (by rw [wasL_len]; omega), wasL_len, if_neg (by omega)]
theorem lose_perm (w : PHeap) (LX LD A : List PHeap) : ((LX ++ LD) ++ (w :: A)).Perm (w :: (LX ++ (A ++ LD))) :=
  List.perm_middle.trans (List.Perm.cons _ (by rw [List.append_assoc]; exact List.Perm.append_left LX List.perm_append_comm))
theorem sub8 {a b : Nat} (h : a + b = 8) : (8 : Int) - (b : Int) = (a : Int) := by omega
def g_thimblelaw19_PagerFlushes (f_thimblelaw19_works f_thimblelaw19_made f_thimblelaw19_run f_pager_Pager_Free f_pager_Pager_Get f_pager_Pager_Flush f_pager_Pager_Done f_device_Device_Lose f_device_Device_Read f_pager_Pager_Old : Nat) : GFun :=
 ⟨130, [(.tmp 8)],
 (.seq
 (.reg false (.op false ⟨(some 8), none, (.mv (.const (.bool false)))⟩ .done))
 (.seq (.seq
 (.reg false (.op false ⟨(some 24), none, (.call f_thimblelaw19_works [])⟩
  (.op false ⟨(some 25), none, (.un .not (.tmp 24))⟩ .done))) (.cond (.tmp 25)
 (.seq
 (.reg false (.op false ⟨(some 8), none, (.mv (.const (.bool false)))⟩ .done)) .ret) .skip))
 (.seq
 (.reg false (.op false ⟨(some 27), none, (.bsl 1 1 [(.int .i64 0)] [(0, (.const (.int .i64 9)))])⟩
  (.op false ⟨(some 28), none, (.call f_thimblelaw19_made [(.tmp 27)])⟩
  (.op false ⟨(some 26), none, (.mv (.tmp 28))⟩
  (.op false ⟨(some 29), none, (.ext (.tmp 26) 0)⟩
  (.op false ⟨(some 30), none, (.ext (.tmp 26) 1)⟩
  (.op false ⟨(some 9), none, (.mv (.tmp 29))⟩
  (.op false ⟨(some 10), none, (.mv (.tmp 30))⟩ .done))))))))
 (.seq (.seq
 (.reg false (.op false ⟨(some 31), none, (.mv (.tmp 10))⟩
  (.op false ⟨(some 32), none, (.eqp false (.tmp 31) (.const (.pointer none)))⟩ .done))) (.cond (.tmp 32)
 (.seq
 (.reg false (.op false ⟨(some 8), none, (.mv (.const (.bool false)))⟩ .done)) .ret) .skip))
 (.seq
 (.reg false (.op false ⟨(some 33), none, (.mv (.tmp 10))⟩
  (.op false ⟨(some 34), none, (.mv (.tmp 0))⟩
  (.op false ⟨(some 35), none, (.call f_thimblelaw19_run [(.tmp 33), (.tmp 34)])⟩ .done))))
 (.seq
 (.reg false (.op false ⟨(some 36), none, (.mv (.tmp 10))⟩
  (.op false ⟨(some 37), none, (.call f_pager_Pager_Free [(.tmp 36)])⟩
  (.op false ⟨(some 11), none, (.mv (.tmp 37))⟩ .done))))
 (.seq
 (.reg false (.op false ⟨(some 12), none, (.alo (.agg #[(strV []), (strV []), (strV []), (strV []), (strV []), (strV []), (strV []), (strV []), (strV []), (strV [])]))⟩ .done))
 (.seq (.seq
 (.reg false (.op false ⟨(some 38), none, (.mv (.const (.int .i64 0)))⟩ .done)) (.block 0 (.loop
 (.seq
 (.reg false (.op false ⟨(some 39), none, (.bin .lss (.tmp 38) (.const (.int .i64 10)))⟩ .done))
 (.seq (.cond (.tmp 39) .skip (.exit 0))
 (.seq (.block 1
 (.seq
 (.reg false (.op false ⟨(some 40), none, (.mv (.tmp 38))⟩
  (.op false ⟨(some 13), none, (.mv (.tmp 40))⟩ .done)))
 (.seq
 (.reg false (.op false ⟨(some 42), none, (.mv (.tmp 10))⟩
  (.op false ⟨(some 43), none, (.mv (.tmp 13))⟩
  (.op false ⟨(some 44), none, (.call f_pager_Pager_Get [(.tmp 42), (.tmp 43)])⟩
  (.op false ⟨(some 41), none, (.mv (.tmp 44))⟩
  (.op false ⟨(some 45), none, (.ext (.tmp 41) 0)⟩
  (.op false ⟨(some 46), none, (.ext (.tmp 41) 1)⟩
  (.op false ⟨(some 14), none, (.mv (.tmp 45))⟩
  (.op false ⟨(some 15), none, (.mv (.tmp 46))⟩ .done)))))))))
 (.reg false (.op false ⟨(some 47), none, (.mv (.tmp 13))⟩
  (.op false ⟨(some 48), none, (.mv (.tmp 14))⟩
  (.op false ⟨(some 49), none, (.b2s (.tmp 48))⟩
  (.op false ⟨(some 50), none, (.idxa 10 1 (.tmp 12) (.tmp 47))⟩
  (.op false ⟨none, none, (.st 1 (.tmp 50) (.tmp 49))⟩ .done)))))))))
 (.reg false (.op false ⟨(some 51), none, (.bin .add (.tmp 38) (.const (.int .i64 1)))⟩
  (.op false ⟨(some 38), none, (.mv (.tmp 51))⟩ .done)))))))))
 (.seq (.seq
 (.reg false (.op false ⟨(some 52), none, (.mv (.tmp 10))⟩
  (.op false ⟨(some 53), none, (.call f_pager_Pager_Flush [(.tmp 52)])⟩
  (.op false ⟨(some 54), none, (.bin .neq (.tmp 53) (.const (.int .i64 0)))⟩
  (.op false ⟨(some 55), none, (.mv (.tmp 54))⟩
  (.op false ⟨(some 56), (some (55, false)), (.mv (.tmp 10))⟩
  (.op false ⟨(some 57), (some (55, false)), (.call f_pager_Pager_Free [(.tmp 56)])⟩
  (.op false ⟨(some 58), (some (55, false)), (.mv (.tmp 11))⟩
  (.op false ⟨(some 59), (some (55, false)), (.bin .neq (.tmp 57) (.tmp 58))⟩
  (.op false ⟨(some 60), none, (.pick (.tmp 55) (.const (.bool true)) (.tmp 59))⟩
  (.op false ⟨(some 61), none, (.mv (.tmp 60))⟩
  (.op false ⟨(some 62), (some (61, false)), (.mv (.tmp 10))⟩
  (.op false ⟨(some 63), (some (61, false)), (.call f_pager_Pager_Done [(.tmp 62)])⟩
  (.op false ⟨(some 64), (some (61, false)), (.bin .neq (.tmp 63) (.const (.int .i64 0)))⟩
  (.op false ⟨(some 65), none, (.pick (.tmp 61) (.const (.bool true)) (.tmp 64))⟩ .done))))))))))))))) (.cond (.tmp 65)
 (.seq
 (.reg false (.op false ⟨(some 8), none, (.mv (.const (.bool false)))⟩ .done)) .ret) .skip))
 (.seq
 (.reg false (.op false ⟨(some 67), none, (.mv (.tmp 9))⟩
  (.op false ⟨(some 68), none, (.mv (.tmp 1))⟩
  (.op false ⟨(some 69), none, (.mv (.tmp 2))⟩
  (.op false ⟨(some 70), none, (.mv (.tmp 3))⟩
  (.op false ⟨(some 71), none, (.call f_device_Device_Lose [(.tmp 67), (.tmp 68), (.tmp 69), (.tmp 70)])⟩
  (.op false ⟨(some 66), none, (.mv (.tmp 71))⟩
  (.op false ⟨(some 72), none, (.ext (.tmp 66) 0)⟩
  (.op false ⟨(some 73), none, (.ext (.tmp 66) 1)⟩
  (.op false ⟨(some 16), none, (.mv (.tmp 72))⟩
  (.op false ⟨(some 17), none, (.mv (.tmp 73))⟩ .done)))))))))))
 (.seq (.seq
 (.reg false (.op false ⟨(some 74), none, (.mv (.tmp 17))⟩
  (.op false ⟨(some 75), none, (.bin .neq (.tmp 74) (.const (.int .i64 0)))⟩
  (.op false ⟨(some 76), none, (.mv (.tmp 75))⟩
  (.op false ⟨(some 77), (some (76, false)), (.mv (.tmp 16))⟩
  (.op false ⟨(some 78), (some (76, false)), (.eqp false (.tmp 77) (.const (.pointer none)))⟩
  (.op false ⟨(some 79), none, (.pick (.tmp 76) (.const (.bool true)) (.tmp 78))⟩ .done))))))) (.cond (.tmp 79)
 (.seq
 (.reg false (.op false ⟨(some 8), none, (.mv (.const (.bool false)))⟩ .done)) .ret) .skip))
 (.seq
 (.reg false (.op false ⟨(some 18), none, (.mv (.const (.int .i64 0)))⟩ .done))
 (.seq (.seq
 (.reg false (.op false ⟨(some 80), none, (.mv (.const (.int .i64 0)))⟩ .done)) (.block 2 (.loop
 (.seq
 (.reg false (.op false ⟨(some 81), none, (.bin .lss (.tmp 80) (.const (.int .i64 10)))⟩ .done))
 (.seq (.cond (.tmp 81) .skip (.exit 2))
 (.seq (.block 3
 (.seq
 (.reg false (.op false ⟨(some 82), none, (.mv (.tmp 80))⟩
  (.op false ⟨(some 19), none, (.mv (.tmp 82))⟩ .done)))
 (.seq
 (.reg false (.op false ⟨(some 84), none, (.mv (.tmp 10))⟩
  (.op false ⟨(some 85), none, (.mv (.tmp 19))⟩
  (.op false ⟨(some 86), none, (.call f_pager_Pager_Get [(.tmp 84), (.tmp 85)])⟩
  (.op false ⟨(some 83), none, (.mv (.tmp 86))⟩
  (.op false ⟨(some 87), none, (.ext (.tmp 83) 0)⟩
  (.op false ⟨(some 88), none, (.ext (.tmp 83) 1)⟩
  (.op false ⟨(some 20), none, (.mv (.tmp 87))⟩
  (.op false ⟨(some 21), none, (.mv (.tmp 88))⟩ .done)))))))))
 (.seq (.seq
 (.reg true (.op true ⟨(some 89), none, (.mv (.tmp 20))⟩
  (.op true ⟨(some 90), none, (.b2s (.tmp 89))⟩
  (.op true ⟨(some 91), none, (.mv (.tmp 19))⟩
  (.op true ⟨(some 92), none, (.idxa 10 1 (.tmp 12) (.tmp 91))⟩
  (.op true ⟨(some 93), none, (.ld none (.tmp 92))⟩
  (.op true ⟨(some 94), none, (.bin .neq (.tmp 90) (.tmp 93))⟩ .done))))))) (.cond (.tmp 94)
 (.seq
 (.reg false (.op false ⟨(some 8), none, (.mv (.const (.bool false)))⟩ .done)) .ret) .skip))
 (.seq (.seq
 (.reg false (.op false ⟨(some 95), none, (.mv (.tmp 19))⟩
  (.op false ⟨(some 96), none, (.idxa 10 1 (.tmp 12) (.tmp 95))⟩
  (.op false ⟨(some 97), none, (.ld none (.tmp 96))⟩
  (.op false ⟨(some 98), none, (.bin .eql (.tmp 97) (.const (strV [])))⟩ .done))))) (.cond (.tmp 98) (.exit 3) .skip))
 (.seq
 (.reg false (.op false ⟨(some 99), none, (.mv (.tmp 18))⟩
  (.op false ⟨(some 100), none, (.bin .add (.tmp 99) (.const (.int .i64 1)))⟩
  (.op false ⟨(some 18), none, (.mv (.tmp 100))⟩ .done))))
 (.seq
 (.reg false (.op false ⟨(some 102), none, (.mv (.tmp 16))⟩
  (.op false ⟨(some 103), none, (.mv (.tmp 19))⟩
  (.op false ⟨(some 104), none, (.call f_device_Device_Read [(.tmp 102), (.tmp 103)])⟩
  (.op false ⟨(some 101), none, (.mv (.tmp 104))⟩
  (.op false ⟨(some 105), none, (.ext (.tmp 101) 0)⟩
  (.op false ⟨(some 106), none, (.ext (.tmp 101) 1)⟩
  (.op false ⟨(some 22), none, (.mv (.tmp 105))⟩
  (.op false ⟨(some 23), none, (.mv (.tmp 106))⟩ .done)))))))))
 (.seq
 (.reg true (.op true ⟨(some 107), none, (.mv (.tmp 23))⟩
  (.op true ⟨(some 108), none, (.bin .neq (.tmp 107) (.const (.int .i64 0)))⟩
  (.op true ⟨(some 109), none, (.mv (.tmp 108))⟩
  (.op true ⟨(some 110), (some (109, false)), (.mv (.tmp 22))⟩
  (.op true ⟨(some 111), (some (109, false)), (.b2s (.tmp 110))⟩
  (.op true ⟨(some 112), (some (109, false)), (.mv (.tmp 19))⟩
  (.op true ⟨(some 113), (some (109, false)), (.idxa 10 1 (.tmp 12) (.tmp 112))⟩
  (.op true ⟨(some 114), (some (109, false)), (.ld none (.tmp 113))⟩
  (.op true ⟨(some 115), (some (109, false)), (.bin .neq (.tmp 111) (.tmp 114))⟩
  (.op true ⟨(some 116), none, (.pick (.tmp 109) (.const (.bool true)) (.tmp 115))⟩ .done))))))))))) (.cond (.tmp 116)
 (.seq
 (.reg false (.op false ⟨(some 8), none, (.mv (.const (.bool false)))⟩ .done)) .ret) .skip)))))))))
 (.reg false (.op false ⟨(some 117), none, (.bin .add (.tmp 80) (.const (.int .i64 1)))⟩
  (.op false ⟨(some 80), none, (.mv (.tmp 117))⟩ .done)))))))))
 (.seq
 (.reg false (.op false ⟨(some 118), none, (.mv (.tmp 10))⟩
  (.op false ⟨(some 119), none, (.call f_pager_Pager_Free [(.tmp 118)])⟩
  (.op false ⟨(some 120), none, (.mv (.tmp 18))⟩
  (.op false ⟨(some 121), none, (.bin .sub (.const (.int .i64 8)) (.tmp 120))⟩
  (.op false ⟨(some 122), none, (.bin .eql (.tmp 119) (.tmp 121))⟩
  (.op false ⟨(some 123), none, (.mv (.tmp 122))⟩
  (.op false ⟨(some 124), (some (123, true)), (.mv (.tmp 10))⟩
  (.op false ⟨(some 125), (some (123, true)), (.call f_pager_Pager_Old [(.tmp 124)])⟩
  (.op false ⟨(some 126), (some (123, true)), (.len (.tmp 125))⟩
  (.op false ⟨(some 127), (some (123, true)), (.mv (.tmp 18))⟩
  (.op false ⟨(some 128), (some (123, true)), (.bin .eql (.tmp 126) (.tmp 127))⟩
  (.op false ⟨(some 129), none, (.pick (.tmp 123) (.tmp 128) (.const (.bool false)))⟩
  (.op false ⟨(some 8), none, (.mv (.tmp 129))⟩ .done)))))))))))))) .ret))))))))))))))⟩

set_option maxRecDepth 4000 in
set_option maxHeartbeats 1000000 in
theorem pagerFlushes {P : Program} {f f1 f2 f3 f4 f5 f6 f7 f8 f9 f10 : FuncId} (hd : dec P f = some (g_thimblelaw19_PagerFlushes f1 f2 f3 f4 f5 f6 f7 f8 f9 f10)) (h1 : PWorksOk P f1) (h2 : MadeOk P f2) (h3 : PRunOk P f3) (h4 : FreeOk P f4) (h5 : PGetOk P f5) (h6 : FlushOk P f6) (h7 : DoneOk P f7) (h8 : DLoseOk P f8) (h9 : DReadOk P f9) (h10 : OldOk P f10)
    {d : PHeap} {av x y z : Value} {as : List AD} (has : RSl 4 RAct d av as) : GCall P f [av, x, y, z] d [] (Ret fun r _ _ => r = .bool true) := by
  refine GCall_of hd (Nat.le_of_ble_eq_true rfl) ?_
  show gwp P _ _ _ _ _
  (apply w_sq; apply w_reg; apply w_mvb; rfl; apply w_done0; apply w_sq; apply w_sq; apply w_reg)
  refine w_callA (A := []) (B := []) rfl rfl h1 (fun u d1 L1 hl1 ⟨e1, e2⟩ => ?_)
  subst e1; subst e2
  (apply w_not; rfl; apply w_done0; apply w_ifF; rfl; apply w_skip; apply w_sq; apply w_reg)
  refine w_bs1 (v0 := .int .i64 9) rfl rfl (fun b T => ?_)
  have hI := lives_ints (d := d1) (b := b) (T := T) (n := 1) (l := [7]) (cs := [.int .i64 9]) rfl rfl (by decide) (by decide)
  refine w_vs (join d1 (bx b T [.int .i64 9])) [] Vs.freeze ?_
  refine w_callO (L := []) (h2 (live := [7]) hI (by decide) (by decide)) rfl (fun u d2 L2 hl2 ⟨bd, bp, e1, e2, hpA⟩ => ?_)
  subst e1
  (apply w_mvu; rfl; apply w_ext; rfl; rfl; apply w_ext; rfl; rfl; apply w_mvp; rfl; apply w_mvp; rfl; apply w_done0; apply w_sq; apply w_sq; apply w_reg; apply w_mvp; rfl; apply w_eqpS; rfl; rfl; apply w_done0; apply w_ifF; rfl; apply w_skip; apply w_sq; apply w_reg; apply w_mvp; rfl; apply w_mv)
  have has2 := RSl.mono (R := RAct) mono_act has (hl1.trans ((Le.join_left _ _).trans hl2))
  refine w_callO (h3 hpA has2) rfl (fun u d3 L3 hl3 ⟨_, hp⟩ => ?_)
  clear hpA
  have hfrm : ((pd0 [7]).run (List.take 40 as)).frm = 2 := (Keep.run _ _).frm
  have hkl : ((pd0 [7]).run (List.take 40 as)).kinds.length = 8 := (Keep.run _ _).len
  generalize (pd0 [7]).run (List.take 40 as) = s at hp hfrm hkl
  have hG := hp.good
  (apply w_done0; apply w_sq; apply w_reg; apply w_mvp; rfl)
  refine w_read (A := L3) (B := []) (List.append_nil _).symm rfl (h4 hp) ?_
  (apply w_mvi; rfl; apply w_done0; apply w_sq; apply w_reg; apply w_aloL; intro _ _; apply w_done0; apply w_sq; apply w_sq; apply w_reg; apply w_mvi; rfl; apply w_done0; apply w_block)
  rename_i b12 T12
  refine w_loopS (α := Nat) (fun i => [(1, x), (2, y), (3, z), (9, .pointer (some ⟨bd, 0, none⟩)), (10, .pointer (some ⟨bp, 0, none⟩)), (11, .int .i64 s.free), (12, .pointer (some ⟨b12, 0, none⟩)), (38, .int .i64 i)])
    (fun i d' L' => Le d3 d' ∧ i ≤ 10 ∧ ∃ L2 tc, L' = bx b12 T12 (wasL s i) :: L2 ∧ Pg d' { s with tc := tc } (.pointer (some ⟨bd, 0, none⟩)) (.pointer (some ⟨bp, 0, none⟩)) L2)
    (fun i => 10 - i) 0 ⟨rfl, rfl, rfl, rfl, rfl, rfl, rfl, rfl, trivial⟩ ⟨Le.refl _, by omega, L3, s.tc, rfl, hp⟩ ?_
  rintro i ρ d' L' ⟨hle, hi, L2, tc, rfl, hp'⟩
  by_cases e : i < 10
  · (apply w_sq; apply w_reg; apply w_lss; rfl; rfl; apply w_done0; apply w_sq; refine w_ifdT rfl (by omega) ?_; apply w_skip; apply w_sq; apply w_block; apply w_sq; apply w_reg; apply w_mvi; rfl; apply w_mvi; rfl; apply w_done0; apply w_sq; apply w_reg; apply w_mvp; rfl; apply w_mvi; rfl)
    refine w_callQ (h5.at (k := (i : Int)) hp') (List.perm_append_comm (l₁ := [_])) rfl (fun u d7 L7 hl7 ⟨qa, qc, tc', q1, q2, q3⟩ => ?_)
    rw [bytes_tc, errK_tc] at q1
    rw [bytes_tc] at q2
    subst q1
    refine ⟨d7, _ :: L7, Vs.perm (List.perm_append_comm (l₂ := [_])), ?_⟩
    have hbl : (s.bytes (i : Int)).length ≤ 256 := by
      by_cases q1 : s.kind i = 1
      · rw [hp.full (.inl q1)]; omega
      · by_cases q2 : s.kind i = 2
        · rw [hp.full (.inr q2)]; omega
        · rw [bytes_none q1 q2]; decide
    (apply w_mvu; rfl; apply w_ext; rfl; rfl; apply w_ext; rfl; rfl; apply w_mvs; rfl; apply w_mvi; rfl; apply w_done0; apply w_reg; apply w_mvi; rfl; apply w_mvs; rfl; apply w_b2sR; rfl; assumption)
    refine w_idxa i rfl rfl rfl e ?_
    refine w_stE 0 (wasL s (i + 1)) rfl rfl rfl rfl (by rw [wasL_len]; omega) rfl (by rw [Nat.zero_add]; exact wasL_next e) ?_
    (apply w_done0; apply w_reg; apply w_add; rfl; rfl; omega; omega; apply w_mvi; rfl; apply w_done0)
    exact ⟨i + 1, by omega, ⟨rfl, rfl, rfl, rfl, rfl, rfl, rfl, rfl, trivial⟩, hle.trans hl7, e, L7, tc', rfl, q3⟩
  · have : i = 10 := by omega
    subst this
    have hKs : PD.kind { s with tc := tc } = s.kind := rfl
    (apply w_sq; apply w_reg; apply w_lss; rfl; rfl; apply w_done0; apply w_sq; refine w_ifdF rfl (by omega) ?_; apply w_exit; apply w_sq; apply w_sq; apply w_reg; apply w_mvp; rfl)
    refine w_callQ (h6 hp') (List.perm_append_comm (l₁ := [_])) rfl (fun u d4 L4 hl4 ⟨e1, e2, hpC⟩ => ?_)
    subst e1; subst e2
    refine ⟨d4, _ :: L4, Vs.perm (List.perm_append_comm (l₂ := [_])), ?_⟩
    have hfr : GRead P f4 [.pointer (some ⟨bp, 0, none⟩)] d4 L4 (.int .i64 s.free) := by have q := h4 hpC; exact q
    (apply w_neq; rfl; rfl; apply w_mvb; rfl; refine w_gdF rfl (by omega) ?_; apply w_gT; rfl; apply w_mvp; rfl; apply w_gT; rfl)
    refine w_readP (A := L4) (B := [_]) (List.perm_append_comm (l₁ := [_])) rfl hfr ?_
    (apply w_gT; rfl; apply w_mvi; rfl; apply w_gT; rfl; apply w_neq; rfl; rfl; apply w_pickFb; rfl; rfl; apply w_mvb; rfl; refine w_gdF rfl (by omega) ?_; apply w_gT; rfl; apply w_mvp; rfl; apply w_gT; rfl)
    refine w_callQ (h7 hpC) (List.perm_append_comm (l₁ := [_])) rfl (fun u d5 L5 hl5 ⟨e1, e2, hpD⟩ => ?_)
    subst e1; subst e2
    obtain ⟨A, LD, rfl, hD⟩ := hpD.dev
    refine ⟨d5, _ :: (A ++ LD), Vs.perm (List.perm_append_comm (l₂ := [_])), ?_⟩
    have hGD := hpD.good
    (apply w_gT; rfl; apply w_neq; rfl; rfl; apply w_pickFb; rfl; rfl; apply w_done0; refine w_ifdF rfl (by omega) ?_; apply w_skip; apply w_sq; apply w_reg; apply w_mvp; rfl; apply w_mv; apply w_mv; apply w_mv)
    refine w_callQ (h8 (x := x) (y := y) (z := z) hD (by have := hGD.inn; have := hGD.one; omega)) (List.perm_append_comm (l₁ := _ :: A)) rfl (fun u d9 L9 hl9 ⟨q1, dv', LX, q2, q3, q4⟩ => ?_)
    subst q1; subst q2; subst q3
    obtain ⟨bx', rfl⟩ : ∃ b, dv' = .pointer (some ⟨b, 0, none⟩) := let ⟨b, _, _, _, _, _, _, h, _⟩ := q4; ⟨b, h⟩
    refine ⟨d9, _ :: (LX ++ (A ++ LD)), Vs.perm (lose_perm _ _ _ _), ?_⟩
    have hcnt := cnt_all (s := { s with tc := tc }) hp'.good (n := 10) (by show s.frm + s.kinds.length ≤ 10; omega)
    have hk8 : PD.kinds { s with tc := tc } = s.kinds := rfl
    rw [hk8, hkl] at hcnt
    obtain ⟨t, ht⟩ : ∃ t, t = PD.fin { s with tc := tc } := ⟨_, rfl⟩
    have hbt : ∀ k, t.bytes k = s.bytes k := fun k => by rw [ht, bytes_fin hp'.good]; rfl
    have hkt : ∀ k, t.kind k = doneK (s.kind k) := fun k => by rw [ht, kind_fin]; rfl
    rw [← ht] at hcnt
    replace hpD : Pg d9 t (.pointer (some ⟨bd, 0, none⟩)) (.pointer (some ⟨bp, 0, none⟩)) (A ++ LD) := by rw [ht]; exact hpD
    replace q4 : Dv d9 ⟨t.syn, []⟩ (.pointer (some ⟨bx', 0, none⟩)) LX := by rw [ht]; exact q4
    replace hGD := hpD.good
    have htl : t.frm + t.kinds.length = 10 := by rw [ht]; show s.frm + (s.kinds.map doneK).length = 10; rw [List.length_map]; omega
    clear ht hfr hpC
    (apply w_mvu; rfl; apply w_ext; rfl; rfl; apply w_ext; rfl; rfl; apply w_mvp; rfl; apply w_mvi; rfl; apply w_done0; apply w_sq; apply w_sq; apply w_reg; apply w_mvi; rfl; apply w_neq; rfl; rfl; apply w_mvb; rfl; refine w_gdF rfl (by omega) ?_; apply w_gT; rfl; apply w_mvp; rfl; apply w_gT; rfl; apply w_eqpS; rfl; rfl; apply w_pickFb; rfl; rfl; apply w_done0; apply w_ifF; rfl; apply w_skip; apply w_sq; apply w_reg; apply w_mvi; rfl; apply w_done0; apply w_sq; apply w_sq; apply w_reg; apply w_mvi; rfl; apply w_done0; apply w_block)
    refine w_loopS (α := Nat) (fun i => [(10, .pointer (some ⟨bp, 0, none⟩)), (12, .pointer (some ⟨b12, 0, none⟩)), (16, .pointer (some ⟨bx', 0, none⟩)), (18, .int .i64 (cntO t i)), (80, .int .i64 i)])
      (fun i d' L' => i ≤ 10 ∧ ∃ L2 LX tc, L' = bx b12 T12 (wasL s 10) :: (LX ++ L2) ∧ Dv d' ⟨t.syn, []⟩ (.pointer (some ⟨bx', 0, none⟩)) LX ∧ Pg d' { t with tc := tc } (.pointer (some ⟨bd, 0, none⟩)) (.pointer (some ⟨bp, 0, none⟩)) L2)
      (fun i => 10 - i) 0 ⟨rfl, rfl, rfl, by show Value.int _ _ = Value.int _ _; rw [cntO_zero]; rfl, rfl, trivial⟩ ⟨by omega, A ++ LD, LX, t.tc, rfl, q4, hpD⟩ ?_
    rintro i ρ d' L' ⟨hi, L2, LX, tc', rfl, hDx, hp'⟩
    by_cases e : i < 10
    · have c0 : (wasL s 10)[0 + i * 1]? = some (strV (s.bytes (i : Int))) := by rw [Nat.zero_add, Nat.mul_one, wasL_at e, if_pos e]
      have hDx' := fun {d7 : PHeap} (hl : Le d' d7) => Dv.mono hDx hl
      (apply w_sq; apply w_reg; apply w_lss; rfl; rfl; apply w_done0; apply w_sq; refine w_ifdT rfl (by omega) ?_; apply w_skip; apply w_sq; apply w_block; apply w_sq; apply w_reg; apply w_mvi; rfl; apply w_mvi; rfl; apply w_done0; apply w_sq; apply w_reg; apply w_mvp; rfl; apply w_mvi; rfl)
      refine w_callQ (h5.at (k := (i : Int)) hp') (List.perm_append_comm (l₁ := _ :: LX)) rfl (fun u d7 L7 hl7 ⟨qa, qc, tc'', q1, q2, q3⟩ => ?_)
      rw [bytes_tc, errK_tc, hbt] at q1
      rw [bytes_tc, hbt] at q2
      subst q1
      refine ⟨d7, _ :: (LX ++ L7), Vs.perm (List.perm_append_comm (l₂ := _ :: LX)), ?_⟩
      have hDx := Dv.mono hDx hl7
      (apply w_mvu; rfl; apply w_ext; rfl; rfl; apply w_ext; rfl; rfl; apply w_mvs; rfl; apply w_mvi; rfl; apply w_done0; apply w_sq; apply w_sq; apply w_drawn; apply w_mvs; rfl; apply w_b2sR; rfl; assumption; apply w_mvi; rfl)
      refine w_idxa i rfl rfl rfl e ?_
      (apply w_ld; rfl; exact hc_i 0 rfl (by assumption); apply w_sne; rfl; rfl; apply w_done)
      refine w_ifdF rfl (fun h => h rfl) ?_
      (apply w_skip; apply w_sq; apply w_sq; apply w_reg; apply w_mvi; rfl)
      refine w_idxa i rfl rfl rfl e ?_
      (apply w_ld; rfl; exact hc_i 0 rfl (by assumption); apply w_seq; rfl; rfl; apply w_done0)
      by_cases hb : s.bytes (i : Int) = []
      · refine w_ifdT rfl hb ?_
        have hne : t.kind i ≠ 2 := fun q => by
          have := hp.full (k := (i : Int)) (by
            rw [hkt] at q
            unfold doneK at q
            by_cases q3 : s.kind i = 3
            · rw [if_pos q3] at q; cases q
            · rw [if_neg q3] at q
              by_cases q1 : s.kind i = 1
              · exact .inl q1
              · rw [if_neg q1] at q; exact .inr q)
          rw [hb] at this; cases this
        have hc := cntO_next (s := t) (i := i)
        rw [if_neg hne] at hc
        (apply w_exit; apply w_reg; apply w_add; rfl; rfl; omega; omega; apply w_mvi; rfl; apply w_done0)
        exact ⟨i + 1, by omega, ⟨rfl, rfl, rfl, by show Value.int _ _ = Value.int _ _; rw [hc]; rfl, rfl, trivial⟩, e, L7, LX, tc'', List.append_nil _, hDx, q3⟩
      · refine w_ifdF rfl hb ?_
        have hk : t.kind i = 2 := by
          rw [hkt]
          unfold doneK
          by_cases q1 : s.kind i = 1
          · rw [if_neg (by omega), if_pos q1]
          · by_cases q2 : s.kind i = 2
            · rw [if_neg (by omega), if_neg q1, q2]
            · exact absurd (bytes_none q1 q2) hb
        have hc := cntO_next (s := t) (i := i)
        rw [if_pos hk] at hc
        have hin := hGD.inn
        obtain ⟨j, j1, j2, -, -⟩ := kind_in hk (by omega)
        have hc8 : cntO t i ≤ 8192 := by
          have := List.countP_le_length (p := fun x : Int => x == 2) (l := t.kinds.take (i - t.frm))
          rw [List.length_take] at this
          have := hGD.len
          unfold cntO; omega
        have hsec : t.syn.getD i [] = s.bytes (i : Int) := by rw [← hbt, bytes_old hk]; rfl
        (apply w_skip; apply w_sq; apply w_reg; apply w_mvi; rfl; apply w_add; rfl; rfl; omega; omega; apply w_mvi; rfl; apply w_done0; apply w_sq; apply w_reg; apply w_mvp; rfl; apply w_mvi; rfl)
        refine w_callQ (h9 (k := i) hDx (show i < t.syn.length by omega)) (by rw [List.append_nil]; exact List.perm_append_comm_assoc [_] LX L7) rfl (fun u d10 L10 hl10 ⟨w, q4, q5, q6⟩ => ?_)
        subst q4
        replace q5 : RBytes d10 w (t.syn.getD i []) := q5
        rw [hsec] at q5
        refine ⟨d10, _ :: (L10 ++ L7), Vs.perm (List.perm_append_comm_assoc L10 [_] L7), ?_⟩
        have hp10 := q3.mono hl10
        (apply w_mvu; rfl; apply w_ext; rfl; rfl; apply w_ext; rfl; rfl; apply w_mv; apply w_mvi; rfl; apply w_done0; apply w_sq; apply w_drawn; apply w_mvi; rfl; apply w_neq; rfl; rfl; apply w_mvb; rfl; refine w_gdF rfl (by omega) ?_; apply w_gT; rfl; apply w_mv; apply w_gT; rfl; apply w_b2sR; rfl; assumption; apply w_gT; rfl; apply w_mvi; rfl; apply w_gT; rfl)
        refine w_idxa i rfl rfl rfl e ?_
        (apply w_gT; rfl; apply w_ld; rfl; exact hc_i 0 rfl (by assumption); apply w_gT; rfl; apply w_sne; rfl; rfl; apply w_pickFb; rfl; rfl; apply w_done)
        refine w_ifdF rfl (fun h => h rfl) ?_
        (apply w_skip; apply w_reg; apply w_add; rfl; rfl; omega; omega; apply w_mvi; rfl; apply w_done0)
        exact ⟨i + 1, by omega, ⟨rfl, rfl, rfl, by show Value.int _ _ = Value.int _ _; rw [hc]; rfl, rfl, trivial⟩, e, L7, L10, tc'', List.append_nil _, q6, hp10⟩
    · have : i = 10 := by omega
      subst this
      have hF : t.free = 8 - cntO t 10 := by omega
      have hN : t.olds.length = cntO t 10 := hcnt.1
      have hfr : GRead P f4 [.pointer (some ⟨bp, 0, none⟩)] d' L2 (.int .i64 t.free) := by have q := h4 hp'; exact q
      (apply w_sq; apply w_reg; apply w_lss; rfl; rfl; apply w_done0; apply w_sq; refine w_ifdF rfl (by omega) ?_; apply w_exit; apply w_sq; apply w_reg; apply w_mvp; rfl)
      refine w_readP (A := L2) (B := _ :: LX) (List.perm_append_comm (l₁ := _ :: LX)) rfl hfr ?_
      have hc8 := hcnt.2
      have hL := h10 hp'
      have hN' : PD.olds { t with tc := tc' } = t.olds := rfl
      rw [hN'] at hL
      (apply w_mvi; rfl; apply w_sub; rfl; rfl; omega; omega; apply w_eql; rfl; rfl; apply w_mvb; rfl; refine w_gdT rfl (by omega) ?_; apply w_gT; rfl; apply w_mvp; rfl; apply w_gT; rfl)
      refine w_callQ hL (List.perm_append_comm (l₁ := _ :: LX)) rfl (fun rv d11 L11 _ ⟨q1, q2, q3⟩ => ?_)
      obtain ⟨ra, rc, rfl⟩ := RSl.val q3
      rw [hN] at q3 ⊢
      refine ⟨d11, [], Vs.drop (List.nil_sublist _), ?_⟩
      (apply w_gT; rfl; apply w_len; rfl; apply w_gT; rfl; apply w_mvi; rfl; apply w_gT; rfl; apply w_eql; rfl; rfl; apply w_pickTb; rfl; rfl; apply w_mvb; rfl; apply w_done0; apply w_ret)
      exact fin1 (v := .bool (decide ((cntO t 10 : Int) = (cntO t 10 : Int)))) rfl (List.Sublist.refl _) (congrArg Value.bool (decide_eq_true rfl))
end Go.Gk.Pgr
end

section
namespace Go.Gk.Pgr
open Go Go.Gk
theorem act4 {l : List Value} (h : l.length = 4) : ∃ a b c d, l = [a, b, c, d] := by
  match l, h with
  | [a, b, c, d], _ => exact ⟨a, b, c, d, rfl⟩
theorem rd_act {H : Type} {enc : TypeId × Value → H} {P : Program} {W : World} {t ti tb ts : TypeId} {fs : Array Field} (ht : P.underlying t = some (.struct fs)) (h4 : P.cellsOf t = 4)
    (f0 : (fs[0]?).map (fun f => (f.offset, f.type)) = some (0, ti)) (f1 : (fs[1]?).map (fun f => (f.offset, f.type)) = some (1, ti)) (f2 : (fs[2]?).map (fun f => (f.offset, f.type)) = some (2, tb))
    (f3 : (fs[3]?).map (fun f => (f.offset, f.type)) = some (3, ts)) (ci : P.cellsOf ti = 1) (cb : P.cellsOf tb = 1) (cs : P.cellsOf ts = 1)
    (ui : P.underlying ti = some (.int .i64)) (ub : P.underlying tb = some (.int .u8)) (us : P.underlying ts = some (.slice tb)) (bb : 1 ≤ P.bytesOf tb) : Rd enc P W t RAct := by
  intro held fuel cs x h hw
  obtain ⟨hl, hfs⟩ := rd_fields ht h hw
  obtain ⟨k, e0⟩ := hfs 0 0 ti 1 f0 ci (rd_int ui)
  obtain ⟨p, e1⟩ := hfs 1 1 ti 1 f1 ci (rd_int ui)
  obtain ⟨y, e2⟩ := hfs 2 2 tb 1 f2 cb (rd_byte ub)
  obtain ⟨z, v, e3, hv⟩ := hfs 3 3 ts 1 f3 (by assumption) (rd_slice us cb (by omega) bb (rd_byte ub))
  obtain ⟨a, c, rfl⟩ := RSl.val hv
  obtain ⟨a0, a1, a2, a3, rfl⟩ := act4 (hl.trans h4)
  simp only [List.drop, List.take] at e0 e1 e2 e3
  obtain ⟨e0, -, -⟩ := e0
  obtain ⟨e1, -, -⟩ := e1
  have e2 : [a2] = [byteV y] := e2
  simp only [List.cons.injEq, and_true] at e0 e1 e2 e3
  subst e0; subst e1; subst e2; subst e3
  exact ⟨⟨k, p, y⟩, _, _, _, rfl⟩
end Go.Gk.Pgr
end
