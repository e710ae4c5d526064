/-
  Our own texts, one behind the other: GkOF GkOG.
-/
import Derived.Test.YtalhkeajhajggaaDoorPkG
section
/-
  The laws of order: lists that are the same; OrderRises.
-/
namespace Go.Gk.Val
open Go Go.Gk Go.Gk.Srt
attribute [local irreducible] gwp gws

def ListsOk (P : Program) (f : FuncId) : Prop := ∀ {d : PHeap} {v w : Value} {l m : List V}, RVals d v l → RVals d w m → GPure P f [v, w] d (.bool (sameV (.mk 0 0 0 [] l []) (.mk 0 0 0 [] m [])))
theorem lists_true {l m : List V} : sameV (.mk 0 0 0 [] l []) (.mk 0 0 0 [] m []) = true ↔ l = m := by
  rw [sameV_iff]
  constructor
  · intro h; exact congrArg V.list h
  · intro h; rw [h]
def g_thimbleref03_Lists (f_thimbleref03_Same : Nat) : GFun :=
 ⟨10, [(.tmp 4)],
 (.seq
 (.reg false (.op false ⟨(some 4), none, (.mv (.const (.bool false)))⟩ .done))
 (.seq
 (.reg false (.op false ⟨(some 5), none, (.mv (.tmp 0))⟩
  (.op false ⟨(some 6), none, (.bld [(0, 1), (1, 2), (3, 1), (4, 1), (5, 1)] [(.int .i64 0), (.int .i64 0), (.int .i64 0), (strV []), (.slice none 0 0), (.slice none 0 0)] [(3, (.tmp 5))])⟩
  (.op false ⟨(some 7), none, (.mv (.tmp 1))⟩
  (.op false ⟨(some 8), none, (.bld [(0, 1), (1, 2), (3, 1), (4, 1), (5, 1)] [(.int .i64 0), (.int .i64 0), (.int .i64 0), (strV []), (.slice none 0 0), (.slice none 0 0)] [(3, (.tmp 7))])⟩
  (.op false ⟨(some 9), none, (.call f_thimbleref03_Same [(.tmp 6), (.tmp 8)])⟩
  (.op false ⟨(some 4), none, (.mv (.tmp 9))⟩ .done))))))) .ret))⟩

theorem lists_ok {P : Program} {f f1 : FuncId} (hd : dec P f = some (g_thimbleref03_Lists f1)) (h1 : SameOk P f1) : ListsOk P f := by
  intro d v w l m hv hw
  obtain ⟨pa, ca, rfl⟩ := RSl.val hv
  obtain ⟨pb, cb, rfl⟩ := RSl.val hw
  have hv2 : RVal d [.int .i64 0, .int .i64 0, .int .i64 0, strV [], .slice pa l.length ca, .slice none 0 0] (.mk 0 0 0 [] l []) := RVal.close (v := .mk 0 0 0 [] l []) i64_0 i64_0 i64_0 (by simp) hv RSl.nil
  have hw2 : RVal d [.int .i64 0, .int .i64 0, .int .i64 0, strV [], .slice pb m.length cb, .slice none 0 0] (.mk 0 0 0 [] m []) := RVal.close (v := .mk 0 0 0 [] m []) i64_0 i64_0 i64_0 (by simp) hw RSl.nil
  refine GPure.of' hd (Nat.le_of_ble_eq_true rfl) ?_
  show gwp P _ _ _ _ _
  (apply w_sq; apply w_reg; apply w_mvb; rfl; apply w_done0; apply w_sq; apply w_reg; apply w_mvs; rfl; apply w_bvL; rfl; apply w_mvs; rfl; apply w_bvL; rfl)
  refine w_pure rfl (h1 _ _ hv2 hw2) ?_
  (apply w_mvb; rfl; apply w_done0; apply w_ret)
  exact finQ rfl
/-- How many of the first 'k' are as one. -/
def cntS (l : List V) (x : V) (k : Nat) : Nat := (l.take k).countP fun y => sameV y x
theorem cntS_succ {l : List V} {x : V} {k : Nat} (h : k < l.length) : cntS l x (k + 1) = cntS l x k + if sameV l[k] x = true then 1 else 0 := by
  rw [cntS, List.take_succ_eq_append_getElem h, List.countP_append, List.countP_singleton, cntS]
theorem cntS_le {l : List V} {x : V} {k : Nat} : cntS l x k ≤ k := by
  have := List.countP_le_length (p := fun y => sameV y x) (l := l.take k)
  rw [cntS]
  simp at this
  omega
theorem cntS_perm {l m : List V} (h : l.Perm m) (x : V) : cntS l x l.length = cntS m x m.length := by
  rw [cntS, cntS, List.take_length, List.take_length]; exact h.countP_eq _
/-- The least one stands first. -/
theorem least_first0 {l ys : List V} (hw : wrongL l = 0) (hp : ys.Perm l) (hs : Srt cmpV ys) (h0 : 0 < l.length) : ∃ (hb : leastN l l.length < l.length) (hy : 0 < ys.length), l[leastN l l.length] = ys[0] := by
  obtain ⟨hb, _, h3, _⟩ := leastN_spec (l := l) (Nat.le_refl _) h0
  have hl := hp.length_eq
  refine ⟨hb, by omega, ?_⟩
  have hmay := wrongL_may hw
  have m1 : ys[0]'(by omega) ∈ l := hp.mem_iff.1 (List.getElem_mem _)
  have m2 : l[leastN l l.length] ∈ ys := hp.mem_iff.2 (List.getElem_mem _)
  refine (cmpV_zero (hmay _ (List.getElem_mem _)) (hmay _ m1)).1 ?_
  obtain ⟨k, hk, e⟩ := List.getElem_of_mem m1
  have a := h3 k hk
  rw [e] at a
  obtain ⟨j, hj, e2⟩ := List.getElem_of_mem m2
  have b : cmpV (ys[0]'(by omega)) ys[j] ≤ 0 := by
    by_cases q : j = 0
    · subst q
      have := cmpV_swap (ys[0]'(by omega)) (ys[0]'(by omega)); omega
    · exact hs.get (by omega) hj
  rw [e2] at b
  have := cmpV_swap (ys[0]'(by omega)) l[leastN l l.length]
  omega
def g_thimblelaw04_OrderRises (f_thimblelaw04_works f_thimbleref03_Bulk f_order_Sort f_order_Cmp f_thimbleref03_Same f_thimbleref03_Lists f_order_Least : Nat) : GFun :=
 ⟨139, [(.tmp 2)],
 (.seq
 (.reg false (.op false ⟨(some 2), none, (.mv (.const (.bool false)))⟩ .done))
 (.seq (.seq
 (.reg false (.op false ⟨(some 15), none, (.call f_thimblelaw04_works [])⟩
  (.op false ⟨(some 16), none, (.un .not (.tmp 15))⟩ .done))) (.cond (.tmp 16)
 (.seq
 (.reg false (.op false ⟨(some 2), none, (.mv (.const (.bool false)))⟩ .done)) .ret) .skip))
 (.seq (.seq
 (.reg false (.op false ⟨(some 17), none, (.mv (.tmp 0))⟩
  (.op false ⟨(some 18), none, (.bld [(0, 1), (1, 2), (3, 1), (4, 1), (5, 1)] [(.int .i64 0), (.int .i64 0), (.int .i64 0), (strV []), (.slice none 0 0), (.slice none 0 0)] [(3, (.tmp 17))])⟩
  (.op false ⟨(some 19), none, (.call f_thimbleref03_Bulk [(.tmp 18), (.const (.int .i64 1000))])⟩
  (.op false ⟨(some 20), none, (.bin .gtr (.tmp 19) (.const (.int .i64 1000)))⟩ .done))))) (.cond (.tmp 20)
 (.seq
 (.reg false (.op false ⟨(some 2), none, (.mv (.const (.bool true)))⟩ .done)) .ret) .skip))
 (.seq
 (.reg false (.op false ⟨(some 22), none, (.mv (.tmp 0))⟩
  (.op false ⟨(some 23), none, (.call f_order_Sort [(.tmp 22)])⟩
  (.op false ⟨(some 21), none, (.mv (.tmp 23))⟩
  (.op false ⟨(some 24), none, (.ext (.tmp 21) 0)⟩
  (.op false ⟨(some 25), none, (.ext (.tmp 21) 1)⟩
  (.op false ⟨(some 3), none, (.mv (.tmp 24))⟩
  (.op false ⟨(some 4), none, (.mv (.tmp 25))⟩ .done))))))))
 (.seq (.seq
 (.reg false (.op false ⟨(some 26), none, (.mv (.tmp 4))⟩
  (.op false ⟨(some 27), none, (.bin .neq (.tmp 26) (.const (.int .i64 0)))⟩ .done))) (.cond (.tmp 27)
 (.seq
 (.reg false (.op false ⟨(some 28), none, (.mv (.tmp 3))⟩
  (.op false ⟨(some 29), none, (.len (.tmp 28))⟩
  (.op false ⟨(some 30), none, (.bin .eql (.tmp 29) (.const (.int .i64 0)))⟩
  (.op false ⟨(some 2), none, (.mv (.tmp 30))⟩ .done))))) .ret) .skip))
 (.seq (.seq
 (.reg false (.op false ⟨(some 31), none, (.mv (.tmp 3))⟩
  (.op false ⟨(some 32), none, (.len (.tmp 31))⟩
  (.op false ⟨(some 33), none, (.mv (.tmp 0))⟩
  (.op false ⟨(some 34), none, (.len (.tmp 33))⟩
  (.op false ⟨(some 35), none, (.bin .neq (.tmp 32) (.tmp 34))⟩ .done)))))) (.cond (.tmp 35)
 (.seq
 (.reg false (.op false ⟨(some 2), none, (.mv (.const (.bool false)))⟩ .done)) .ret) .skip))
 (.seq (.seq
 (.reg false (.op false ⟨(some 36), none, (.mv (.tmp 3))⟩
  (.op false ⟨(some 37), none, (.len (.tmp 36))⟩
  (.op false ⟨(some 38), none, (.mv (.const (.int .i64 0)))⟩ .done)))) (.block 0 (.loop
 (.seq
 (.reg false (.op false ⟨(some 39), none, (.bin .lss (.tmp 38) (.tmp 37))⟩ .done))
 (.seq (.cond (.tmp 39) .skip (.exit 0))
 (.seq (.block 1
 (.seq
 (.reg false (.op false ⟨(some 40), none, (.mv (.tmp 38))⟩
  (.op false ⟨(some 5), none, (.mv (.tmp 40))⟩ .done)))
 (.seq (.seq
 (.reg false (.op false ⟨(some 41), none, (.mv (.tmp 5))⟩
  (.op false ⟨(some 42), none, (.bin .gtr (.tmp 41) (.const (.int .i64 0)))⟩ .done))) (.cond (.tmp 42)
 (.seq
 (.reg true (.op true ⟨(some 44), none, (.mv (.tmp 3))⟩
  (.op true ⟨(some 45), none, (.mv (.tmp 5))⟩
  (.op true ⟨(some 46), none, (.bin .sub (.tmp 45) (.const (.int .i64 1)))⟩
  (.op true ⟨(some 47), none, (.idx 6 (.tmp 44) (.tmp 46))⟩
  (.op true ⟨(some 48), none, (.ld (some 6) (.tmp 47))⟩
  (.op true ⟨(some 49), none, (.mv (.tmp 3))⟩
  (.op true ⟨(some 50), none, (.mv (.tmp 5))⟩
  (.op true ⟨(some 51), none, (.idx 6 (.tmp 49) (.tmp 50))⟩
  (.op true ⟨(some 52), none, (.ld (some 6) (.tmp 51))⟩
  (.op false ⟨(some 53), none, (.call f_order_Cmp [(.tmp 48), (.tmp 52)])⟩
  (.op true ⟨(some 43), none, (.mv (.tmp 53))⟩
  (.op true ⟨(some 54), none, (.ext (.tmp 43) 0)⟩
  (.op true ⟨(some 55), none, (.ext (.tmp 43) 1)⟩
  (.op true ⟨(some 6), none, (.mv (.tmp 54))⟩
  (.op true ⟨(some 7), none, (.mv (.tmp 55))⟩ .done))))))))))))))))
 (.seq
 (.reg false (.op false ⟨(some 56), none, (.mv (.tmp 7))⟩
  (.op false ⟨(some 57), none, (.bin .neq (.tmp 56) (.const (.int .i64 0)))⟩
  (.op false ⟨(some 58), none, (.mv (.tmp 57))⟩
  (.op false ⟨(some 59), (some (58, false)), (.mv (.tmp 6))⟩
  (.op false ⟨(some 60), (some (58, false)), (.bin .gtr (.tmp 59) (.const (.int .i64 0)))⟩
  (.op false ⟨(some 61), none, (.pick (.tmp 58) (.const (.bool true)) (.tmp 60))⟩ .done))))))) (.cond (.tmp 61)
 (.seq
 (.reg false (.op false ⟨(some 2), none, (.mv (.const (.bool false)))⟩ .done)) .ret) .skip))) .skip))
 (.seq
 (.reg false (.op false ⟨(some 8), none, (.mv (.const (.int .i64 0)))⟩
  (.op false ⟨(some 9), none, (.mv (.const (.int .i64 0)))⟩ .done)))
 (.seq (.seq
 (.reg false (.op false ⟨(some 62), none, (.mv (.tmp 0))⟩
  (.op false ⟨(some 63), none, (.len (.tmp 62))⟩
  (.op false ⟨(some 64), none, (.mv (.const (.int .i64 0)))⟩ .done)))) (.block 2 (.loop
 (.seq
 (.reg false (.op false ⟨(some 65), none, (.bin .lss (.tmp 64) (.tmp 63))⟩ .done))
 (.seq (.cond (.tmp 65) .skip (.exit 2))
 (.seq (.block 3
 (.seq
 (.reg false (.op false ⟨(some 66), none, (.mv (.tmp 64))⟩
  (.op false ⟨(some 10), none, (.mv (.tmp 66))⟩ .done)))
 (.seq (.seq
 (.reg true (.op true ⟨(some 67), none, (.mv (.tmp 0))⟩
  (.op true ⟨(some 68), none, (.mv (.tmp 10))⟩
  (.op true ⟨(some 69), none, (.idx 6 (.tmp 67) (.tmp 68))⟩
  (.op true ⟨(some 70), none, (.ld (some 6) (.tmp 69))⟩
  (.op true ⟨(some 71), none, (.mv (.tmp 3))⟩
  (.op true ⟨(some 72), none, (.mv (.tmp 5))⟩
  (.op true ⟨(some 73), none, (.idx 6 (.tmp 71) (.tmp 72))⟩
  (.op true ⟨(some 74), none, (.ld (some 6) (.tmp 73))⟩
  (.op false ⟨(some 75), none, (.call f_thimbleref03_Same [(.tmp 70), (.tmp 74)])⟩ .done)))))))))) (.cond (.tmp 75)
 (.reg false (.op false ⟨(some 76), none, (.mv (.tmp 9))⟩
  (.op false ⟨(some 77), none, (.bin .add (.tmp 76) (.const (.int .i64 1)))⟩
  (.op false ⟨(some 9), none, (.mv (.tmp 77))⟩ .done)))) .skip))
 (.seq
 (.reg true (.op true ⟨(some 78), none, (.mv (.tmp 3))⟩
  (.op true ⟨(some 79), none, (.mv (.tmp 10))⟩
  (.op true ⟨(some 80), none, (.idx 6 (.tmp 78) (.tmp 79))⟩
  (.op true ⟨(some 81), none, (.ld (some 6) (.tmp 80))⟩
  (.op true ⟨(some 82), none, (.mv (.tmp 3))⟩
  (.op true ⟨(some 83), none, (.mv (.tmp 5))⟩
  (.op true ⟨(some 84), none, (.idx 6 (.tmp 82) (.tmp 83))⟩
  (.op true ⟨(some 85), none, (.ld (some 6) (.tmp 84))⟩
  (.op false ⟨(some 86), none, (.call f_thimbleref03_Same [(.tmp 81), (.tmp 85)])⟩ .done)))))))))) (.cond (.tmp 86)
 (.reg false (.op false ⟨(some 87), none, (.mv (.tmp 8))⟩
  (.op false ⟨(some 88), none, (.bin .add (.tmp 87) (.const (.int .i64 1)))⟩
  (.op false ⟨(some 8), none, (.mv (.tmp 88))⟩ .done)))) .skip)))))
 (.reg false (.op false ⟨(some 89), none, (.bin .add (.tmp 64) (.const (.int .i64 1)))⟩
  (.op false ⟨(some 64), none, (.mv (.tmp 89))⟩ .done)))))))))
 (.seq
 (.reg false (.op false ⟨(some 90), none, (.mv (.tmp 8))⟩
  (.op false ⟨(some 91), none, (.mv (.tmp 9))⟩
  (.op false ⟨(some 92), none, (.bin .neq (.tmp 90) (.tmp 91))⟩ .done)))) (.cond (.tmp 92)
 (.seq
 (.reg false (.op false ⟨(some 2), none, (.mv (.const (.bool false)))⟩ .done)) .ret) .skip)))))))
 (.reg false (.op false ⟨(some 93), none, (.bin .add (.tmp 38) (.const (.int .i64 1)))⟩
  (.op false ⟨(some 38), none, (.mv (.tmp 93))⟩ .done)))))))))
 (.seq
 (.reg false (.op false ⟨(some 95), none, (.mv (.tmp 3))⟩
  (.op false ⟨(some 96), none, (.call f_order_Sort [(.tmp 95)])⟩
  (.op false ⟨(some 94), none, (.mv (.tmp 96))⟩
  (.op false ⟨(some 97), none, (.ext (.tmp 94) 0)⟩
  (.op false ⟨(some 98), none, (.ext (.tmp 94) 1)⟩
  (.op false ⟨(some 11), none, (.mv (.tmp 97))⟩
  (.op false ⟨(some 12), none, (.mv (.tmp 98))⟩ .done))))))))
 (.seq (.seq
 (.reg false (.op false ⟨(some 99), none, (.mv (.tmp 12))⟩
  (.op false ⟨(some 100), none, (.bin .neq (.tmp 99) (.const (.int .i64 0)))⟩
  (.op false ⟨(some 101), none, (.mv (.tmp 100))⟩
  (.op false ⟨(some 102), (some (101, false)), (.mv (.tmp 3))⟩
  (.op false ⟨(some 103), (some (101, false)), (.mv (.tmp 11))⟩
  (.op false ⟨(some 104), (some (101, false)), (.call f_thimbleref03_Lists [(.tmp 102), (.tmp 103)])⟩
  (.op false ⟨(some 105), (some (101, false)), (.un .not (.tmp 104))⟩
  (.op false ⟨(some 106), none, (.pick (.tmp 101) (.const (.bool true)) (.tmp 105))⟩ .done))))))))) (.cond (.tmp 106)
 (.seq
 (.reg false (.op false ⟨(some 2), none, (.mv (.const (.bool false)))⟩ .done)) .ret) .skip))
 (.seq
 (.reg false (.op false ⟨(some 108), none, (.mv (.tmp 0))⟩
  (.op false ⟨(some 109), none, (.call f_order_Least [(.tmp 108)])⟩
  (.op false ⟨(some 107), none, (.mv (.tmp 109))⟩
  (.op false ⟨(some 110), none, (.ext (.tmp 107) 0)⟩
  (.op false ⟨(some 111), none, (.ext (.tmp 107) 1)⟩
  (.op false ⟨(some 13), none, (.mv (.tmp 110))⟩
  (.op false ⟨(some 14), none, (.mv (.tmp 111))⟩ .done))))))))
 (.seq (.seq
 (.reg false (.op false ⟨(some 112), none, (.mv (.tmp 0))⟩
  (.op false ⟨(some 113), none, (.len (.tmp 112))⟩
  (.op false ⟨(some 114), none, (.bin .eql (.tmp 113) (.const (.int .i64 0)))⟩ .done)))) (.cond (.tmp 114)
 (.seq
 (.reg false (.op false ⟨(some 115), none, (.mv (.tmp 14))⟩
  (.op false ⟨(some 116), none, (.bin .eql (.tmp 115) (.const (.int .i64 240)))⟩
  (.op false ⟨(some 2), none, (.mv (.tmp 116))⟩ .done)))) .ret) .skip))
 (.seq
 (.reg true (.op true ⟨(some 117), none, (.mv (.tmp 14))⟩
  (.op true ⟨(some 118), none, (.bin .eql (.tmp 117) (.const (.int .i64 0)))⟩
  (.op true ⟨(some 119), none, (.mv (.tmp 118))⟩
  (.op true ⟨(some 120), (some (119, true)), (.mv (.tmp 13))⟩
  (.op true ⟨(some 121), (some (119, true)), (.bin .geq (.tmp 120) (.const (.int .i64 0)))⟩
  (.op true ⟨(some 122), none, (.pick (.tmp 119) (.tmp 121) (.const (.bool false)))⟩
  (.op true ⟨(some 123), none, (.mv (.tmp 122))⟩
  (.op true ⟨(some 124), (some (123, true)), (.mv (.tmp 13))⟩
  (.op true ⟨(some 125), (some (123, true)), (.mv (.tmp 0))⟩
  (.op true ⟨(some 126), (some (123, true)), (.len (.tmp 125))⟩
  (.op true ⟨(some 127), (some (123, true)), (.bin .lss (.tmp 124) (.tmp 126))⟩
  (.op true ⟨(some 128), none, (.pick (.tmp 123) (.tmp 127) (.const (.bool false)))⟩
  (.op true ⟨(some 129), none, (.mv (.tmp 128))⟩
  (.op true ⟨(some 130), (some (129, true)), (.mv (.tmp 0))⟩
  (.op true ⟨(some 131), (some (129, true)), (.mv (.tmp 13))⟩
  (.op true ⟨(some 132), (some (129, true)), (.idx 6 (.tmp 130) (.tmp 131))⟩
  (.op true ⟨(some 133), (some (129, true)), (.ld (some 6) (.tmp 132))⟩
  (.op true ⟨(some 134), (some (129, true)), (.mv (.tmp 3))⟩
  (.op true ⟨(some 135), (some (129, true)), (.idx 6 (.tmp 134) (.const (.int .i64 0)))⟩
  (.op true ⟨(some 136), (some (129, true)), (.ld (some 6) (.tmp 135))⟩
  (.op false ⟨(some 137), (some (129, true)), (.call f_thimbleref03_Same [(.tmp 133), (.tmp 136)])⟩
  (.op true ⟨(some 138), none, (.pick (.tmp 129) (.tmp 137) (.const (.bool false)))⟩
  (.bar (.op true ⟨(some 2), none, (.mv (.tmp 138))⟩ .done))))))))))))))))))))))))) .ret))))))))))))⟩

set_option maxHeartbeats 4000000 in
theorem orderRises_ok {T : PHeap → Prop} {P : Program} {f f1 f2 f3 f4 f5 f6 f7 : FuncId} (hT : ∀ {d d' : PHeap}, Le d d' → T d → T d') (hd : decp P f = some (g_thimblelaw04_OrderRises f1 f2 f3 f4 f5 f6 f7)) (h1 : W4Ok T P f1) (h2 : BulkOk P f2) (h3 : OSortOk T P f3) (h4 : CmpTopOk T P f4) (h5 : SameOk P f5) (h6 : ListsOk P f6) (h7 : LeastOk T P f7)
    {d : PHeap} {v : Value} {l : List V} (ht : T d) (hv : RVals d v l) : GPure P f [v] d (.bool true) := by
  obtain ⟨pa, ca, rfl⟩ := RSl.val hv
  have hv2 : RVal d [.int .i64 0, .int .i64 0, .int .i64 0, strV [], .slice pa l.length ca, .slice none 0 0] (.mk 0 0 0 [] l []) := RVal.close (v := .mk 0 0 0 [] l []) i64_0 i64_0 i64_0 (by simp) hv RSl.nil
  refine GPure.of' hd (Nat.le_of_ble_eq_true rfl) ?_
  show gwp P _ _ _ _ _
  (apply w_sq; apply w_reg; apply w_mvb; rfl; apply w_done0; apply w_sq; apply w_sq; apply w_reg)
  refine w_pure rfl (h1 ht) ?_
  (apply w_not; rfl; apply w_done0; apply w_ifF; rfl; apply w_skip; apply w_sq; apply w_sq; apply w_reg; apply w_mvs; rfl; apply w_bvL; rfl)
  refine w_call0 rfl (h2 (.mk 0 0 0 [] l []) (most := 1000) hv2 (by omega)) (fun r d3 L3 _ ⟨hdd, z, hr, hz1, hz2, hz3, hL⟩ => ?_)
  subst hdd; subst hr; subst hL
  by_cases q2 : 1000 < z
  · (apply w_gtr; rfl; rfl; apply w_done0; refine w_ifdT rfl (by omega) ?_; apply w_sq; apply w_reg; apply w_mvb; rfl; apply w_done0; apply w_ret)
    exact finQ rfl
  obtain ⟨hll, hbd⟩ := bulk_list (l := l) (n := 1000) (by have := hz3 (by omega); omega)
  (apply w_gtr; rfl; rfl; apply w_done0; refine w_ifdF rfl (by omega) ?_; apply w_skip; apply w_sq; apply w_reg; apply w_mvs; rfl)
  refine w_call0 rfl (h3 ht hv (by omega) (fun x hx => by have := (hbd x hx).1; omega)) (fun r d1 L1 _ ⟨hdd, hr⟩ => ?_)
  subst hdd
  rcases hr with ⟨hw, hr, hL⟩ | ⟨hw, ra, rc, ys, hl, hs, hr, ho, hL, hp, hsr⟩
  · subst hr; subst hL
    (apply w_mvu; rfl; apply w_ext; rfl; rfl; apply w_ext; rfl; rfl; apply w_mvs; rfl; apply w_mvi; rfl; apply w_done0; apply w_sq; apply w_sq; apply w_reg; apply w_mvi; rfl; apply w_neq; rfl; rfl; apply w_done0; refine w_ifdT rfl (by omega) ?_; apply w_sq; apply w_reg; apply w_mvs; rfl; apply w_len; rfl; apply w_eql; rfl; rfl; apply w_mvb; rfl; apply w_done0; apply w_ret)
    exact finQ rfl
  subst hr; subst hL
  obtain ⟨d2, hv2', hl2, hk2⟩ := Vs.frzAll d1 ((hl :: hs) ++ [])
  refine w_vs d2 _ hv2' ?_
  have hyl := hp.length_eq
  have hys : RSl 6 RVal d2 (.slice ra ys.length rc) ys := ho.rvals (hk2 hl (by simp)) (fun k hk => hk2 k (by simp [hk]))
  have hl' : RSl 6 RVal d2 (.slice pa l.length ca) l := RVals.mono hv hl2
  have ht2 := hT hl2 ht
  rw [hyl] at hys ⊢
  have hright : ∀ y ∈ ys, rightV y = 0 := fun y hy => wrongL_zero.1 hw y (hp.mem_iff.1 hy)
  have hdep : ∀ y ∈ ys, depthV y ≤ 1000000000 := fun y hy => by have := (hbd y (hp.mem_iff.1 hy)).2.1; omega
  have hcnt : ∀ y ∈ ys, cntV y ≤ 1000000000 := fun y hy => by have := (hbd y (hp.mem_iff.1 hy)).1; omega
  have hwy : wrongL ys = 0 := wrongL_zero.2 hright
  (apply w_mvu; rfl; apply w_ext; rfl; rfl; apply w_ext; rfl; rfl; apply w_mvs; rfl; apply w_mvi; rfl; apply w_done0; apply w_sq; apply w_sq; apply w_reg; apply w_mvi; rfl; apply w_neq; rfl; rfl; apply w_done0; refine w_ifdF rfl (by omega) ?_; apply w_skip; apply w_sq; apply w_sq; apply w_reg; apply w_mvs; rfl; apply w_len; rfl; apply w_mvs; rfl; apply w_len; rfl; apply w_neq; rfl; rfl; apply w_done0; refine w_ifdF rfl (by omega) ?_; apply w_skip; apply w_sq; apply w_sq; apply w_reg; apply w_mvs; rfl; apply w_len; rfl; apply w_mvi; rfl; apply w_done0; apply w_block)
  refine w_loopN (α := Nat) (fun i => [(0, .slice pa l.length ca), (3, .slice ra l.length rc), (37, .int .i64 l.length), (38, .int .i64 i)]) (fun _ => []) (fun i => i ≤ l.length) (fun i => l.length - i) 0 ⟨rfl, rfl, rfl, rfl, trivial⟩ rfl (Nat.zero_le _) ?_
  rintro i ρ hi
  by_cases hc : i < l.length
  · have hcy : i < ys.length := by omega
    apply w_sq; apply w_reg
    (apply w_lss; rfl; rfl; apply w_done0)
    apply w_sq
    refine w_ifdT rfl (by omega) ?_
    apply w_skip; apply w_sq; apply w_block; apply w_sq; apply w_reg
    (apply w_mvi; rfl; apply w_mvi; rfl; apply w_done0)
    refine w_mid (fun ρ d' L' => d' = d2 ∧ L' = [] ∧ SlotsAre ρ [(0, .slice pa l.length ca), (3, .slice ra l.length rc), (37, .int .i64 l.length), (38, .int .i64 i), (5, .int .i64 i)]) ?_ ?_
    · by_cases h0 : 0 < i
      · have hcy' : i - 1 < ys.length := by omega
        have e1 : cmpTop ys[i - 1] ys[i] = (cmpV ys[i - 1] ys[i], 0) := by rw [cmpTop, if_neg (by have := hright _ (List.getElem_mem hcy'); omega), if_neg (by have := hright _ (List.getElem_mem hcy); omega)]
        have e2 : cmpV ys[i - 1] ys[i] ≤ 0 := hsr.get (i := i - 1) (j := i) (by omega) hcy
        (apply w_sq; apply w_reg; apply w_mvi; rfl; apply w_gtr; rfl; rfl; apply w_done0; refine w_ifdT rfl (by omega) ?_; apply w_sq; apply w_drawn; apply w_mvs; rfl; apply w_mvi; rfl; apply w_sub; rfl; rfl; omega; omega)
        refine w_idxR (sz := 6) (R := RVal) (m := i - 1) rfl hys rfl (by omega) hcy' ?_
        rintro _ _ es hes hE hS
        (apply w_ldd; rfl; assumption; assumption; apply w_mvs; rfl; apply w_mvi; rfl; refine w_idxR (sz := 6) (R := RVal) (by rfl) (by assumption) (by rfl) rfl (by omega) ?_; rintro _ _ _ _ _ _; apply w_ldd; rfl; assumption; assumption)
        rename_i cs hcs hD hR
        refine w_pure rfl (h4 _ _ ht2 hS hR (hdep _ (List.getElem_mem hcy')) (hdep _ (List.getElem_mem hcy))) ?_
        rw [e1]
        (apply w_mvu; rfl; apply w_ext; rfl; rfl; apply w_ext; rfl; rfl; apply w_mvi; rfl; apply w_mvi; rfl; apply w_done0; apply w_sq; apply w_reg; apply w_mvi; rfl; apply w_neq; rfl; rfl; apply w_mvb; rfl; refine w_gdF rfl (by omega) ?_; apply w_gT; rfl; apply w_mvi; rfl; apply w_gT; rfl; apply w_gtr; rfl; rfl; apply w_pickFb; rfl; rfl; apply w_done0; refine w_ifdF rfl (by omega) ?_; apply w_skip)
        exact ⟨rfl, rfl, rfl, rfl, rfl, rfl, rfl, trivial⟩
      · (apply w_sq; apply w_reg; apply w_mvi; rfl; apply w_gtr; rfl; rfl; apply w_done0; refine w_ifdF rfl (by omega) ?_; apply w_skip)
        exact ⟨rfl, rfl, rfl, rfl, rfl, rfl, rfl, trivial⟩
    rintro ρ d' L' ⟨hdd, hL, hs⟩
    subst hdd; subst hL
    refine gwp_slots _ hs ?_
    clear hs
    (apply w_sq; apply w_reg; apply w_mvi; rfl; apply w_mvi; rfl; apply w_done0; apply w_sq; apply w_sq; apply w_reg; apply w_mvs; rfl; apply w_len; rfl; apply w_mvi; rfl; apply w_done0; apply w_block)
    refine w_loopN (α := Nat) (fun k => [(0, .slice pa l.length ca), (3, .slice ra l.length rc), (37, .int .i64 l.length), (38, .int .i64 i), (5, .int .i64 i), (8, .int .i64 (cntS ys ys[i] k)), (9, .int .i64 (cntS l ys[i] k)), (63, .int .i64 l.length), (64, .int .i64 k)]) (fun _ => []) (fun k => k ≤ l.length) (fun k => l.length - k) 0 ⟨rfl, rfl, rfl, rfl, rfl, rfl, rfl, rfl, rfl, trivial⟩ rfl (Nat.zero_le _) ?_
    rintro k ρ hk
    by_cases hkc : k < l.length
    · have hky : k < ys.length := by omega
      have b1 := cntS_le (l := l) (x := ys[i]) (k := k)
      have b2 := cntS_le (l := ys) (x := ys[i]) (k := k)
      (apply w_sq; apply w_reg; apply w_lss; rfl; rfl; apply w_done0; apply w_sq; refine w_ifdT rfl (by omega) ?_; apply w_skip; apply w_sq; apply w_block; apply w_sq; apply w_reg; apply w_mvi; rfl; apply w_mvi; rfl; apply w_done0; apply w_sq; apply w_sq; apply w_drawn; apply w_mvs; rfl; apply w_mvi; rfl; refine w_idxR (sz := 6) (R := RVal) (by rfl) (by assumption) (by rfl) rfl (by omega) ?_; rintro _ _ _ _ _ _; apply w_ldd; rfl; assumption; assumption; apply w_mvs; rfl; apply w_mvi; rfl; refine w_idxR (sz := 6) (R := RVal) (by rfl) (by assumption) (by rfl) rfl (by omega) ?_; rintro _ _ _ _ _ _; apply w_ldd; rfl; assumption; assumption)
      rename_i cs1 hcs1 hD1 hR1 _ _ cs2 hcs2 hD2 hR2
      have c1 := h5 _ _ hR1 hR2
      by_cases hq1 : sameV l[k] ys[i] = true
      · have s1 := cntS_succ (x := ys[i]) hkc
        rw [hq1, if_pos rfl] at s1
        rw [hq1] at c1
        refine w_pure rfl c1 ?_
        (apply w_done0; apply w_ifT; rfl; apply w_reg; apply w_mvi; rfl; apply w_add; rfl; rfl; omega; omega; apply w_mvi; rfl; apply w_done0; apply w_sq; apply w_drawn; apply w_mvs; rfl; apply w_mvi; rfl; refine w_idxR (sz := 6) (R := RVal) (by rfl) (by assumption) (by rfl) rfl (by omega) ?_; rintro _ _ _ _ _ _; apply w_ldd; rfl; assumption; assumption; apply w_mvs; rfl; apply w_mvi; rfl; refine w_idxR (sz := 6) (R := RVal) (by rfl) (by assumption) (by rfl) rfl (by omega) ?_; rintro _ _ _ _ _ _; apply w_ldd; rfl; assumption; assumption)
        rename_i cs3 hcs3 hD3 hR3 _ _ cs4 hcs4 hD4 hR4
        have c2 := h5 _ _ hR3 hR4
        by_cases hq2 : sameV ys[k] ys[i] = true
        · have s2 := cntS_succ (x := ys[i]) hky
          rw [hq2, if_pos rfl] at s2
          rw [hq2] at c2
          refine w_pure rfl c2 ?_
          (apply w_done0; apply w_ifT; rfl; apply w_reg; apply w_mvi; rfl; apply w_add; rfl; rfl; omega; omega; apply w_mvi; rfl; apply w_done0; apply w_reg; apply w_add; rfl; rfl; omega; omega; apply w_mvi; rfl; apply w_done0)
          exact ⟨k + 1, by omega, ⟨rfl, rfl, rfl, rfl, rfl, int_eq (by omega), int_eq (by omega), rfl, int_eq (by omega), trivial⟩, rfl, rfl, hkc⟩
        · have s2 := cntS_succ (x := ys[i]) hky
          rw [if_neg hq2] at s2
          rw [Bool.eq_false_iff.2 hq2] at c2
          refine w_pure rfl c2 ?_
          (apply w_done0; apply w_ifF; rfl; apply w_skip; apply w_reg; apply w_add; rfl; rfl; omega; omega; apply w_mvi; rfl; apply w_done0)
          exact ⟨k + 1, by omega, ⟨rfl, rfl, rfl, rfl, rfl, int_eq (by omega), int_eq (by omega), rfl, int_eq (by omega), trivial⟩, rfl, rfl, hkc⟩
      · have s1 := cntS_succ (x := ys[i]) hkc
        rw [if_neg hq1] at s1
        rw [Bool.eq_false_iff.2 hq1] at c1
        refine w_pure rfl c1 ?_
        (apply w_done0; apply w_ifF; rfl; apply w_skip; apply w_sq; apply w_drawn; apply w_mvs; rfl; apply w_mvi; rfl; refine w_idxR (sz := 6) (R := RVal) (by rfl) (by assumption) (by rfl) rfl (by omega) ?_; rintro _ _ _ _ _ _; apply w_ldd; rfl; assumption; assumption; apply w_mvs; rfl; apply w_mvi; rfl; refine w_idxR (sz := 6) (R := RVal) (by rfl) (by assumption) (by rfl) rfl (by omega) ?_; rintro _ _ _ _ _ _; apply w_ldd; rfl; assumption; assumption)
        rename_i cs3 hcs3 hD3 hR3 _ _ cs4 hcs4 hD4 hR4
        have c2 := h5 _ _ hR3 hR4
        by_cases hq2 : sameV ys[k] ys[i] = true
        · have s2 := cntS_succ (x := ys[i]) hky
          rw [hq2, if_pos rfl] at s2
          rw [hq2] at c2
          refine w_pure rfl c2 ?_
          (apply w_done0; apply w_ifT; rfl; apply w_reg; apply w_mvi; rfl; apply w_add; rfl; rfl; omega; omega; apply w_mvi; rfl; apply w_done0; apply w_reg; apply w_add; rfl; rfl; omega; omega; apply w_mvi; rfl; apply w_done0)
          exact ⟨k + 1, by omega, ⟨rfl, rfl, rfl, rfl, rfl, int_eq (by omega), int_eq (by omega), rfl, int_eq (by omega), trivial⟩, rfl, rfl, hkc⟩
        · have s2 := cntS_succ (x := ys[i]) hky
          rw [if_neg hq2] at s2
          rw [Bool.eq_false_iff.2 hq2] at c2
          refine w_pure rfl c2 ?_
          (apply w_done0; apply w_ifF; rfl; apply w_skip; apply w_reg; apply w_add; rfl; rfl; omega; omega; apply w_mvi; rfl; apply w_done0)
          exact ⟨k + 1, by omega, ⟨rfl, rfl, rfl, rfl, rfl, int_eq (by omega), int_eq (by omega), rfl, int_eq (by omega), trivial⟩, rfl, rfl, hkc⟩
    · obtain rfl : k = l.length := by omega
      have hcp := cntS_perm hp ys[i]
      rw [hyl] at hcp
      have hcp' : ((cntS ys ys[i] l.length : Nat) : Int) = (cntS l ys[i] l.length : Nat) := by omega
      (apply w_sq; apply w_reg; apply w_lss; rfl; rfl; apply w_done0; apply w_sq; refine w_ifdF rfl (by omega) ?_; apply w_exit; apply w_sq; apply w_reg; apply w_mvi; rfl; apply w_mvi; rfl; apply w_neq; rfl; rfl; apply w_done0; refine w_ifdF rfl (by omega) ?_; apply w_skip; apply w_reg; apply w_add; rfl; rfl; omega; omega; apply w_mvi; rfl; apply w_done0)
      exact ⟨i + 1, by omega, ⟨rfl, rfl, rfl, int_eq (by omega), trivial⟩, rfl, rfl, hc⟩
  · obtain rfl : i = l.length := by omega
    have hys2 : RVals d2 (.slice ra l.length rc) ys := hys
    (apply w_sq; apply w_reg; apply w_lss; rfl; rfl; apply w_done0; apply w_sq; refine w_ifdF rfl (by omega) ?_; apply w_exit; apply w_sq; apply w_reg; apply w_mvs; rfl)
    refine w_call0 rfl (h3 ht2 hys2 (by omega) hcnt) (fun r d4 L4 _ ⟨hdd, hr⟩ => ?_)
    subst hdd
    rcases hr with ⟨hw2, hr, hL⟩ | ⟨hw2, ra2, rc2, ys2, hl3, hs3, hr, ho2, hL, hp2, hsr2⟩
    · exact absurd hwy hw2
    subst hr; subst hL
    obtain rfl := srt_unique (wrongL_may hwy) hp2.symm hsr hsr2
    obtain ⟨d5, hv5, hl5, hk5⟩ := Vs.frzAll d4 ((hl3 :: hs3) ++ [])
    refine w_vs d5 _ hv5 ?_
    have hys5 : RVals d5 (.slice ra2 ys.length rc2) ys := ho2.rvals (hk5 hl3 (by simp)) (fun k hk => hk5 k (by simp [hk]))
    (apply w_mvu; rfl; apply w_ext; rfl; rfl; apply w_ext; rfl; rfl; apply w_mvs; rfl; apply w_mvi; rfl; apply w_done0; apply w_sq; apply w_sq; apply w_reg; apply w_mvi; rfl; apply w_neq; rfl; rfl; apply w_mvb; rfl; refine w_gdF rfl (by omega) ?_; apply w_gT; rfl; apply w_mvs; rfl; apply w_gT; rfl; apply w_mvs; rfl; apply w_gT; rfl)
    refine w_pure rfl (h6 (RVals.mono hys2 hl5) hys5) ?_
    rw [lists_true.2 rfl]
    (apply w_gT; rfl; apply w_not; rfl; apply w_pickFb; rfl; rfl; apply w_done0; apply w_ifF; rfl; apply w_skip; apply w_sq; apply w_reg; apply w_mvs; rfl)
    refine w_pure rfl (h7 (hT hl5 ht2) (RVals.mono hl' hl5) (by omega) (fun x hx => by have := (hbd x hx).2.1; omega)) ?_
    by_cases h0 : l = []
    · have hl0 : l.length = 0 := by rw [h0]; rfl
      rw [leastTop, if_neg (by omega), if_pos h0]
      (apply w_mvu; rfl; apply w_ext; rfl; rfl; apply w_ext; rfl; rfl; apply w_mvi; rfl; apply w_mvi; rfl; apply w_done0; apply w_sq; apply w_sq; apply w_reg; apply w_mvs; rfl; apply w_len; rfl; apply w_eql; rfl; rfl; apply w_done0; refine w_ifdT rfl (by omega) ?_; apply w_sq; apply w_reg; apply w_mvi; rfl; apply w_eql; rfl; rfl; apply w_mvb; rfl; apply w_done0; apply w_ret)
      exact finQb rfl (decide_eq_true rfl)
    · have hl0 : l.length ≠ 0 := fun q => h0 (List.eq_nil_of_length_eq_zero q)
      obtain ⟨hb, hy0, he⟩ := least_first0 hw hp hsr (by omega)
      rw [leastTop, if_neg (by omega), if_neg h0]
      have hl6 : RSl 6 RVal d5 (.slice pa l.length ca) l := RVals.mono hl' hl5
      have hys6 : RSl 6 RVal d5 (.slice ra l.length rc) ys := RVals.mono hys2 hl5
      have hsm : sameV l[leastN l l.length] ys[0] = true := (sameV_iff _ _).2 he
      (apply w_mvu; rfl; apply w_ext; rfl; rfl; apply w_ext; rfl; rfl; apply w_mvi; rfl; apply w_mvi; rfl; apply w_done0; apply w_sq; apply w_sq; apply w_reg; apply w_mvs; rfl; apply w_len; rfl; apply w_eql; rfl; rfl; apply w_done0; refine w_ifdF rfl (by omega) ?_; apply w_skip; apply w_sq; apply w_drawn; apply w_mvi; rfl; apply w_eql; rfl; rfl; apply w_mvb; rfl; refine w_gdT rfl (by omega) ?_; apply w_gT; rfl; apply w_mvi; rfl; apply w_gT; rfl; apply w_geq; rfl; rfl; apply w_pickTb; rfl; rfl; apply w_mvb; rfl; refine w_gdT rfl (by omega) ?_; apply w_gT; rfl; apply w_mvi; rfl; apply w_gT; rfl; apply w_mvs; rfl; apply w_gT; rfl; apply w_len; rfl; apply w_gT; rfl; apply w_lss; rfl; rfl; apply w_pickTb; rfl; rfl; apply w_mvb; rfl; refine w_gdT rfl (by omega) ?_; apply w_gT; rfl; apply w_mvs; rfl; apply w_gT; rfl; apply w_mvi; rfl; apply w_gT; rfl; refine w_idxR (sz := 6) (R := RVal) (by rfl) (by assumption) (by rfl) rfl (by omega) ?_; rintro _ _ _ _ _ _; apply w_gT; rfl; apply w_ldd; rfl; assumption; assumption; apply w_gT; rfl; apply w_mvs; rfl; apply w_gT; rfl; refine w_idxR (sz := 6) (R := RVal) (by rfl) (by assumption) (by rfl) rfl (by omega) ?_; rintro _ _ _ _ _ _; apply w_gT; rfl; apply w_ldd; rfl; assumption; assumption; apply w_gT; rfl)
      rename_i cs1 hcs1 hD1 hR1 _ _ cs2 hcs2 hD2 hR2
      have c1 := h5 _ _ hR1 hR2
      rw [hsm] at c1
      refine w_pure rfl c1 ?_
      (apply w_pickTb; rfl; rfl; apply w_bar; apply w_mvb; rfl; apply w_done0; apply w_ret)
      exact finQ rfl
end Go.Gk.Val
end

section
/-
  The laws of order: OrderSorts.
-/
namespace Go.Gk.Val
open Go Go.Gk Go.Gk.Srt
attribute [local irreducible] gwp gws

/-- Of a value's own memory: the row of its list. -/
theorem OVal.lst {cs : List Value} {v : V} {h : PHeap} (o : OVal cs v h) : ∃ lv kv hl ccs, cs = [.int .i64 v.kind, .int .i64 v.m, .int .i64 v.e, strV v.text, lv, kv] ∧ ORow 6 lv v.list.length ccs hl ∧ ∀ d L0, Vs d (h :: L0) d (hl :: L0) := by
  obtain ⟨lv, kv, hk, hl, ccs, hs, rfl, _, _, _, _, _, ho, _, _, dj, rfl⟩ := o.open
  refine ⟨lv, kv, hl, ccs, rfl, ho, fun d L0 => (Vs.openL dj).trans (Vs.drop ?_)⟩
  simp only [List.cons_append]
  exact ((List.sublist_append_right hs L0).cons_cons hl).cons hk
theorem getD_drop {hs : List PHeap} {i : Nat} (h : i < hs.length) : hs.drop i = hs.getD i emp :: hs.drop (i + 1) := by
  rw [List.drop_eq_getElem_cons h]; simp [h]
def g_thimblelaw04_OrderSorts (f_thimblelaw04_great f_thimblelaw04_works f_thimbleref03_Copy f_order_Sort f_thimbleref04_Sort f_order_Least f_thimbleref04_Least f_thimbleref03_Lists : Nat) : GFun :=
 ⟨98, [(.tmp 2)],
 (.seq
 (.reg false (.op false ⟨(some 2), none, (.mv (.const (.bool false)))⟩ .done))
 (.seq (.seq
 (.reg false (.op false ⟨(some 14), none, (.mv (.tmp 0))⟩
  (.op false ⟨(some 15), none, (.call f_thimblelaw04_great [(.tmp 14)])⟩ .done))) (.cond (.tmp 15)
 (.seq
 (.reg false (.op false ⟨(some 16), none, (.call f_thimblelaw04_works [])⟩
  (.op false ⟨(some 2), none, (.mv (.tmp 16))⟩ .done))) .ret) .skip))
 (.seq
 (.reg false (.op false ⟨(some 17), none, (.mv (.tmp 0))⟩
  (.op false ⟨(some 18), none, (.bld [(0, 1), (1, 2), (3, 1), (4, 1), (5, 1)] [(.int .i64 0), (.int .i64 0), (.int .i64 0), (strV []), (.slice none 0 0), (.slice none 0 0)] [(3, (.tmp 17))])⟩
  (.op false ⟨(some 19), none, (.call f_thimbleref03_Copy [(.tmp 18)])⟩
  (.op false ⟨(some 3), none, (.alo (.agg #[(.int .i64 0), (.int .i64 0), (.int .i64 0), (strV []), (.slice none 0 0), (.slice none 0 0)]))⟩
  (.op false ⟨none, none, (.st 6 (.tmp 3) (.tmp 19))⟩ .done))))))
 (.seq
 (.reg false (.op false ⟨(some 21), none, (.fld 4 (.tmp 3))⟩
  (.op false ⟨(some 22), none, (.ld none (.tmp 21))⟩
  (.op false ⟨(some 23), none, (.call f_order_Sort [(.tmp 22)])⟩
  (.op false ⟨(some 20), none, (.mv (.tmp 23))⟩
  (.op false ⟨(some 24), none, (.ext (.tmp 20) 0)⟩
  (.op false ⟨(some 25), none, (.ext (.tmp 20) 1)⟩
  (.op false ⟨(some 4), none, (.mv (.tmp 24))⟩
  (.op false ⟨(some 5), none, (.mv (.tmp 25))⟩ .done)))))))))
 (.seq
 (.reg false (.op false ⟨(some 27), none, (.mv (.tmp 0))⟩
  (.op false ⟨(some 28), none, (.call f_thimbleref04_Sort [(.tmp 27)])⟩
  (.op false ⟨(some 26), none, (.mv (.tmp 28))⟩
  (.op false ⟨(some 29), none, (.ext (.tmp 26) 0)⟩
  (.op false ⟨(some 30), none, (.ext (.tmp 26) 1)⟩
  (.op false ⟨(some 6), none, (.mv (.tmp 29))⟩
  (.op false ⟨(some 7), none, (.mv (.tmp 30))⟩ .done))))))))
 (.seq
 (.reg false (.op false ⟨(some 32), none, (.fld 4 (.tmp 3))⟩
  (.op false ⟨(some 33), none, (.ld none (.tmp 32))⟩
  (.op false ⟨(some 34), none, (.call f_order_Least [(.tmp 33)])⟩
  (.op false ⟨(some 31), none, (.mv (.tmp 34))⟩
  (.op false ⟨(some 35), none, (.ext (.tmp 31) 0)⟩
  (.op false ⟨(some 36), none, (.ext (.tmp 31) 1)⟩
  (.op false ⟨(some 8), none, (.mv (.tmp 35))⟩
  (.op false ⟨(some 9), none, (.mv (.tmp 36))⟩ .done)))))))))
 (.seq
 (.reg false (.op false ⟨(some 38), none, (.mv (.tmp 0))⟩
  (.op false ⟨(some 39), none, (.call f_thimbleref04_Least [(.tmp 38)])⟩
  (.op false ⟨(some 37), none, (.mv (.tmp 39))⟩
  (.op false ⟨(some 40), none, (.ext (.tmp 37) 0)⟩
  (.op false ⟨(some 41), none, (.ext (.tmp 37) 1)⟩
  (.op false ⟨(some 10), none, (.mv (.tmp 40))⟩
  (.op false ⟨(some 11), none, (.mv (.tmp 41))⟩ .done))))))))
 (.seq (.seq
 (.reg false (.op false ⟨(some 42), none, (.mv (.tmp 4))⟩
  (.op false ⟨(some 43), none, (.mv (.tmp 6))⟩
  (.op false ⟨(some 44), none, (.call f_thimbleref03_Lists [(.tmp 42), (.tmp 43)])⟩
  (.op false ⟨(some 45), none, (.un .not (.tmp 44))⟩
  (.op false ⟨(some 46), none, (.mv (.tmp 45))⟩
  (.op false ⟨(some 47), (some (46, false)), (.mv (.tmp 5))⟩
  (.op false ⟨(some 48), (some (46, false)), (.mv (.tmp 7))⟩
  (.op false ⟨(some 49), (some (46, false)), (.bin .neq (.tmp 47) (.tmp 48))⟩
  (.op false ⟨(some 50), none, (.pick (.tmp 46) (.const (.bool true)) (.tmp 49))⟩
  (.op false ⟨(some 51), none, (.mv (.tmp 50))⟩
  (.op false ⟨(some 52), (some (51, false)), (.mv (.tmp 8))⟩
  (.op false ⟨(some 53), (some (51, false)), (.mv (.tmp 10))⟩
  (.op false ⟨(some 54), (some (51, false)), (.bin .neq (.tmp 52) (.tmp 53))⟩
  (.op false ⟨(some 55), none, (.pick (.tmp 51) (.const (.bool true)) (.tmp 54))⟩
  (.op false ⟨(some 56), none, (.mv (.tmp 55))⟩
  (.op false ⟨(some 57), (some (56, false)), (.mv (.tmp 9))⟩
  (.op false ⟨(some 58), (some (56, false)), (.mv (.tmp 11))⟩
  (.op false ⟨(some 59), (some (56, false)), (.bin .neq (.tmp 57) (.tmp 58))⟩
  (.op false ⟨(some 60), none, (.pick (.tmp 56) (.const (.bool true)) (.tmp 59))⟩ .done)))))))))))))))))))) (.cond (.tmp 60)
 (.seq
 (.reg false (.op false ⟨(some 2), none, (.mv (.const (.bool false)))⟩ .done)) .ret) .skip))
 (.seq (.seq
 (.reg false (.op false ⟨(some 61), none, (.mv (.tmp 4))⟩
  (.op false ⟨(some 62), none, (.len (.tmp 61))⟩
  (.op false ⟨(some 63), none, (.mv (.const (.int .i64 0)))⟩ .done)))) (.block 0 (.loop
 (.seq
 (.reg false (.op false ⟨(some 64), none, (.bin .lss (.tmp 63) (.tmp 62))⟩ .done))
 (.seq (.cond (.tmp 64) .skip (.exit 0))
 (.seq (.block 1
 (.seq
 (.reg false (.op false ⟨(some 65), none, (.mv (.tmp 63))⟩
  (.op false ⟨(some 12), none, (.mv (.tmp 65))⟩ .done)))
 (.seq
 (.reg false (.op false ⟨(some 66), none, (.mv (.tmp 4))⟩
  (.op false ⟨(some 67), none, (.mv (.tmp 12))⟩
  (.op false ⟨(some 68), none, (.idx 6 (.tmp 66) (.tmp 67))⟩
  (.op false ⟨(some 69), none, (.fld 3 (.tmp 68))⟩
  (.op false ⟨none, none, (.st 1 (.tmp 69) (.const (strV [115, 112, 111, 105, 108, 116])))⟩ .done))))))
 (.seq
 (.reg false (.op false ⟨(some 70), none, (.mv (.tmp 4))⟩
  (.op false ⟨(some 71), none, (.mv (.tmp 12))⟩
  (.op false ⟨(some 72), none, (.idx 6 (.tmp 70) (.tmp 71))⟩
  (.op false ⟨(some 73), none, (.fld 4 (.tmp 72))⟩
  (.op false ⟨(some 74), none, (.ld none (.tmp 73))⟩
  (.op false ⟨(some 75), none, (.len (.tmp 74))⟩
  (.op false ⟨(some 76), none, (.mv (.const (.int .i64 0)))⟩ .done)))))))) (.block 2 (.loop
 (.seq
 (.reg false (.op false ⟨(some 77), none, (.bin .lss (.tmp 76) (.tmp 75))⟩ .done))
 (.seq (.cond (.tmp 77) .skip (.exit 2))
 (.seq (.block 3
 (.seq
 (.reg false (.op false ⟨(some 78), none, (.mv (.tmp 76))⟩
  (.op false ⟨(some 13), none, (.mv (.tmp 78))⟩ .done)))
 (.reg false (.op false ⟨(some 79), none, (.mv (.tmp 4))⟩
  (.op false ⟨(some 80), none, (.mv (.tmp 12))⟩
  (.op false ⟨(some 81), none, (.idx 6 (.tmp 79) (.tmp 80))⟩
  (.op false ⟨(some 82), none, (.fld 4 (.tmp 81))⟩
  (.op false ⟨(some 83), none, (.ld none (.tmp 82))⟩
  (.op false ⟨(some 84), none, (.mv (.tmp 13))⟩
  (.op false ⟨(some 85), none, (.bld [(0, 1), (1, 2), (3, 1), (4, 1), (5, 1)] [(.int .i64 0), (.int .i64 0), (.int .i64 0), (strV []), (.slice none 0 0), (.slice none 0 0)] [(0, (.const (.int .i64 (-1))))])⟩
  (.op false ⟨(some 86), none, (.idx 6 (.tmp 83) (.tmp 84))⟩
  (.op false ⟨none, none, (.st 6 (.tmp 86) (.tmp 85))⟩ .done))))))))))))
 (.reg false (.op false ⟨(some 87), none, (.bin .add (.tmp 76) (.const (.int .i64 1)))⟩
  (.op false ⟨(some 76), none, (.mv (.tmp 87))⟩ .done))))))))))))
 (.reg false (.op false ⟨(some 88), none, (.bin .add (.tmp 63) (.const (.int .i64 1)))⟩
  (.op false ⟨(some 63), none, (.mv (.tmp 88))⟩ .done)))))))))
 (.seq
 (.reg false (.op false ⟨(some 89), none, (.fld 4 (.tmp 3))⟩
  (.op false ⟨(some 90), none, (.ld none (.tmp 89))⟩
  (.op false ⟨(some 91), none, (.mv (.tmp 0))⟩
  (.op false ⟨(some 92), none, (.call f_thimbleref03_Lists [(.tmp 90), (.tmp 91)])⟩
  (.op false ⟨(some 93), none, (.mv (.tmp 92))⟩
  (.op false ⟨(some 94), none, (.pick (.tmp 93) (.const (.bool true)) (.const (.bool false)))⟩
  (.op false ⟨(some 95), none, (.mv (.tmp 94))⟩
  (.op false ⟨(some 96), (some (95, true)), (.call f_thimblelaw04_works [])⟩
  (.op false ⟨(some 97), none, (.pick (.tmp 95) (.tmp 96) (.const (.bool false)))⟩
  (.op false ⟨(some 2), none, (.mv (.tmp 97))⟩ .done))))))))))) .ret))))))))))⟩

set_option maxHeartbeats 4000000 in
theorem orderSorts_ok {T : PHeap → Prop} {P : Program} {f f1 f2 f3 f4 f5 f6 f7 f8 : FuncId} (hT : ∀ {d d' : PHeap}, Le d d' → T d → T d') (hd : decp P f = some (g_thimblelaw04_OrderSorts f1 f2 f3 f4 f5 f6 f7 f8)) (h1 : Great4Ok P f1) (h2 : W4Ok T P f2) (h3 : RCopyOk P f3) (h4 : OSortOk T P f4) (h5 : RSortOk T P f5) (h6 : LeastOk T P f6) (h7 : LeastOk T P f7) (h8 : ListsOk P f8)
    {d : PHeap} {v : Value} {l : List V} (ht : T d) (hv : RVals d v l) : GPure P f [v] d (.bool true) := by
  obtain ⟨pa, ca, rfl⟩ := RSl.val hv
  have hv2 : RVal d [.int .i64 0, .int .i64 0, .int .i64 0, strV [], .slice pa l.length ca, .slice none 0 0] (.mk 0 0 0 [] l []) := RVal.close (v := .mk 0 0 0 [] l []) i64_0 i64_0 i64_0 (by simp) hv RSl.nil
  refine GPure.of' hd (Nat.le_of_ble_eq_true rfl) ?_
  show gwp P _ _ _ _ _
  (apply w_sq; apply w_reg; apply w_mvb; rfl; apply w_done0; apply w_sq; apply w_sq; apply w_reg; apply w_mvs; rfl)
  refine w_call0 rfl (h1 hv) (fun r d1 L1 _ ⟨hdd, hL, q, hr, hq⟩ => ?_)
  subst hdd; subst hL; subst hr
  cases q with
  | true =>
    (apply w_done0; apply w_ifT; rfl; apply w_sq; apply w_reg)
    refine w_pure rfl (h2 ht) ?_
    (apply w_mvb; rfl; apply w_done0; apply w_ret)
    exact finQ rfl
  | false =>
    have hbk := hq rfl
    obtain ⟨hll, hbd⟩ := bulk_list hbk
    have hcn := cnt_bulk (.mk 0 0 0 [] l [])
    (apply w_done0; apply w_ifF; rfl; apply w_skip; apply w_sq; apply w_reg; apply w_mvs; rfl; apply w_bvL; rfl)
    refine w_call0 rfl (h3 _ hv2 (by omega)) (fun r d2 L2 hl2 ⟨hL, cs', hr, hR⟩ => ?_)
    subst hL; subst hr
    obtain ⟨lv, kv, hcs, _, _, _, _, hll2, hkk⟩ := hR.open
    simp only [V.list, V.keys, V.kind, V.m, V.e, V.text] at hcs hll2 hkk
    obtain ⟨la, lc, rfl⟩ := RSl.val hll2
    obtain ⟨ka, kc, rfl⟩ := RSl.val hkk
    subst hcs
    have ht2 := hT hl2 ht
    (apply w_alo; intro _ _)
    rename_i b3 T3
    refine w_stE 0 [.int .i64 0, .int .i64 0, .int .i64 0, strV [], .slice la l.length lc, .slice ka ([] : List (List UInt8)).length kc] rfl rfl rfl rfl (Nat.le_of_ble_eq_true rfl) rfl rfl ?_
    (apply w_done0; apply w_sq; apply w_reg; apply w_fld; rfl; apply w_ld; rfl; exact hc_i 0 rfl rfl)
    refine w_call0 rfl (h4 ht2 hll2 (by omega) (fun x hx => by have := (hbd x hx).1; omega)) (fun r d3 L3 _ ⟨hdd, hr⟩ => ?_)
    subst hdd
    have hdp : ∀ x ∈ l, depthV x ≤ 1000000000 := fun x hx => by have := (hbd x hx).2.1; omega
    have hv3 : RVals d3 (.slice pa l.length ca) l := RVals.mono hv hl2
    rcases hr with ⟨hw, hr, hL⟩ | ⟨hw, ra, rc, ys, hl, hs, hr, ho, hL, hp, hsr⟩
    · subst hr; subst hL
      (apply w_mvu; rfl; apply w_ext; rfl; rfl; apply w_ext; rfl; rfl; apply w_mvs; rfl; apply w_mvi; rfl; apply w_done0; apply w_sq; apply w_reg; apply w_mvs; rfl)
      refine w_call0 rfl (h5 ht2 hv3 (by omega) hdp) (fun r d4 L4 hl4 ⟨hL, hr⟩ => ?_)
      subst hL
      rcases hr with ⟨_, hr⟩ | ⟨hw2, _⟩
      · subst hr
        have ht4 := hT hl4 ht2
        have e0 : leastTop l = (0, wrongL l) := by rw [leastTop, if_pos hw]
        have c6 := h6 ht4 (RVals.mono hll2 hl4) (by omega) hdp
        have c7 := h7 ht4 (RVals.mono hv3 hl4) (by omega) hdp
        rw [e0] at c6 c7
        have c8 := h8 (d := d4) (l := []) (m := []) RSl.nil RSl.nil
        rw [lists_true.2 rfl] at c8
        have c9 := h8 (RVals.mono hll2 hl4) (RVals.mono hv3 hl4)
        rw [lists_true.2 rfl] at c9
        (apply w_mvu; rfl; apply w_ext; rfl; rfl; apply w_ext; rfl; rfl; apply w_mvs; rfl; apply w_mvi; rfl; apply w_done0; apply w_sq; apply w_reg; apply w_fld; rfl; apply w_ld; rfl; exact hc_i 0 rfl rfl)
        refine w_pure rfl c6 ?_
        (apply w_mvu; rfl; apply w_ext; rfl; rfl; apply w_ext; rfl; rfl; apply w_mvi; rfl; apply w_mvi; rfl; apply w_done0; apply w_sq; apply w_reg; apply w_mvs; rfl)
        refine w_pure rfl c7 ?_
        (apply w_mvu; rfl; apply w_ext; rfl; rfl; apply w_ext; rfl; rfl; apply w_mvi; rfl; apply w_mvi; rfl; apply w_done0; apply w_sq; apply w_sq; apply w_reg; apply w_mvs; rfl; apply w_mvs; rfl)
        refine w_pure rfl c8 ?_
        (apply w_not; rfl; apply w_mvb; rfl; apply w_gT; rfl; apply w_mvi; rfl; apply w_gT; rfl; apply w_mvi; rfl; apply w_gT; rfl; apply w_neq; rfl; rfl; apply w_pickFb; rfl; rfl; apply w_mvb; rfl; refine w_gdF rfl (by omega) ?_; apply w_gT; rfl; apply w_mvi; rfl; apply w_gT; rfl; apply w_mvi; rfl; apply w_gT; rfl; apply w_neq; rfl; rfl; apply w_pickFb; rfl; rfl; apply w_mvb; rfl; refine w_gdF rfl (by omega) ?_; apply w_gT; rfl; apply w_mvi; rfl; apply w_gT; rfl; apply w_mvi; rfl; apply w_gT; rfl; apply w_neq; rfl; rfl; apply w_pickFb; rfl; rfl; apply w_done0; refine w_ifdF rfl (by omega) ?_; apply w_skip; apply w_sq; apply w_sq; apply w_reg; apply w_mvs; rfl; apply w_len; rfl; apply w_mvi; rfl; apply w_done0; apply w_block)
        refine w_loopN (α := Unit) (fun _ => [(0, .slice pa l.length ca), (3, .pointer (some ⟨b3, 0, none⟩)), (62, .int .i64 0), (63, .int .i64 0)]) (fun _ => [bx b3 T3 [.int .i64 0, .int .i64 0, .int .i64 0, strV [], .slice la l.length lc, .slice ka ([] : List (List UInt8)).length kc]]) (fun _ => True) (fun _ => 0) () ⟨rfl, rfl, rfl, rfl, trivial⟩ rfl trivial ?_
        rintro _ ρ _
        (apply w_sq; apply w_reg; apply w_lss; rfl; rfl; apply w_done0; apply w_sq; refine w_ifdF rfl (by omega) ?_; apply w_exit; apply w_sq; apply w_reg; apply w_fld; rfl; apply w_ld; rfl; exact hc_i 0 rfl rfl; apply w_mvs; rfl)
        refine w_pure rfl c9 ?_
        (apply w_mvb; rfl; apply w_pickTb; rfl; rfl; apply w_mvb; rfl; apply w_gT; rfl)
        refine w_pure rfl (h2 ht4) ?_
        (apply w_pickTb; rfl; rfl; apply w_mvb; rfl; apply w_done0; apply w_ret)
        exact finQ rfl
      · exact absurd hw2 hw
    · have hyl := hp.length_eq
      rw [hyl] at hr ho
      subst hr; subst hL
      refine w_vs d3 (bx b3 T3 [.int .i64 0, .int .i64 0, .int .i64 0, strV [], .slice la l.length lc, .slice ka ([] : List (List UInt8)).length kc] :: (hl :: hs)) (Vs.perm List.perm_append_comm) ?_
      (apply w_mvu; rfl; apply w_ext; rfl; rfl; apply w_ext; rfl; rfl; apply w_mvs; rfl; apply w_mvi; rfl; apply w_done0; apply w_sq; apply w_reg; apply w_mvs; rfl)
      refine w_call0 rfl (h5 ht2 hv3 (by omega) hdp) (fun r d4 L4 hl4 ⟨hL, hr⟩ => ?_)
      subst hL
      rcases hr with ⟨hw2, _⟩ | ⟨_, rb, rd, zs, hr, hzs, hpz, hsz⟩
      · exact absurd hw hw2
      obtain rfl := srt_unique (wrongL_may (wrongL_zero.2 fun x hx => wrongL_zero.1 hw x (hp.mem_iff.1 hx))) (hp.trans hpz.symm) hsr hsz
      subst hr
      have ht4 := hT hl4 ht2
      have c6 := h6 ht4 (RVals.mono hll2 hl4) (by omega) hdp
      have c7 := h7 ht4 (RVals.mono hv3 hl4) (by omega) hdp
      have c9 := h8 (RVals.mono hll2 hl4) (RVals.mono hv3 hl4)
      rw [lists_true.2 rfl] at c9
      (apply w_mvu; rfl; apply w_ext; rfl; rfl; apply w_ext; rfl; rfl; apply w_mvs; rfl; apply w_mvi; rfl; apply w_done0; apply w_sq; apply w_reg; apply w_fld; rfl; apply w_ld; rfl; exact hc_i 0 rfl rfl)
      refine w_pure rfl c6 ?_
      (apply w_mvu; rfl; apply w_ext; rfl; rfl; apply w_ext; rfl; rfl; apply w_mvi; rfl; apply w_mvi; rfl; apply w_done0; apply w_sq; apply w_reg; apply w_mvs; rfl)
      refine w_pure rfl c7 ?_
      (apply w_mvu; rfl; apply w_ext; rfl; rfl; apply w_ext; rfl; rfl; apply w_mvi; rfl; apply w_mvi; rfl; apply w_done0; apply w_sq; apply w_sq; apply w_reg; apply w_mvs; rfl; apply w_mvs; rfl)
      refine w_pureB (v := .bool true) rfl (fun d5 hl5 hk5 => by
        have := h8 (ho.rvals (d := d5) (hk5 hl (by simp [lk])) (fun k hk => hk5 k (by simp [lk, hk]))) (RVals.mono hzs hl5)
        rwa [lists_true.2 rfl] at this) ?_
      (apply w_not; rfl; apply w_mvb; rfl; apply w_gT; rfl; apply w_mvi; rfl; apply w_gT; rfl; apply w_mvi; rfl; apply w_gT; rfl; apply w_neq; rfl; rfl; apply w_pickFb; rfl; rfl; apply w_mvb; rfl; refine w_gdF rfl (by omega) ?_; apply w_gT; rfl; apply w_mvi; rfl; apply w_gT; rfl; apply w_mvi; rfl; apply w_gT; rfl; apply w_neq; rfl; rfl; apply w_pickFb; rfl; rfl; apply w_mvb; rfl; refine w_gdF rfl (by omega) ?_; apply w_gT; rfl; apply w_mvi; rfl; apply w_gT; rfl; apply w_mvi; rfl; apply w_gT; rfl; apply w_neq; rfl; rfl; apply w_pickFb; rfl; rfl; apply w_done0; refine w_ifdF rfl (by omega) ?_; apply w_skip; apply w_sq; apply w_sq; apply w_reg; apply w_mvs; rfl; apply w_len; rfl; apply w_mvi; rfl; apply w_done0; apply w_block)
      obtain ⟨ccs, hrow, hhs, hel⟩ := ho
      rw [hyl] at hrow hhs
      refine w_loopS (α := Nat) (fun i => [(0, .slice pa l.length ca), (3, .pointer (some ⟨b3, 0, none⟩)), (4, .slice ra l.length rc), (62, .int .i64 l.length), (63, .int .i64 i)])
        (fun i d' L' => d' = d4 ∧ i ≤ l.length ∧ ∃ hl' ccs', L' = bx b3 T3 [.int .i64 0, .int .i64 0, .int .i64 0, strV [], .slice la l.length lc, .slice ka ([] : List (List UInt8)).length kc] :: hl' :: hs.drop i ∧ ORow 6 (.slice ra l.length rc) l.length ccs' hl' ∧ ∀ j (hj : j < ys.length), i ≤ j → OVal (chunk ccs' j 6) ys[j] (hs.getD j emp))
        (fun i => l.length - i) 0 ⟨rfl, rfl, rfl, rfl, rfl, trivial⟩ ⟨rfl, Nat.zero_le _, hl, ccs, rfl, hrow, fun j hj _ => hel j hj⟩ ?_
      rintro i ρ d' L' ⟨hdd, hi, hl', ccs', hL, hrow', hel'⟩
      subst hdd; subst hL
      by_cases hc : i < l.length
      · have hcy : i < ys.length := by omega
        have hch : i < hs.length := by omega
        obtain ⟨lv, kv, hg, cg, hcs, hog, hvs⟩ := (hel' i hcy (Nat.le_refl _)).lst
        have n2 := hog.2.1
        obtain ⟨ga, _, gc, rfl, _⟩ := hog.slice
        obtain ⟨b, T5, l0, c5, e1, rfl, hll5, htk, hset⟩ := orow_openP hrow' hc
        cases e1
        have hib : i * 6 + 6 ≤ l.length * 6 := by omega
        have hck : (l0.drop (i * 6)).take 6 = chunk ccs' i 6 := by
          have e : l0 = ccs' ++ l0.drop (l.length * 6) := by rw [← htk]; exact (List.take_append_drop _ _).symm
          have := chunk_app_left (cs := ccs') (ds := l0.drop (l.length * 6)) (n := l.length) (i := i) (sz := 6) hrow'.1 hc
          rw [← e] at this
          exact this
        rw [hcs] at hck
        have hp1 := patch_one (x := strV [115, 112, 111, 105, 108, 116]) (k := 3) (by omega : i * 6 + 6 ≤ l0.length) hck (by omega)
        have hset1 := hset [.int .i64 ys[i].kind, .int .i64 ys[i].m, .int .i64 ys[i].e, strV [115, 112, 111, 105, 108, 116], .slice ga ys[i].list.length gc, kv] rfl
        have hg4 : (patch l0 (i * 6 + 3) [strV [115, 112, 111, 105, 108, 116]])[i * 6 + 4]? = some (.slice ga ys[i].list.length gc) := by
          rw [hp1]
          rw [get_patch (by simp; omega), if_pos (by simp), show i * 6 + 4 - i * 6 = 4 by omega]; rfl
        have hlp : (patch l0 (i * 6 + 3) [strV [115, 112, 111, 105, 108, 116]]).length = l0.length := patch_len (by simp; omega)
        have hrow2 : ORow 6 (.slice (some ⟨b, 0, none⟩) l.length rc) l.length (patch ccs' (i * 6) [.int .i64 ys[i].kind, .int .i64 ys[i].m, .int .i64 ys[i].e, strV [115, 112, 111, 105, 108, 116], .slice ga ys[i].list.length gc, kv]) (bx b T5 (patch l0 (i * 6 + 3) [strV [115, 112, 111, 105, 108, 116]])) := by rw [hp1]; exact hset1
        have hel2 : ∀ j (hj : j < ys.length), i + 1 ≤ j → OVal (chunk (patch ccs' (i * 6) [.int .i64 ys[i].kind, .int .i64 ys[i].m, .int .i64 ys[i].e, strV [115, 112, 111, 105, 108, 116], .slice ga ys[i].list.length gc, kv]) j 6) ys[j] (hs.getD j emp) := fun j hj hij => by
          rw [chunk_patch hrow'.1 rfl hc, if_neg (by omega)]; exact hel' j hj (by omega)
        generalize patch ccs' (i * 6) [.int .i64 ys[i].kind, .int .i64 ys[i].m, .int .i64 ys[i].e, strV [115, 112, 111, 105, 108, 116], .slice ga ys[i].list.length gc, kv] = ccs2 at hrow2 hel2
        generalize hl1 : patch l0 (i * 6 + 3) [strV [115, 112, 111, 105, 108, 116]] = l1 at hg4 hlp hrow2
        clear hset hset1 hp1 hcs hck htk hel' hel
        (apply w_sq; apply w_reg; apply w_lss; rfl; rfl; apply w_done0; apply w_sq; refine w_ifdT rfl (by omega) ?_; apply w_skip; apply w_sq; apply w_block; apply w_sq; apply w_reg; apply w_mvi; rfl; apply w_mvi; rfl; apply w_done0; apply w_sq; apply w_reg; apply w_mvs; rfl; apply w_mvi; rfl)
        refine w_idxC i rfl rfl rfl hc ?_
        (apply w_fld; rfl)
        refine w_stE 1 l1 rfl rfl rfl rfl (by omega) rfl hl1 ?_
        (apply w_done0; apply w_sq; apply w_reg; apply w_mvs; rfl; apply w_mvi; rfl)
        refine w_idxC i rfl rfl rfl hc ?_
        (apply w_fld; rfl)
        refine w_ld rfl (hc_i 1 rfl hg4) ?_
        refine w_vs d' (bx b3 T3 [.int .i64 0, .int .i64 0, .int .i64 0, strV [], .slice la l.length lc, .slice ka ([] : List (List UInt8)).length kc] :: bx b T5 l1 :: hg :: hs.drop (i + 1)) ?_ ?_
        · rw [getD_drop hch]
          exact Vs.cons (Vs.cons (hvs d' _))
        (apply w_len; rfl; apply w_mvi; rfl; apply w_done0; apply w_block)
        refine w_loopS (α := Nat) (fun k => [(0, .slice pa l.length ca), (3, .pointer (some ⟨b3, 0, none⟩)), (4, .slice (some ⟨b, 0, none⟩) l.length rc), (62, .int .i64 l.length), (63, .int .i64 i), (12, .int .i64 i), (75, .int .i64 ys[i].list.length), (76, .int .i64 k)])
          (fun k d2 L' => d2 = d' ∧ k ≤ ys[i].list.length ∧ ∃ hg cg, L' = bx b3 T3 [.int .i64 0, .int .i64 0, .int .i64 0, strV [], .slice la l.length lc, .slice ka ([] : List (List UInt8)).length kc] :: bx b T5 l1 :: hg :: hs.drop (i + 1) ∧ ORow 6 (.slice ga ys[i].list.length gc) ys[i].list.length cg hg)
          (fun k => ys[i].list.length - k) 0 ⟨rfl, rfl, rfl, rfl, rfl, rfl, rfl, rfl, trivial⟩ ⟨rfl, Nat.zero_le _, hg, cg, rfl, hog⟩ ?_
        rintro k ρ d2 L' ⟨hdd, hk, hg2, cg2, hL, hog2⟩
        subst hdd; subst hL
        by_cases hkc : k < ys[i].list.length
        · obtain ⟨b6, T6, l6, c6', e6, rfl, hll6, _, hset6⟩ := orow_openP hog2 hkc
          cases e6
          have hkb : k * 6 + 6 ≤ ys[i].list.length * 6 := by omega
          (apply w_sq; apply w_reg; apply w_lss; rfl; rfl; apply w_done0; apply w_sq; refine w_ifdT rfl (by omega) ?_; apply w_skip; apply w_sq; apply w_block; apply w_sq; apply w_reg; apply w_mvi; rfl; apply w_mvi; rfl; apply w_done0; apply w_reg; apply w_mvs; rfl; apply w_mvi; rfl)
          refine w_idxC i rfl rfl rfl hc ?_
          (apply w_fld; rfl)
          refine w_ld rfl (hc_i 1 rfl hg4) ?_
          (apply w_mvi; rfl; apply w_bvK; rfl)
          refine w_idxC k rfl rfl rfl hkc ?_
          refine w_stC (cs := [.int .i64 (-1), .int .i64 0, .int .i64 0, strV [], .slice none 0 0, .slice none 0 0]) 2 rfl rfl rfl rfl (by omega) rfl ?_
          (apply w_done0; apply w_reg; apply w_add; rfl; rfl; omega; omega; apply w_mvi; rfl; apply w_done0)
          exact ⟨k + 1, by omega, ⟨rfl, rfl, rfl, rfl, rfl, rfl, rfl, int_eq (by omega), trivial⟩, rfl, hkc, _, _, rfl, hset6 _ rfl⟩
        · obtain rfl : k = ys[i].list.length := by omega
          (apply w_sq; apply w_reg)
          (apply w_lss; rfl; rfl; apply w_done0)
          (apply w_sq; refine w_ifdF rfl (by omega) ?_; apply w_exit; apply w_reg)
          refine w_vs d2 (bx b3 T3 [.int .i64 0, .int .i64 0, .int .i64 0, strV [], .slice la l.length lc, .slice ka ([] : List (List UInt8)).length kc] :: bx b T5 l1 :: hs.drop (i + 1)) (Vs.drop (((List.sublist_cons_self _ _).cons_cons _).cons_cons _)) ?_
          (apply w_add; rfl; rfl; omega; omega; apply w_mvi; rfl; apply w_done0)
          exact ⟨i + 1, by omega, ⟨rfl, rfl, rfl, rfl, int_eq (by omega), trivial⟩, rfl, hc, bx b T5 l1, ccs2, rfl, hrow2, hel2⟩
      · obtain rfl : i = l.length := by omega
        (apply w_sq; apply w_reg; apply w_lss; rfl; rfl; apply w_done0; apply w_sq; refine w_ifdF rfl (by omega) ?_; apply w_exit; apply w_sq; apply w_reg; apply w_fld; rfl; apply w_ld; rfl; exact hc_i 0 rfl rfl; apply w_mvs; rfl)
        refine w_pure rfl c9 ?_
        (apply w_mvb; rfl; apply w_pickTb; rfl; rfl; apply w_mvb; rfl; apply w_gT; rfl)
        refine w_pure rfl (h2 ht4) ?_
        (apply w_pickTb; rfl; rfl; apply w_mvb; rfl; apply w_done0; apply w_ret)
        exact finQ rfl
end Go.Gk.Val
end
