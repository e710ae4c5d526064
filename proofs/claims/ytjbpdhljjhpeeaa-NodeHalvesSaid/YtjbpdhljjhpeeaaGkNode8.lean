/-
  Nodes: the chapter's examples.
-/
import Derived.Test.YtjbpdhljjhpeeaaGkNode7
namespace Go.Gk.Node
open Go Go.Gk
attribute [local irreducible] gwp gws

theorem pageD_len {n : NodeD} (h : (bodyD n n.keys.length).length ≤ 256) : (pageD n).length = 256 := by
  unfold pageD
  rw [List.length_append, List.length_replicate]; omega
theorem pageD_take {n : NodeD} {k : Nat} (h : k ≤ (bodyD n n.keys.length).length) : (pageD n).take k = (bodyD n n.keys.length).take k := by
  unfold pageD
  rw [List.take_append_of_le_length h]
theorem RNode.mono {d d' : PHeap} {cs : List Value} {n : NodeD} (h : RNode d cs n) (hl : Le d d') : RNode d' cs n :=
  let ⟨kv, vv, iv, e, h1, h2, h3⟩ := h
  ⟨kv, vv, iv, e, h1.mono hl, h2.mono hl, h3.mono hl⟩
def WorksOk (P : Program) (f : FuncId) : Prop := ∀ {d : PHeap}, GCall P f [] d [] (Ret fun r d' L' => r = .bool true ∧ L' = [])
attribute [local irreducible] pageD
def g_thimblelaw20_works (f_node_Bytes f_node_Find f_node_Size : Nat) : GFun :=
 ⟨71, [(.tmp 0)],
 (.seq
 (.reg false (.op false ⟨(some 0), none, (.mv (.const (.bool false)))⟩ .done))
 (.seq
 (.reg false (.op false ⟨(some 9), none, (.bsl 1 1 [(.int .u8 0)] [(0, (.const (.int .u8 97)))])⟩
  (.op false ⟨(some 10), none, (.bsl 1 1 [(.slice none 0 0)] [(0, (.tmp 9))])⟩
  (.op false ⟨(some 11), none, (.bsl 2 1 [(.int .u8 0)] [(0, (.const (.int .u8 5))), (1, (.const (.int .u8 6)))])⟩
  (.op false ⟨(some 12), none, (.bsl 1 1 [(.slice none 0 0)] [(0, (.tmp 11))])⟩
  (.op false ⟨(some 13), none, (.bld [(0, 1), (1, 1), (2, 1), (3, 1)] [(.bool false), (.slice none 0 0), (.slice none 0 0), (.slice none 0 0)] [(0, (.const (.bool true))), (1, (.tmp 10)), (2, (.tmp 12))])⟩
  (.op false ⟨(some 1), none, (.alo (.agg #[(.bool false), (.slice none 0 0), (.slice none 0 0), (.slice none 0 0)]))⟩
  (.op false ⟨none, none, (.st 4 (.tmp 1) (.tmp 13))⟩ .done))))))))
 (.seq
 (.reg false (.op false ⟨(some 15), none, (.ld (some 4) (.tmp 1))⟩
  (.op false ⟨(some 16), none, (.call f_node_Bytes [(.tmp 15)])⟩
  (.op false ⟨(some 14), none, (.mv (.tmp 16))⟩
  (.op false ⟨(some 17), none, (.ext (.tmp 14) 0)⟩
  (.op false ⟨(some 18), none, (.ext (.tmp 14) 1)⟩
  (.op false ⟨(some 2), none, (.mv (.tmp 17))⟩
  (.op false ⟨(some 3), none, (.mv (.tmp 18))⟩ .done))))))))
 (.seq
 (.reg false (.op false ⟨(some 19), none, (.bsl 1 1 [(.int .u8 0)] [(0, (.const (.int .u8 98)))])⟩
  (.op false ⟨(some 20), none, (.bsl 1 1 [(.slice none 0 0)] [(0, (.tmp 19))])⟩
  (.op false ⟨(some 21), none, (.bsl 2 1 [(.int .i64 0)] [(0, (.const (.int .i64 3))), (1, (.const (.int .i64 4)))])⟩
  (.op false ⟨(some 22), none, (.bld [(0, 1), (1, 1), (2, 1), (3, 1)] [(.bool false), (.slice none 0 0), (.slice none 0 0), (.slice none 0 0)] [(1, (.tmp 20)), (3, (.tmp 21))])⟩
  (.op false ⟨(some 4), none, (.alo (.agg #[(.bool false), (.slice none 0 0), (.slice none 0 0), (.slice none 0 0)]))⟩
  (.op false ⟨none, none, (.st 4 (.tmp 4) (.tmp 22))⟩ .done)))))))
 (.seq
 (.reg false (.op false ⟨(some 24), none, (.ld (some 4) (.tmp 4))⟩
  (.op false ⟨(some 25), none, (.call f_node_Bytes [(.tmp 24)])⟩
  (.op false ⟨(some 23), none, (.mv (.tmp 25))⟩
  (.op false ⟨(some 26), none, (.ext (.tmp 23) 0)⟩
  (.op false ⟨(some 27), none, (.ext (.tmp 23) 1)⟩
  (.op false ⟨(some 5), none, (.mv (.tmp 26))⟩
  (.op false ⟨(some 6), none, (.mv (.tmp 27))⟩ .done))))))))
 (.seq
 (.reg false (.op false ⟨(some 29), none, (.ld (some 4) (.tmp 4))⟩
  (.op false ⟨(some 30), none, (.bsl 1 1 [(.int .u8 0)] [(0, (.const (.int .u8 98)))])⟩
  (.op false ⟨(some 31), none, (.call f_node_Find [(.tmp 29), (.tmp 30)])⟩
  (.op false ⟨(some 28), none, (.mv (.tmp 31))⟩
  (.op false ⟨(some 32), none, (.ext (.tmp 28) 0)⟩
  (.op false ⟨(some 33), none, (.ext (.tmp 28) 1)⟩
  (.op false ⟨(some 7), none, (.mv (.tmp 32))⟩
  (.op false ⟨(some 8), none, (.mv (.tmp 33))⟩ .done)))))))))
 (.seq
 (.reg false (.op false ⟨(some 34), none, (.mv (.tmp 3))⟩
  (.op false ⟨(some 35), none, (.bin .eql (.tmp 34) (.const (.int .i64 0)))⟩
  (.op false ⟨(some 36), none, (.mv (.tmp 35))⟩
  (.op false ⟨(some 37), (some (36, true)), (.mv (.tmp 2))⟩
  (.op false ⟨(some 38), (some (36, true)), (.len (.tmp 37))⟩
  (.op false ⟨(some 39), (some (36, true)), (.bin .eql (.tmp 38) (.const (.int .i64 256)))⟩
  (.op false ⟨(some 40), none, (.pick (.tmp 36) (.tmp 39) (.const (.bool false)))⟩
  (.op false ⟨(some 41), none, (.mv (.tmp 40))⟩
  (.op false ⟨(some 42), (some (41, true)), (.mv (.tmp 2))⟩
  (.op false ⟨(some 43), (some (41, true)), (.sl 1 (.tmp 42) none (some (.const (.int .i64 8))) none)⟩
  (.op false ⟨(some 44), (some (41, true)), (.b2s (.tmp 43))⟩
  (.op false ⟨(some 45), (some (41, true)), (.bin .eql (.tmp 44) (.const (strV [1, 1, 1, 97, 2, 5, 6, 0])))⟩
  (.op false ⟨(some 46), none, (.pick (.tmp 41) (.tmp 45) (.const (.bool false)))⟩
  (.op false ⟨(some 47), none, (.mv (.tmp 46))⟩
  (.op false ⟨(some 48), (some (47, true)), (.ld (some 4) (.tmp 1))⟩
  (.op false ⟨(some 49), (some (47, true)), (.call f_node_Size [(.tmp 48)])⟩
  (.op false ⟨(some 50), (some (47, true)), (.bin .eql (.tmp 49) (.const (.int .i64 7)))⟩
  (.op false ⟨(some 51), none, (.pick (.tmp 47) (.tmp 50) (.const (.bool false)))⟩
  (.op false ⟨(some 52), none, (.mv (.tmp 51))⟩
  (.op false ⟨(some 53), (some (52, true)), (.mv (.tmp 6))⟩
  (.op false ⟨(some 54), (some (52, true)), (.bin .eql (.tmp 53) (.const (.int .i64 0)))⟩
  (.op false ⟨(some 55), none, (.pick (.tmp 52) (.tmp 54) (.const (.bool false)))⟩
  (.op false ⟨(some 56), none, (.mv (.tmp 55))⟩
  (.op false ⟨(some 57), (some (56, true)), (.mv (.tmp 5))⟩
  (.op false ⟨(some 58), (some (56, true)), (.len (.tmp 57))⟩
  (.op false ⟨(some 59), (some (56, true)), (.bin .eql (.tmp 58) (.const (.int .i64 256)))⟩
  (.op false ⟨(some 60), none, (.pick (.tmp 56) (.tmp 59) (.const (.bool false)))⟩
  (.op false ⟨(some 61), none, (.mv (.tmp 60))⟩
  (.op false ⟨(some 62), (some (61, true)), (.mv (.tmp 5))⟩
  (.op false ⟨(some 63), (some (61, true)), (.sl 1 (.tmp 62) none (some (.const (.int .i64 9))) none)⟩
  (.op false ⟨(some 64), (some (61, true)), (.b2s (.tmp 63))⟩
  (.op false ⟨(some 65), (some (61, true)), (.bin .eql (.tmp 64) (.const (strV [2, 1, 0, 3, 1, 98, 0, 4, 0])))⟩
  (.op false ⟨(some 66), none, (.pick (.tmp 61) (.tmp 65) (.const (.bool false)))⟩
  (.op false ⟨(some 67), none, (.mv (.tmp 66))⟩
  (.op false ⟨(some 68), (some (67, true)), (.mv (.tmp 7))⟩
  (.op false ⟨(some 69), (some (67, true)), (.bin .eql (.tmp 68) (.const (.int .i64 1)))⟩
  (.op false ⟨(some 70), none, (.pick (.tmp 67) (.tmp 69) (.const (.bool false)))⟩
  (.op false ⟨(some 0), none, (.mv (.tmp 70))⟩ .done))))))))))))))))))))))))))))))))))))))) .ret)))))))⟩

theorem works_ok {P : Program} {f f1 f2 f3 : FuncId} (hd : dec P f = some (g_thimblelaw20_works f1 f2 f3)) (h1 : BytesOk P f1) (h2 : FindOk P f2 findD) (h3 : SizeOk P f3) : WorksOk P f := by
  intro d
  refine GCall_of hd (Nat.le_of_ble_eq_true rfl) ?_
  show gwp P _ _ _ _ _
  (apply w_sq; apply w_reg; apply w_mvb; rfl; apply w_done0; apply w_sq; apply w_reg)
  refine w_bsl (cs := [.int .u8 97]) (by omega) rfl (fun b1 T1 => ?_)
  refine w_bsl (cs := [.slice (some ⟨b1, 0, none⟩) 1 1]) (by omega) rfl (fun b2 T2 => ?_)
  refine w_bsl (cs := [.int .u8 5, .int .u8 6]) (by omega) rfl (fun b3 T3 => ?_)
  refine w_bsl (cs := [.slice (some ⟨b3, 0, none⟩) 2 2]) (by omega) rfl (fun b4 T4 => ?_)
  refine w_bld (cs := [.bool true, .slice (some ⟨b2, 0, none⟩) 1 1, .slice (some ⟨b4, 0, none⟩) 1 1, .slice none 0 0]) rfl ?_
  refine w_alo (fun b5 T5 => ?_)
  refine w_st 0 rfl rfl rfl rfl (by decide) rfl ?_
  (apply w_done0; apply w_sq; apply w_reg; apply w_ldb 0; rfl; rfl; rfl)
  refine w_frzAll (fun d1 hl1 hb1 => ?_)
  have e5 : DCs d1 b5 0 [.bool true, .slice (some ⟨b2, 0, none⟩) 1 1, .slice (some ⟨b4, 0, none⟩) 1 1, .slice none 0 0] := dcs_bx (hb1 _ (List.mem_of_getElem? (i := 0) rfl))
  have r1 : RBytes d1 (.slice (some ⟨b1, 0, none⟩) 1 1) [97] := lit_bytes (hb1 (bx b1 T1 [.int .u8 97]) (List.mem_of_getElem? (i := 4) rfl)) rfl rfl (by decide)
  have r2 : RBytes d1 (.slice (some ⟨b3, 0, none⟩) 2 2) [5, 6] := lit_bytes (hb1 (bx b3 T3 [.int .u8 5, .int .u8 6]) (List.mem_of_getElem? (i := 2) rfl)) rfl rfl (by decide)
  have n1 : RNode d1 [.bool true, .slice (some ⟨b2, 0, none⟩) 1 1, .slice (some ⟨b4, 0, none⟩) 1 1, .slice none 0 0] ⟨true, [[97]], [[5, 6]], []⟩ :=
    ⟨_, _, _, rfl, lit_one (hb1 _ (List.mem_of_getElem? (i := 3) rfl)) r1, lit_one (hb1 _ (List.mem_of_getElem? (i := 1) rfl)) r2, RSl.nil⟩
  clear hb1
  refine w_call0 (vs := [.agg [.bool true, .slice (some ⟨b2, 0, none⟩) 1 1, .slice (some ⟨b4, 0, none⟩) 1 1, .slice none 0 0].toArray]) rfl (h1 n1 (by decide)) (fun r d2 L2 hl2 ⟨hdd, hr⟩ => ?_)
  rcases hr with ⟨_, v1, g1, hv, hL, hrow1⟩ | ⟨hr, _⟩
  case inr => exact absurd hr (by decide)
  subst hdd; subst hv; subst hL
  (apply w_mvu; rfl; apply w_ext; rfl; rfl; apply w_ext; rfl; rfl; apply w_mv; apply w_mvi; rfl; apply w_done0; apply w_sq; apply w_reg)
  refine w_bsl (cs := [.int .u8 98]) (by omega) rfl (fun b6 T6 => ?_)
  refine w_bsl (cs := [.slice (some ⟨b6, 0, none⟩) 1 1]) (by omega) rfl (fun b7 T7 => ?_)
  refine w_bsl (cs := [.int .i64 3, .int .i64 4]) (by omega) rfl (fun b8 T8 => ?_)
  refine w_bld (cs := [.bool false, .slice (some ⟨b7, 0, none⟩) 1 1, .slice none 0 0, .slice (some ⟨b8, 0, none⟩) 2 2]) rfl ?_
  refine w_alo (fun b9 T9 => ?_)
  refine w_st 0 rfl rfl rfl rfl (by decide) rfl ?_
  (apply w_done0; apply w_sq; apply w_reg; apply w_ldb 0; rfl; rfl; rfl)
  refine w_frzAll (fun d3 hl3 hb3 => ?_)
  have e9 : DCs d3 b9 0 [.bool false, .slice (some ⟨b7, 0, none⟩) 1 1, .slice none 0 0, .slice (some ⟨b8, 0, none⟩) 2 2] := dcs_bx (hb3 _ (List.mem_of_getElem? (i := 0) rfl))
  have r3 : RBytes d3 (.slice (some ⟨b6, 0, none⟩) 1 1) [98] := lit_bytes (hb3 (bx b6 T6 [.int .u8 98]) (List.mem_of_getElem? (i := 3) rfl)) rfl rfl (by decide)
  have r4 : RInts d3 (.slice (some ⟨b8, 0, none⟩) 2 2) [3, 4] :=
    (ORow.lit (sz := 1) (l := [.int .i64 3, .int .i64 4]) (T := T8) (b := b8) rfl (by decide)).rsl1 (hb3 _ (List.mem_of_getElem? (i := 1) rfl)) rfl (fun i hi => by
      have : i = 0 ∨ i = 1 := by simp at hi; omega
      rcases this with rfl | rfl
      · exact ⟨_, rfl, rfl, by simp, by simp⟩
      · exact ⟨_, rfl, rfl, by simp, by simp⟩)
  have n2 : RNode d3 [.bool false, .slice (some ⟨b7, 0, none⟩) 1 1, .slice none 0 0, .slice (some ⟨b8, 0, none⟩) 2 2] ⟨false, [[98]], [], [3, 4]⟩ :=
    ⟨_, _, _, rfl, lit_one (hb3 _ (List.mem_of_getElem? (i := 2) rfl)) r3, RSl.nil, r4⟩
  have p1 : RBytes d3 v1 (pageD ⟨true, [[97]], [[5, 6]], []⟩) := hrow1.bytes (hb3 g1 (List.mem_of_getElem? (i := 4) rfl)) (by decide)
  clear hb3
  refine w_call0 (vs := [.agg [.bool false, .slice (some ⟨b7, 0, none⟩) 1 1, .slice none 0 0, .slice (some ⟨b8, 0, none⟩) 2 2].toArray]) rfl (h1 n2 (by decide)) (fun r d4 L4 hl4 ⟨hdd, hr⟩ => ?_)
  rcases hr with ⟨_, v2, g2, hv, hL, hrow2⟩ | ⟨hr, _⟩
  case inr => exact absurd hr (by decide)
  subst hdd; subst hv; subst hL
  (apply w_mvu; rfl; apply w_ext; rfl; rfl; apply w_ext; rfl; rfl; apply w_mv; apply w_mvi; rfl; apply w_done0; apply w_sq; apply w_reg; apply w_ldd; rfl; assumption; rfl)
  refine w_bsl (cs := [.int .u8 98]) (by omega) rfl (fun b10 T10 => ?_)
  refine w_frzAll (fun d5 hl5 hb5 => ?_)
  have r5 : RBytes d5 (.slice (some ⟨b10, 0, none⟩) 1 1) [98] := lit_bytes (hb5 (bx b10 T10 [.int .u8 98]) (List.mem_of_getElem? (i := 0) rfl)) rfl rfl (by decide)
  have p2 : RBytes d5 v2 (pageD ⟨false, [[98]], [], [3, 4]⟩) := hrow2.bytes (hb5 g2 (List.mem_of_getElem? (i := 1) rfl)) (by decide)
  clear hb5
  refine w_pure rfl (h2 (n2.mono hl5) r5) ?_
  have p1' : RBytes d5 v1 (pageD ⟨true, [[97]], [[5, 6]], []⟩) := p1.mono hl5
  have l1 : (pageD ⟨true, [[97]], [[5, 6]], []⟩).length = 256 := pageD_len (by decide)
  have l2 : (pageD ⟨false, [[98]], [], [3, 4]⟩).length = 256 := pageD_len (by decide)
  have e5' : DCs d5 b5 0 [.bool true, .slice (some ⟨b2, 0, none⟩) 1 1, .slice (some ⟨b4, 0, none⟩) 1 1, .slice none 0 0] := (e5.mono hl3).mono hl5
  have n1' : RNode d5 [.bool true, .slice (some ⟨b2, 0, none⟩) 1 1, .slice (some ⟨b4, 0, none⟩) 1 1, .slice none 0 0] ⟨true, [[97]], [[5, 6]], []⟩ := (n1.mono hl3).mono hl5
  (apply w_mvu; rfl; apply w_ext; rfl; rfl; apply w_ext; rfl; rfl; apply w_mvi; rfl; apply w_mvb; rfl; apply w_done0; apply w_sq; apply w_reg; apply w_mvi; rfl; apply w_eql; rfl; rfl; apply w_mvb; rfl; apply w_gT; rfl; apply w_mv; apply w_gT; rfl; apply w_lenR; rfl; assumption; apply w_gT; rfl; apply w_eql; rfl; rfl; apply w_pickTb; rfl; rfl; apply w_mvb; rfl; refine w_gdT rfl (by omega) ?_; apply w_gT; rfl; apply w_mv; apply w_gT; rfl)
  refine w_slR (n := 8) rfl p1' rfl (by omega) (fun w1 hw1 => ?_)
  rw [show (pageD ⟨true, [[97]], [[5, 6]], []⟩).take 8 = [1, 1, 1, 97, 2, 5, 6, 0] by unfold pageD; rfl] at hw1
  (apply w_gT; rfl; apply w_b2sR; rfl; assumption; apply w_gT; rfl; apply w_seq; rfl; rfl; apply w_pickTb; rfl; rfl; apply w_mvb; rfl; apply w_gT; rfl; apply w_ldd; rfl; assumption; rfl; apply w_gT; rfl)
  refine w_pure rfl (h3 n1' (by decide)) ?_
  (apply w_gT; rfl; apply w_eql; rfl; rfl; apply w_pickTb; rfl; rfl; apply w_mvb; rfl; apply w_gT; rfl; apply w_mvi; rfl; apply w_gT; rfl; apply w_eql; rfl; rfl; apply w_pickTb; rfl; rfl; apply w_mvb; rfl; apply w_gT; rfl; apply w_mv; apply w_gT; rfl; apply w_lenR; rfl; assumption; apply w_gT; rfl; apply w_eql; rfl; rfl; apply w_pickTb; rfl; rfl; apply w_mvb; rfl; refine w_gdT rfl (by omega) ?_; apply w_gT; rfl; apply w_mv; apply w_gT; rfl)
  refine w_slR (n := 9) rfl p2 rfl (by omega) (fun w2 hw2 => ?_)
  rw [show (pageD ⟨false, [[98]], [], [3, 4]⟩).take 9 = [2, 1, 0, 3, 1, 98, 0, 4, 0] by unfold pageD; rfl] at hw2
  (apply w_gT; rfl; apply w_b2sR; rfl; assumption; apply w_gT; rfl; apply w_seq; rfl; rfl; apply w_pickTb; rfl; rfl; apply w_mvb; rfl; apply w_gT; rfl; apply w_mvi; rfl; apply w_gT; rfl; apply w_eql; rfl; rfl; apply w_pickTb; rfl; rfl; apply w_mvb; rfl; apply w_done0; apply w_ret)
  exact fin1n rfl ⟨rfl, rfl⟩
end Go.Gk.Node
