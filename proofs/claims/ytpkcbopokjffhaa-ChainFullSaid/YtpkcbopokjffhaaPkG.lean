/-
  Our own texts, one behind the other: GkH9 GkC6 GkC7 GkHA.
-/
import Derived.Test.YtpkcbopokjffhaaPkF
section
namespace Go.Gk.Chn
open Go Go.Gk Go.Gk.Dev Go.Gk.Cch Go.Gk.Pgr Go.Gk.Node
attribute [local irreducible] gwp gws xwp

theorem readL_tc {s : PD} {tc size n : Nat} : ∀ {m : Nat} {k : Int} {l : List Int} {out : List UInt8}, readL { s with tc := tc } size n k l out m = readL s size n k l out m
  | 0, _, _, _ => rfl
  | m + 1, k, l, out => by
    rw [readL, readL]
    have hl : liveK { s with tc := tc } k = liveK s k := rfl
    have hb : PD.bytes { s with tc := tc } k = s.bytes k := rfl
    simp only [hl, hb]
    rw [readL_tc]
theorem readF_tc {s : PD} {tc : Nat} {k size : Int} : readF { s with tc := tc } k size = readF s k size := by
  unfold readF; rw [readL_tc]
theorem good_pdN {n : Nat} (h1 : 1 ≤ n) (h2 : n ≤ 8000) : Pgr.Good (pdN n) := Good.new h1 (by rw [List.length_replicate]; omega) (by rw [List.length_replicate]; omega)
theorem free_pdN (n : Nat) : (pdN n).free = n := by
  show (List.replicate n (0 : Int)).countP (· == 0) = n
  rw [List.countP_replicate]; simp
theorem readF_short {s : PD} {b : List UInt8} {l : List Int} (h : Chain s b l) (hl : 2 ≤ l.length) {n : Nat} (hn : n ≤ 254) : readF s (l.getD 0 0) n = ([], [], 200) := by
  unfold readF
  have hp : pagesN n = 1 := by unfold pagesN; omega
  rw [if_pos (by omega), Int.toNat_natCast, hp, getD_at (by omega), readL, if_pos (h.live 0 (by omega)), h.pg 0 (by omega), getD_at (show 0 + 1 < l.length by omega)]
  have hr := h.rng _ (List.getElem_mem (show 0 + 1 < l.length by omega))
  have hlk := link_page (x := l[0 + 1]) (c := chunkF b 0) hr.1 (by omega)
  rw [if_neg]
  intro q
  have : linkF (pageF l[0 + 1] (chunkF b 0)) = 65535 := by rw [q]; rfl
  omega
def CWks (P : Program) (f : FuncId) : Prop := ∀ {d : PHeap}, GCall P f [] d [] (Ret fun r d' L' => r = .bool true ∧ L' = [])
def g_thimblelaw21_works (f_thimblelaw21_Made f_chain_Put f_chain_Get f_pager_Pager_Free f_chain_Pages : Nat) : GFun :=
 ⟨69, [(.tmp 0)],
 (.seq
 (.reg false (.op false ⟨(some 0), none, (.mv (.const (.bool false)))⟩ .done))
 (.seq
 (.reg false (.op false ⟨(some 8), none, (.call f_thimblelaw21_Made [(.const (.int .i64 5))])⟩
  (.op false ⟨(some 1), none, (.mv (.tmp 8))⟩ .done)))
 (.seq (.seq
 (.reg false (.op false ⟨(some 9), none, (.mv (.tmp 1))⟩
  (.op false ⟨(some 10), none, (.eqp false (.tmp 9) (.const (.pointer none)))⟩ .done))) (.cond (.tmp 10)
 (.seq
 (.reg false (.op false ⟨(some 0), none, (.mv (.const (.bool false)))⟩ .done)) .ret) .skip))
 (.seq
 (.reg true (.op true ⟨(some 12), none, (.mv (.tmp 1))⟩
  (.op true ⟨(some 13), none, (.nilc (.tmp 12))⟩
  (.op true ⟨(some 14), none, (.fld 0 (.tmp 13))⟩
  (.op true ⟨(some 15), none, (.ld none (.tmp 14))⟩
  (.op false ⟨(some 16), none, (.mks 1 1 [(.int .u8 0)] (.const (.int .i64 300)) (.const (.int .i64 300)))⟩
  (.op false ⟨(some 17), none, (.call f_chain_Put [(.tmp 15), (.tmp 16)])⟩
  (.op true ⟨(some 11), none, (.mv (.tmp 17))⟩
  (.op true ⟨(some 18), none, (.ext (.tmp 11) 0)⟩
  (.op true ⟨(some 19), none, (.ext (.tmp 11) 1)⟩
  (.op true ⟨(some 2), none, (.mv (.tmp 18))⟩
  (.op true ⟨(some 3), none, (.mv (.tmp 19))⟩ .done))))))))))))
 (.seq
 (.reg false (.op false ⟨(some 21), none, (.mv (.tmp 1))⟩
  (.op false ⟨(some 22), none, (.nilc (.tmp 21))⟩
  (.op false ⟨(some 23), none, (.fld 0 (.tmp 22))⟩
  (.op false ⟨(some 24), none, (.ld none (.tmp 23))⟩
  (.op false ⟨(some 25), none, (.mv (.tmp 2))⟩
  (.op false ⟨(some 26), none, (.call f_chain_Get [(.tmp 24), (.tmp 25), (.const (.int .i64 300))])⟩
  (.op false ⟨(some 20), none, (.mv (.tmp 26))⟩
  (.op false ⟨(some 27), none, (.ext (.tmp 20) 0)⟩
  (.op false ⟨(some 28), none, (.ext (.tmp 20) 1)⟩
  (.op false ⟨(some 4), none, (.mv (.tmp 27))⟩
  (.op false ⟨(some 5), none, (.mv (.tmp 28))⟩ .done))))))))))))
 (.seq
 (.reg false (.op false ⟨(some 30), none, (.mv (.tmp 1))⟩
  (.op false ⟨(some 31), none, (.nilc (.tmp 30))⟩
  (.op false ⟨(some 32), none, (.fld 0 (.tmp 31))⟩
  (.op false ⟨(some 33), none, (.ld none (.tmp 32))⟩
  (.op false ⟨(some 34), none, (.mv (.tmp 2))⟩
  (.op false ⟨(some 35), none, (.call f_chain_Get [(.tmp 33), (.tmp 34), (.const (.int .i64 200))])⟩
  (.op false ⟨(some 29), none, (.mv (.tmp 35))⟩
  (.op false ⟨(some 36), none, (.ext (.tmp 29) 0)⟩
  (.op false ⟨(some 37), none, (.ext (.tmp 29) 1)⟩
  (.op false ⟨(some 6), none, (.mv (.tmp 36))⟩
  (.op false ⟨(some 7), none, (.mv (.tmp 37))⟩ .done))))))))))))
 (.seq
 (.reg false (.op false ⟨(some 38), none, (.mv (.tmp 3))⟩
  (.op false ⟨(some 39), none, (.bin .eql (.tmp 38) (.const (.int .i64 0)))⟩
  (.op false ⟨(some 40), none, (.mv (.tmp 39))⟩
  (.op false ⟨(some 41), (some (40, true)), (.mv (.tmp 2))⟩
  (.op false ⟨(some 42), (some (40, true)), (.bin .eql (.tmp 41) (.const (.int .i64 2)))⟩
  (.op false ⟨(some 43), none, (.pick (.tmp 40) (.tmp 42) (.const (.bool false)))⟩
  (.op false ⟨(some 44), none, (.mv (.tmp 43))⟩
  (.op false ⟨(some 45), (some (44, true)), (.mv (.tmp 1))⟩
  (.op false ⟨(some 46), (some (44, true)), (.nilc (.tmp 45))⟩
  (.op false ⟨(some 47), (some (44, true)), (.fld 0 (.tmp 46))⟩
  (.op false ⟨(some 48), (some (44, true)), (.ld none (.tmp 47))⟩
  (.op false ⟨(some 49), (some (44, true)), (.call f_pager_Pager_Free [(.tmp 48)])⟩
  (.op false ⟨(some 50), (some (44, true)), (.bin .eql (.tmp 49) (.const (.int .i64 3)))⟩
  (.op false ⟨(some 51), none, (.pick (.tmp 44) (.tmp 50) (.const (.bool false)))⟩
  (.op false ⟨(some 52), none, (.mv (.tmp 51))⟩
  (.op false ⟨(some 53), (some (52, true)), (.mv (.tmp 5))⟩
  (.op false ⟨(some 54), (some (52, true)), (.bin .eql (.tmp 53) (.const (.int .i64 0)))⟩
  (.op false ⟨(some 55), none, (.pick (.tmp 52) (.tmp 54) (.const (.bool false)))⟩
  (.op false ⟨(some 56), none, (.mv (.tmp 55))⟩
  (.op false ⟨(some 57), (some (56, true)), (.mv (.tmp 4))⟩
  (.op false ⟨(some 58), (some (56, true)), (.len (.tmp 57))⟩
  (.op false ⟨(some 59), (some (56, true)), (.bin .eql (.tmp 58) (.const (.int .i64 300)))⟩
  (.op false ⟨(some 60), none, (.pick (.tmp 56) (.tmp 59) (.const (.bool false)))⟩
  (.op false ⟨(some 61), none, (.mv (.tmp 60))⟩
  (.op false ⟨(some 62), (some (61, true)), (.mv (.tmp 7))⟩
  (.op false ⟨(some 63), (some (61, true)), (.bin .eql (.tmp 62) (.const (.int .i64 200)))⟩
  (.op false ⟨(some 64), none, (.pick (.tmp 61) (.tmp 63) (.const (.bool false)))⟩
  (.op false ⟨(some 65), none, (.mv (.tmp 64))⟩
  (.op false ⟨(some 66), (some (65, true)), (.call f_chain_Pages [(.const (.int .i64 255))])⟩
  (.op false ⟨(some 67), (some (65, true)), (.bin .eql (.tmp 66) (.const (.int .i64 2)))⟩
  (.op false ⟨(some 68), none, (.pick (.tmp 65) (.tmp 67) (.const (.bool false)))⟩
  (.op false ⟨(some 0), none, (.mv (.tmp 68))⟩ .done))))))))))))))))))))))))))))))))) .ret)))))))⟩

set_option maxRecDepth 4000 in
set_option maxHeartbeats 1000000 in
theorem works21_ok {P : Program} {f f1 f2 f3 f4 f5 : FuncId} (hd : dec P f = some (g_thimblelaw21_works f1 f2 f3 f4 f5)) (h1 : Made21Ok P f1) (h2 : CPutOk P f2) (h3 : CGetsOk P f3) (h4 : FreeOk P f4) (h5 : PagesOk P f5) : CWks P f := by
  intro d
  obtain ⟨t, l, e, hC, hK, hF, hL, hO⟩ := cput_room (s := pdN 5) (good_pdN (by omega) (by omega)) (b := List.replicate 300 0) (by rw [free_pdN, List.length_replicate]; decide)
  rw [List.length_replicate] at hL
  have hl2 : l.length = 2 := hL
  have e2 : (cputF (pdN 5) (List.replicate 300 0)).2 = (2, 0) := rfl
  rw [e] at e2
  have hg0 : l.getD 0 0 = 2 := congrArg Prod.fst e2
  rw [hg0] at e
  have r1 := readF_chain hC (by rw [List.length_replicate]; decide)
  rw [hg0, List.length_replicate] at r1
  have r2 := readF_short hC (by omega) (n := 200) (by omega)
  rw [hg0] at r2
  rw [hl2, free_pdN] at hF
  have ht3 : t.free = 3 := by omega
  refine GCall_of hd (Nat.le_of_ble_eq_true rfl) ?_
  show gwp P _ _ _ _ _
  (apply w_sq; apply w_reg; apply w_mvb; rfl; apply w_done0; apply w_sq; apply w_reg)
  refine w_callO (L := []) (h1 (n := 5) (by omega) (by omega)) rfl (fun u d1 L1 hl1 ⟨b, bd, bp, q1, q2, hp⟩ => ?_)
  subst q1
  (apply w_mvp; rfl; apply w_done0; apply w_sq; apply w_sq; apply w_reg; apply w_mvp; rfl; apply w_eqpS; rfl; rfl; apply w_done0; apply w_ifF; rfl; apply w_skip; apply w_sq)
  refine w_drawnA [] L1 rfl ?_
  (apply w_mvp; rfl; apply w_nilc; rfl; apply w_fld; rfl; apply w_ld; rfl; exact hc_d (by assumption))
  refine w_mksF (n := 300) (c := 300) rfl rfl (Nat.le_refl _) (by omega) (by omega) (fun b16 T16 => ?_)
  have hlj : Le d1 (join d1 (bx b16 T16 (zrow [.int .u8 0] (300 * 1)))) := Le.join_left _ _
  have hg : GRow 1 RByte d1 (.slice (some ⟨b16, 0, none⟩) 300 300) (List.replicate 300 0) (bx b16 T16 (zrow [.int .u8 0] (300 * 1))) := GRow.zero rfl (by omega) rfl (by omega)
  have hB : RBytes (join d1 (bx b16 T16 (zrow [.int .u8 0] (300 * 1)))) (.slice (some ⟨b16, 0, none⟩) 300 300) (List.replicate 300 0) := GRow.rsl (R := RByte) (sz := 1) hg mono_byte (by omega) (Le.join_left _ _) (Le.join_right _ _)
  refine w_callO (h2 (hp.mono hlj) hB (by rw [List.length_replicate]; decide)) rfl (fun u d2 L2 hl2' ⟨_, q3, hp2⟩ => ?_)
  rw [e] at q3 hp2
  subst q3
  have hb2 := (q2.mono hlj).mono hl2'
  have hfr : GRead P f4 [.pointer (some ⟨bp, 0, none⟩)] d2 L2 (.int .i64 3) := by have q := h4 hp2; rw [show (t, (2 : Int), (0 : Int)).1.free = 3 from ht3] at q; exact q
  (apply w_mvu; rfl; apply w_ext; rfl; rfl; apply w_ext; rfl; rfl; apply w_mvi; rfl; apply w_mvi; rfl; apply w_done0; apply w_sq; apply w_reg; apply w_mvp; rfl; apply w_nilc; rfl; apply w_fld; rfl; apply w_ld; rfl; exact hc_d (by assumption); apply w_mvi; rfl)
  refine w_callO (h3 (k := 2) (size := 300) hp2) rfl (fun u d3 L3 hl3 ⟨_, w, tc, q4, hw, hp3⟩ => ?_)
  rw [show readF (t, (2 : Int), (0 : Int)).1 2 300 = (l, List.replicate 300 0, 0) from r1] at q4 hw
  subst q4
  obtain ⟨wa, wc, rfl⟩ := RSl.val hw
  rw [List.length_replicate] at hw ⊢
  have hb3 := hb2.mono hl3
  (apply w_mvu; rfl; apply w_ext; rfl; rfl; apply w_ext; rfl; rfl; apply w_mvs; rfl; apply w_mvi; rfl; apply w_done0; apply w_sq; apply w_reg; apply w_mvp; rfl; apply w_nilc; rfl; apply w_fld; rfl; apply w_ld; rfl; exact hc_d (by assumption); apply w_mvi; rfl)
  refine w_callO (h3 (k := 2) (size := 200) hp3) rfl (fun u d4 L4 hl4 ⟨_, w4, tc4, q5, hw4, hp4⟩ => ?_)
  rw [readF_tc, show readF (t, (2 : Int), (0 : Int)).1 2 200 = ([], [], 200) from r2] at q5 hw4
  subst q5
  have hb4 := hb3.mono hl4
  have hfr4 : GRead P f4 [.pointer (some ⟨bp, 0, none⟩)] d4 L4 (.int .i64 3) := by
    have q0 := h4 hp4
    have q : GRead P f4 [.pointer (some ⟨bp, 0, none⟩)] d4 L4 (.int .i64 (t.free : Nat)) := q0
    rw [ht3] at q; exact q
  (apply w_mvu; rfl; apply w_ext; rfl; rfl; apply w_ext; rfl; rfl; apply w_mv; apply w_mvi; rfl; apply w_done0; apply w_sq; apply w_reg; apply w_mvi; rfl; apply w_eql; rfl; rfl; apply w_mvb; rfl; refine w_gdT rfl (by with_reducible rfl) ?_; apply w_gT; rfl; apply w_mvi; rfl; apply w_gT; rfl; apply w_eql; rfl; rfl; apply w_pickTb; rfl; rfl; apply w_mvb; rfl; refine w_gdT rfl (by with_reducible rfl) ?_; apply w_gT; rfl; apply w_mvp; rfl; apply w_gT; rfl; apply w_nilc; rfl; apply w_gT; rfl; apply w_fld; rfl; apply w_gT; rfl; apply w_ld; rfl; exact hc_d (by assumption); apply w_gT; rfl)
  refine w_read (A := L4) (B := []) (List.append_nil _).symm rfl hfr4 ?_
  (apply w_gT; rfl; apply w_eql; rfl; rfl; apply w_pickTb; rfl; rfl; apply w_mvb; rfl; refine w_gdT rfl (by omega) ?_; apply w_gT; rfl; apply w_mvi; rfl; apply w_gT; rfl; apply w_eql; rfl; rfl; apply w_pickTb; rfl; rfl; apply w_mvb; rfl; refine w_gdT rfl (by with_reducible rfl) ?_; apply w_gT; rfl; apply w_mvs; rfl; apply w_gT; rfl; apply w_len; rfl; apply w_gT; rfl; apply w_eql; rfl; rfl; apply w_pickTb; rfl; rfl; apply w_mvb; rfl; refine w_gdT rfl (by omega) ?_; apply w_gT; rfl; apply w_mvi; rfl; apply w_gT; rfl; apply w_eql; rfl; rfl; apply w_pickTb; rfl; rfl; apply w_mvb; rfl; refine w_gdT rfl (by with_reducible rfl) ?_; apply w_gT; rfl)
  refine w_call0 rfl (h5 (n := 255) (by omega)) (fun u d5 L5 _ ⟨z1, z2, z3⟩ => ?_)
  subst z1; subst z2; subst z3
  rw [show (pagesN 255 : Int) = 2 from rfl]
  (apply w_gT; rfl; apply w_eql; rfl; rfl; apply w_pickTb; rfl; rfl; apply w_mvb; rfl; apply w_done0; apply w_ret)
  exact fin1 rfl (List.nil_sublist _) ⟨rfl, rfl⟩
end Go.Gk.Chn
end

section
namespace Go.Gk.Cch
open Go Go.Gk Go.Gk.Dev
attribute [local irreducible] gwp gws xwp

def fK (k p : Nat) (l : Bool) : Fr := ⟨true, k, p, l, curK k⟩
theorem ex1 : getF (curK 5) (newC 2) 5 = (⟨[fK 5 1 true, fz], [1], 0, 0, 1⟩, some (curK 5)) := rfl
theorem ex2 : getF (curK 6) ⟨[fK 5 1 true, fz], [1], 0, 0, 1⟩ 6 = (⟨[fK 5 1 true, fK 6 1 true], [], 0, 0, 2⟩, some (curK 6)) := rfl
theorem ex3 : getF (curK 7) ⟨[fK 5 1 true, fK 6 1 true], [], 0, 0, 2⟩ 7 = (⟨[fK 5 1 true, fK 6 1 true], [], 0, 0, 2⟩, none) := rfl
theorem ex4 : leaveF ⟨[fK 5 1 true, fK 6 1 true], [], 0, 0, 2⟩ 5 = (⟨[fK 5 0 true, fK 6 1 true], [], 0, 0, 2⟩, 0) := rfl
theorem ex5 : leaveF ⟨[fK 5 0 true, fK 6 1 true], [], 0, 0, 2⟩ 6 = (⟨[fK 5 0 true, fK 6 0 true], [], 0, 0, 2⟩, 0) := rfl
theorem ex6 : getF (curK 7) ⟨[fK 5 0 true, fK 6 0 true], [], 0, 0, 2⟩ 7 = (⟨[fK 7 1 true, fK 6 0 false], [], 1, 0, 3⟩, some (curK 7)) := rfl
theorem pb2 {f g : Fr} {l : List Nat} {h a b : Nat} (hf : f.pins ≤ 1) (hg : g.pins ≤ 1) : PinB ⟨[f, g], l, h, a, b⟩ 4611686018427387904 := by
  intro x hx
  rcases List.mem_cons.1 hx with rfl | hx
  · omega
  · rw [List.mem_singleton.1 hx]; omega
theorem curK_len (k : Nat) : (curK k).length = 256 := List.length_replicate
def CWorksOk (P : Program) (f : FuncId) : Prop := ∀ {d : PHeap}, GCall P f [] d [] (Ret fun r d' L' => r = .bool true ∧ L' = [])
def g_thimblelaw18_works (f_thimblelaw18_over f_cache_Cache_Get f_cache_Cache_Leave f_cache_Cache_Held f_thimbleref17_Ints f_cache_Cache_Misses : Nat) : GFun :=
 ⟨77, [(.tmp 0)],
 (.seq
 (.reg false (.op false ⟨(some 0), none, (.mv (.const (.bool false)))⟩ .done))
 (.seq
 (.reg false (.op false ⟨(some 10), none, (.call f_thimblelaw18_over [(.const (.int .i64 2))])⟩
  (.op false ⟨(some 1), none, (.mv (.tmp 10))⟩ .done)))
 (.seq (.seq
 (.reg false (.op false ⟨(some 11), none, (.mv (.tmp 1))⟩
  (.op false ⟨(some 12), none, (.eqp false (.tmp 11) (.const (.pointer none)))⟩ .done))) (.cond (.tmp 12)
 (.seq
 (.reg false (.op false ⟨(some 0), none, (.mv (.const (.bool false)))⟩ .done)) .ret) .skip))
 (.seq
 (.reg false (.op false ⟨(some 14), none, (.mv (.tmp 1))⟩
  (.op false ⟨(some 15), none, (.call f_cache_Cache_Get [(.tmp 14), (.const (.int .i64 5))])⟩
  (.op false ⟨(some 13), none, (.mv (.tmp 15))⟩
  (.op false ⟨(some 16), none, (.ext (.tmp 13) 0)⟩
  (.op false ⟨(some 17), none, (.ext (.tmp 13) 1)⟩
  (.op false ⟨(some 2), none, (.mv (.tmp 16))⟩
  (.op false ⟨(some 3), none, (.mv (.tmp 17))⟩ .done))))))))
 (.seq
 (.reg false (.op false ⟨(some 19), none, (.mv (.tmp 1))⟩
  (.op false ⟨(some 20), none, (.call f_cache_Cache_Get [(.tmp 19), (.const (.int .i64 6))])⟩
  (.op false ⟨(some 18), none, (.mv (.tmp 20))⟩
  (.op false ⟨(some 21), none, (.ext (.tmp 18) 0)⟩
  (.op false ⟨(some 22), none, (.ext (.tmp 18) 1)⟩
  (.op false ⟨(some 4), none, (.mv (.tmp 21))⟩
  (.op false ⟨(some 5), none, (.mv (.tmp 22))⟩ .done))))))))
 (.seq
 (.reg false (.op false ⟨(some 24), none, (.mv (.tmp 1))⟩
  (.op false ⟨(some 25), none, (.call f_cache_Cache_Get [(.tmp 24), (.const (.int .i64 7))])⟩
  (.op false ⟨(some 23), none, (.mv (.tmp 25))⟩
  (.op false ⟨(some 26), none, (.ext (.tmp 23) 0)⟩
  (.op false ⟨(some 27), none, (.ext (.tmp 23) 1)⟩
  (.op false ⟨(some 6), none, (.mv (.tmp 26))⟩
  (.op false ⟨(some 7), none, (.mv (.tmp 27))⟩ .done))))))))
 (.seq (.seq
 (.reg false (.op false ⟨(some 28), none, (.mv (.tmp 3))⟩
  (.op false ⟨(some 29), none, (.bin .neq (.tmp 28) (.const (.int .i64 0)))⟩
  (.op false ⟨(some 30), none, (.mv (.tmp 29))⟩
  (.op false ⟨(some 31), (some (30, false)), (.mv (.tmp 5))⟩
  (.op false ⟨(some 32), (some (30, false)), (.bin .neq (.tmp 31) (.const (.int .i64 0)))⟩
  (.op false ⟨(some 33), none, (.pick (.tmp 30) (.const (.bool true)) (.tmp 32))⟩
  (.op false ⟨(some 34), none, (.mv (.tmp 33))⟩
  (.op false ⟨(some 35), (some (34, false)), (.mv (.tmp 7))⟩
  (.op false ⟨(some 36), (some (34, false)), (.bin .neq (.tmp 35) (.const (.int .i64 180)))⟩
  (.op false ⟨(some 37), none, (.pick (.tmp 34) (.const (.bool true)) (.tmp 36))⟩
  (.op false ⟨(some 38), none, (.mv (.tmp 37))⟩
  (.op false ⟨(some 39), (some (38, false)), (.mv (.tmp 2))⟩
  (.op false ⟨(some 40), (some (38, false)), (.len (.tmp 39))⟩
  (.op false ⟨(some 41), (some (38, false)), (.bin .neq (.tmp 40) (.const (.int .i64 256)))⟩
  (.op false ⟨(some 42), none, (.pick (.tmp 38) (.const (.bool true)) (.tmp 41))⟩
  (.op false ⟨(some 43), none, (.mv (.tmp 42))⟩
  (.op false ⟨(some 44), (some (43, false)), (.mv (.tmp 2))⟩
  (.op false ⟨(some 45), (some (43, false)), (.idx 1 (.tmp 44) (.const (.int .i64 0)))⟩
  (.op false ⟨(some 46), (some (43, false)), (.ld none (.tmp 45))⟩
  (.op false ⟨(some 47), (some (43, false)), (.bin .neq (.tmp 46) (.const (.int .u8 5)))⟩
  (.op false ⟨(some 48), none, (.pick (.tmp 43) (.const (.bool true)) (.tmp 47))⟩
  (.op false ⟨(some 49), none, (.mv (.tmp 48))⟩
  (.op false ⟨(some 50), (some (49, false)), (.mv (.tmp 1))⟩
  (.op false ⟨(some 51), (some (49, false)), (.call f_cache_Cache_Leave [(.tmp 50), (.const (.int .i64 5))])⟩
  (.op false ⟨(some 52), (some (49, false)), (.bin .neq (.tmp 51) (.const (.int .i64 0)))⟩
  (.op false ⟨(some 53), none, (.pick (.tmp 49) (.const (.bool true)) (.tmp 52))⟩
  (.op false ⟨(some 54), none, (.mv (.tmp 53))⟩
  (.op false ⟨(some 55), (some (54, false)), (.mv (.tmp 1))⟩
  (.op false ⟨(some 56), (some (54, false)), (.call f_cache_Cache_Leave [(.tmp 55), (.const (.int .i64 6))])⟩
  (.op false ⟨(some 57), (some (54, false)), (.bin .neq (.tmp 56) (.const (.int .i64 0)))⟩
  (.op false ⟨(some 58), none, (.pick (.tmp 54) (.const (.bool true)) (.tmp 57))⟩ .done)))))))))))))))))))))))))))))))) (.cond (.tmp 58)
 (.seq
 (.reg false (.op false ⟨(some 0), none, (.mv (.const (.bool false)))⟩ .done)) .ret) .skip))
 (.seq
 (.reg false (.op false ⟨(some 60), none, (.mv (.tmp 1))⟩
  (.op false ⟨(some 61), none, (.call f_cache_Cache_Get [(.tmp 60), (.const (.int .i64 7))])⟩
  (.op false ⟨(some 59), none, (.mv (.tmp 61))⟩
  (.op false ⟨(some 62), none, (.ext (.tmp 59) 0)⟩
  (.op false ⟨(some 63), none, (.ext (.tmp 59) 1)⟩
  (.op false ⟨(some 8), none, (.mv (.tmp 62))⟩
  (.op false ⟨(some 9), none, (.mv (.tmp 63))⟩ .done))))))))
 (.seq
 (.reg false (.op false ⟨(some 64), none, (.mv (.tmp 9))⟩
  (.op false ⟨(some 65), none, (.bin .eql (.tmp 64) (.const (.int .i64 0)))⟩
  (.op false ⟨(some 66), none, (.mv (.tmp 65))⟩
  (.op false ⟨(some 67), (some (66, true)), (.mv (.tmp 1))⟩
  (.op false ⟨(some 68), (some (66, true)), (.call f_cache_Cache_Held [(.tmp 67)])⟩
  (.op false ⟨(some 69), (some (66, true)), (.bsl 2 1 [(.int .i64 0)] [(0, (.const (.int .i64 7))), (1, (.const (.int .i64 6)))])⟩
  (.op false ⟨(some 70), (some (66, true)), (.call f_thimbleref17_Ints [(.tmp 68), (.tmp 69)])⟩
  (.op false ⟨(some 71), none, (.pick (.tmp 66) (.tmp 70) (.const (.bool false)))⟩
  (.op false ⟨(some 72), none, (.mv (.tmp 71))⟩
  (.op false ⟨(some 73), (some (72, true)), (.mv (.tmp 1))⟩
  (.op false ⟨(some 74), (some (72, true)), (.call f_cache_Cache_Misses [(.tmp 73)])⟩
  (.op false ⟨(some 75), (some (72, true)), (.bin .eql (.tmp 74) (.const (.int .i64 3)))⟩
  (.op false ⟨(some 76), none, (.pick (.tmp 72) (.tmp 75) (.const (.bool false)))⟩
  (.op false ⟨(some 0), none, (.mv (.tmp 76))⟩ .done))))))))))))))) .ret)))))))))⟩

set_option maxRecDepth 4000 in
set_option maxHeartbeats 1000000 in
theorem cworks_ok {P : Program} {f f1 f2 f3 f4 f5 f6 : FuncId} (hd : dec P f = some (g_thimblelaw18_works f1 f2 f3 f4 f5 f6)) (h1 : OverOk P f1) (h2 : CGetOk P f2) (h3 : CLeaveOk P f3) (h4 : CHeldOk P f4) (h5 : IntsOk P f5) (h6 : MissesOk P f6) : CWorksOk P f := by
  intro d
  have hz : devK.syn.length = 12 := List.length_replicate
  refine GCall_of hd (Nat.le_of_ble_eq_true rfl) ?_
  show gwp P _ _ _ _ _
  (apply w_sq; apply w_reg; apply w_mvb; rfl; apply w_done0; apply w_sq; apply w_reg)
  refine w_callA (A := []) (B := []) rfl rfl (h1 (n := 2) (by omega) (by omega)) (fun cv d1 L1 _ hc => ?_)
  obtain ⟨b, rfl⟩ := hc.ptr
  rw [List.append_nil]
  (apply w_mvp; rfl; apply w_done0; apply w_sq; apply w_sq; apply w_reg; apply w_mvp; rfl; apply w_eqpS; rfl; rfl; apply w_done0; apply w_ifF; rfl; apply w_skip; apply w_sq; apply w_reg; apply w_mvp; rfl)
  refine w_callA (B := []) (List.append_nil _).symm rfl (h2.cov (k := 5) hc (pb2 (f := fz) (g := fz) (by decide) (by decide)) (by omega)) (fun u d2 L2 hl2 ⟨hc2, hg⟩ => ?_)
  rw [devK_cur (by omega), ex1] at hc2 hg
  obtain ⟨u5, rfl, hu5⟩ := hg
  rw [List.append_nil]
  (apply w_mvu; rfl; apply w_ext; rfl; rfl; apply w_ext; rfl; rfl; apply w_mv; apply w_mvi; rfl; apply w_done0; apply w_sq; apply w_reg; apply w_mvp; rfl)
  refine w_callA (B := []) (List.append_nil _).symm rfl (h2.cov (k := 6) hc2 (pb2 (by decide) (by decide)) (by omega)) (fun u d3 L3 hl3 ⟨hc3, hg⟩ => ?_)
  rw [devK_cur (by omega), ex2] at hc3 hg
  obtain ⟨u6, rfl, hu6⟩ := hg
  rw [List.append_nil]
  (apply w_mvu; rfl; apply w_ext; rfl; rfl; apply w_ext; rfl; rfl; apply w_mv; apply w_mvi; rfl; apply w_done0; apply w_sq; apply w_reg; apply w_mvp; rfl)
  refine w_callA (B := []) (List.append_nil _).symm rfl (h2.cov (k := 7) hc3 (pb2 (by decide) (by decide)) (by omega)) (fun u d4 L4 hl4 ⟨hc4, hg⟩ => ?_)
  rw [devK_cur (by omega), ex3] at hc4 hg
  obtain rfl := hg
  rw [List.append_nil]
  have hu : RSl 1 RByte d4 u5 (curK 5) := (hu5.mono hl3).mono hl4
  have hul := curK_len 5
  have hu0 : ((curK 5)[0]'(by omega)).toNat = 5 := rfl
  (apply w_mvu; rfl; apply w_ext; rfl; rfl; apply w_ext; rfl; rfl; apply w_mvs; rfl; apply w_mvi; rfl; apply w_done0; apply w_sq; apply w_sq; apply w_reg; apply w_mvi; rfl; apply w_neq; rfl; rfl; apply w_mvb; rfl; refine w_gdF rfl (by omega) ?_; apply w_gT; rfl; apply w_mvi; rfl; apply w_gT; rfl; apply w_neq; rfl; rfl; apply w_pickFb; rfl; rfl; apply w_mvb; rfl; refine w_gdF rfl (by omega) ?_; apply w_gT; rfl; apply w_mvi; rfl; apply w_gT; rfl; apply w_neq; rfl; rfl; apply w_pickFb; rfl; rfl; apply w_mvb; rfl; refine w_gdF rfl (by omega) ?_; apply w_gT; rfl; apply w_mv; apply w_gT; rfl; apply w_lenR; rfl; assumption; apply w_gT; rfl; apply w_neq; rfl; rfl; apply w_pickFb; rfl; rfl; apply w_mvb; rfl; refine w_gdF rfl (by omega) ?_; apply w_gT; rfl; apply w_mv; apply w_gT; rfl; refine w_idxR (m := 0) (sz := 1) (R := RByte) (by rfl) (by assumption) (by rfl) rfl (by omega) ?_; rintro _ _ _ _ _ rfl; apply w_gT; rfl; apply w_ld; rfl; exact hc_ds0 (by assumption) rfl; apply w_gT; rfl; apply w_neq; rfl; rfl; apply w_pickFb; rfl; rfl; apply w_mvb; rfl; refine w_gdF rfl (by omega) ?_; apply w_gT; rfl; apply w_mvp; rfl; apply w_gT; rfl)
  refine w_callA (B := []) (List.append_nil _).symm rfl (h3.cov (k := 5) hc4 (pb2 (by decide) (by decide))) (fun u d5 L5 hl5 ⟨e, hc5⟩ => ?_)
  rw [ex4] at hc5 e
  simp only at hc5 e
  subst e
  rw [List.append_nil]
  (apply w_gT; rfl; apply w_neq; rfl; rfl; apply w_pickFb; rfl; rfl; apply w_mvb; rfl; refine w_gdF rfl (by omega) ?_; apply w_gT; rfl; apply w_mvp; rfl; apply w_gT; rfl)
  have hq := h3.cov (k := 6) hc5 (pb2 (by decide) (by decide))
  refine w_callA (A := L5) (B := []) (List.append_nil _).symm rfl hq (fun u d6 L6 hl6 ⟨e, hc6⟩ => ?_)
  rw [ex5] at hc6 e
  simp only at hc6 e
  subst e
  rw [List.append_nil]
  (apply w_gT; rfl; apply w_neq; rfl; rfl; apply w_pickFb; rfl; rfl; apply w_done0; refine w_ifdF rfl (by omega) ?_; apply w_skip; apply w_sq; apply w_reg; apply w_mvp; rfl)
  refine w_callA (B := []) (List.append_nil _).symm rfl (h2.cov (k := 7) hc6 (pb2 (by decide) (by decide)) (by omega)) (fun u d7 L7 hl7 ⟨hc7, hg⟩ => ?_)
  rw [devK_cur (by omega), ex6] at hc7 hg
  obtain ⟨u7, rfl, hu7⟩ := hg
  rw [List.append_nil]
  (apply w_mvu; rfl; apply w_ext; rfl; rfl; apply w_ext; rfl; rfl; apply w_mv; apply w_mvi; rfl; apply w_done0; apply w_sq; apply w_reg; apply w_mvi; rfl; apply w_eql; rfl; rfl; apply w_mvb; rfl; refine w_gdT rfl (by omega) ?_; apply w_gT; rfl; apply w_mvp; rfl; apply w_gT; rfl)
  refine w_callA (B := []) (List.append_nil _).symm rfl (h4.cov hc7 (fun f hf => by
    rcases List.mem_cons.1 hf with rfl | hf
    · decide
    · rw [List.mem_singleton.1 hf]; decide)) (fun w d8 L8 hl8 ⟨e, hw⟩ => ?_)
  subst e
  rw [List.append_nil]
  (apply w_gT; rfl)
  refine w_bs2 rfl rfl rfl rfl (fun b9 T9 => ?_)
  (apply w_gT; rfl)
  refine w_pureB rfl (v := .bool true) (fun d9 hl9 hk9 => ?_) ?_
  · have := h5 (d := d9) (v := w) (w := .slice (some ⟨b9, 0, none⟩) 2 2) (a := [7, 6]) (b := [7, 6]) (hw.mono hl9)
      (GRow.rsl (R := RInt) (GRow.litI (d := d8) (T := T9) (b := b9) (n := 2) (l := [7, 6]) rfl (by intro x hx; rcases List.mem_cons.1 hx with rfl | hx; omega; rw [List.mem_singleton.1 hx]; omega) rfl (by decide)) mono_int (by omega) hl9 (hk9 _ (List.mem_cons_self ..)))
    exact this
  (apply w_pickTb; rfl; rfl; apply w_mvb; rfl; apply w_gT; rfl; apply w_mvp; rfl; apply w_gT; rfl)
  refine w_readP (A := L8) (B := [_]) (List.perm_append_comm (l₁ := [_])) rfl (h6.cov (hc7.mono hl8)) ?_
  rw [show wr 3 = 3 from rfl]
  (apply w_gT; rfl; apply w_eql; rfl; rfl; apply w_pickTb; rfl; rfl; apply w_mvb; rfl; apply w_done0; apply w_ret)
  exact fin1 rfl (List.nil_sublist _) ⟨rfl, rfl⟩
end Go.Gk.Cch
end

section
namespace Go.Gk.Cch
open Go Go.Gk Go.Gk.Dev
attribute [local irreducible] gwp gws xwp

section
variable {P : Program} {pan : List PanicEntry → Post} {Qn : Env → Post} {Ls L : List PHeap} {ρ : Env} {d : PHeap} {s : GS} {t : Nat} {tk : Bool}
theorem w_remK {x y : Operand} {kk : IntKind} {a b : Int} (k : Nat) (ex : ev ρ x = .int kk a) (ey : ev ρ y = .int kk b) (h1 : 0 ≤ a) (h2 : 0 < b) (hk : a % b = (k : Int)) (h : gws P pan Qn s Ls (upd ρ t (.int kk (k : Nat))) d L) :
    gws P pan Qn (.op tk ⟨some t, none, .bin .rem x y⟩ s) Ls ρ d L := w_rem ex ey h1 h2 (by rw [hk]; exact h)
end
theorem nat_rem (a : Int) (m : Nat) (h : 0 < m) : ∃ k : Nat, (a % 18446744073709551616) % (m : Int) = (k : Int) ∧ k < m := by
  refine ⟨((a % 18446744073709551616) % (m : Int)).toNat, ?_, ?_⟩ <;> have := Int.emod_nonneg (a % 18446744073709551616) (show (m : Int) ≠ 0 by omega) <;> have := Int.emod_lt_of_pos (a % 18446744073709551616) (show (0 : Int) < m by omega) <;> omega
structure Tl (c : CD) (i n : Nat) : Prop where
  inv : Inv curK 12 c
  pin : ∀ s, pinOf c s ≤ i
  sum : c.hits + c.miss = n
  le : n ≤ i
theorem Tl.pinB {c : CD} {i n : Nat} (h : Tl c i n) (hi : i ≤ 1000) : PinB c 4611686018427387904 := fun f hf => by
  have := pinB_of h.inv h.pin f hf; omega
theorem Tl.get {c c' : CD} {i n k : Nat} {b : Sec} (h : Tl c i n) (hk : k < 12) (hg : getF (curK k) c k = (c', some b)) : Tl c' (i + 1) (n + 1) ∧ b = curK k ∧ pinOf c' k ≠ 0 := by
  obtain ⟨g1, g2, g3, g4, g5, g6, g7⟩ := get_some h.inv hk hg
  refine ⟨⟨g1, fun s => ?_, ?_, by have := h.le; omega⟩, g2, ?_⟩
  · rw [g3]; have := h.pin s; split <;> omega
  · have := h.sum
    split at g6 <;> omega
  · rw [g3, if_pos rfl]; omega
theorem Tl.leave {c : CD} {i n k : Nat} (h : Tl c i n) (hp : pinOf c k ≠ 0) : Tl (leaveF c k).1 i n ∧ (leaveF c k).2 = 0 := by
  obtain ⟨g1, g2, g3, g4, g5, g6, g7⟩ := leave_inv h.inv hp
  refine ⟨⟨g1, fun s => ?_, by rw [g5, g6]; exact h.sum, h.le⟩, g2⟩
  rw [g3]; have := h.pin s; split <;> omega
theorem Tl.next {c : CD} {i n : Nat} (h : Tl c i n) : Tl c (i + 1) n := ⟨h.inv, fun s => by have := h.pin s; omega, h.sum, by have := h.le; omega⟩

theorem GotB.form {d : PHeap} {r : Value} {o : Option Sec} (h : GotB d r o) : ∃ a n cp e, r = .tuple #[.slice a n cp, .int .i64 e] ∧ (match o with | some b => e = 0 ∧ n = b.length ∧ RBytes d (.slice a n cp) b | none => e = 180 ∧ n = 0) := by
  cases o with
  | none => obtain rfl := h; exact ⟨none, 0, 0, 180, rfl, rfl, rfl⟩
  | some b =>
    obtain ⟨u, rfl, hu⟩ := h
    obtain ⟨a, c, rfl⟩ := RSl.val hu
    exact ⟨a, _, c, 0, rfl, rfl, rfl, hu⟩
def Seen (l : List Int) (j : Nat) (bs : List Bool) : Prop := bs.length = 12 ∧ ∀ s (hs : s < bs.length), bs[s] = true → ∃ j', j' < j ∧ l[j']? = some (s : Int)
theorem seen_step {l : List Int} {j : Nat} {bs : List Bool} (h : Seen l j bs) (hj : j < l.length) {s : Nat} (hs : s < 12) (e : l[j] = (s : Int)) : Seen l (j + 1) (bs.set s true) := by
  refine ⟨by rw [List.length_set]; exact h.1, fun t ht hb => ?_⟩
  rw [List.length_set] at ht
  by_cases q : s = t
  · subst q; exact ⟨j, by omega, by rw [List.getElem?_eq_getElem hj, e]⟩
  · rw [List.getElem_set_ne q] at hb
    obtain ⟨j', h1, h2⟩ := h.2 t ht hb
    exact ⟨j', by omega, h2⟩
theorem seen_next {l : List Int} {j : Nat} {bs : List Bool} (h : Seen l j bs) : Seen l (j + 1) bs := ⟨h.1, fun t ht hb => let ⟨j', h1, h2⟩ := h.2 t ht hb; ⟨j', by omega, h2⟩⟩
def g_thimblelaw18_CacheTells (f_thimblelaw18_works f_thimblelaw18_over f_cache_Cache_Get f_cache_Cache_Leave f_cache_Cache_Hits f_cache_Cache_Misses f_cache_Cache_Held : Nat) : GFun :=
 ⟨125, [(.tmp 6)],
 (.seq
 (.reg false (.op false ⟨(some 6), none, (.mv (.const (.bool false)))⟩ .done))
 (.seq (.seq
 (.reg false (.op false ⟨(some 16), none, (.call f_thimblelaw18_works [])⟩
  (.op false ⟨(some 17), none, (.un .not (.tmp 16))⟩ .done))) (.cond (.tmp 17)
 (.seq
 (.reg false (.op false ⟨(some 6), none, (.mv (.const (.bool false)))⟩ .done)) .ret) .skip))
 (.seq
 (.reg false (.op false ⟨(some 18), none, (.mv (.tmp 0))⟩
  (.op false ⟨(some 19), none, (.cvi .u64 (.tmp 18))⟩
  (.op false ⟨(some 20), none, (.bin .rem (.tmp 19) (.const (.int .u64 8)))⟩
  (.op false ⟨(some 21), none, (.cvi .i64 (.tmp 20))⟩
  (.op false ⟨(some 22), none, (.bin .add (.const (.int .i64 1)) (.tmp 21))⟩
  (.op false ⟨(some 23), none, (.call f_thimblelaw18_over [(.tmp 22)])⟩
  (.op false ⟨(some 7), none, (.mv (.tmp 23))⟩ .done))))))))
 (.seq (.seq
 (.reg false (.op false ⟨(some 24), none, (.mv (.tmp 7))⟩
  (.op false ⟨(some 25), none, (.eqp false (.tmp 24) (.const (.pointer none)))⟩ .done))) (.cond (.tmp 25)
 (.seq
 (.reg false (.op false ⟨(some 6), none, (.mv (.const (.bool false)))⟩ .done)) .ret) .skip))
 (.seq
 (.reg false (.op false ⟨(some 8), none, (.mv (.const (.int .i64 0)))⟩ .done))
 (.seq (.seq
 (.reg false (.op false ⟨(some 9), none, (.mv (.const (.int .i64 0)))⟩ .done)) (.block 0 (.loop
 (.seq (.seq
 (.reg false (.op false ⟨(some 26), none, (.mv (.tmp 9))⟩
  (.op false ⟨(some 27), none, (.mv (.tmp 1))⟩
  (.op false ⟨(some 28), none, (.len (.tmp 27))⟩
  (.op false ⟨(some 29), none, (.bin .lss (.tmp 26) (.tmp 28))⟩
  (.op false ⟨(some 30), none, (.mv (.tmp 29))⟩
  (.op false ⟨(some 31), (some (30, true)), (.mv (.tmp 9))⟩
  (.op false ⟨(some 32), (some (30, true)), (.bin .lss (.tmp 31) (.const (.int .i64 100)))⟩
  (.op false ⟨(some 33), none, (.pick (.tmp 30) (.tmp 32) (.const (.bool false)))⟩ .done))))))))) (.cond (.tmp 33) .skip (.exit 0)))
 (.seq (.block 1
 (.seq
 (.reg false (.op false ⟨(some 36), none, (.mv (.tmp 1))⟩
  (.op false ⟨(some 37), none, (.mv (.tmp 9))⟩
  (.op false ⟨(some 38), none, (.idx 1 (.tmp 36) (.tmp 37))⟩
  (.op false ⟨(some 39), none, (.ld none (.tmp 38))⟩
  (.op false ⟨(some 40), none, (.cvi .u64 (.tmp 39))⟩
  (.op false ⟨(some 41), none, (.bin .rem (.tmp 40) (.const (.int .u64 12)))⟩
  (.op false ⟨(some 42), none, (.cvi .i64 (.tmp 41))⟩
  (.op false ⟨(some 10), none, (.mv (.tmp 42))⟩ .done)))))))))
 (.seq
 (.reg false (.op false ⟨(some 44), none, (.mv (.tmp 7))⟩
  (.op false ⟨(some 45), none, (.mv (.tmp 10))⟩
  (.op false ⟨(some 46), none, (.call f_cache_Cache_Get [(.tmp 44), (.tmp 45)])⟩
  (.op false ⟨(some 43), none, (.mv (.tmp 46))⟩
  (.op false ⟨(some 47), none, (.ext (.tmp 43) 0)⟩
  (.op false ⟨(some 48), none, (.ext (.tmp 43) 1)⟩
  (.op false ⟨(some 11), none, (.mv (.tmp 47))⟩
  (.op false ⟨(some 12), none, (.mv (.tmp 48))⟩ .done)))))))))
 (.seq (.seq
 (.reg false (.op false ⟨(some 49), none, (.mv (.tmp 12))⟩
  (.op false ⟨(some 50), none, (.bin .eql (.tmp 49) (.const (.int .i64 0)))⟩ .done))) (.cond (.tmp 50)
 (.seq
 (.reg false (.op false ⟨(some 51), none, (.mv (.tmp 8))⟩
  (.op false ⟨(some 52), none, (.bin .add (.tmp 51) (.const (.int .i64 1)))⟩
  (.op false ⟨(some 8), none, (.mv (.tmp 52))⟩ .done))))
 (.seq (.seq
 (.reg false (.op false ⟨(some 53), none, (.mv (.tmp 11))⟩
  (.op false ⟨(some 54), none, (.len (.tmp 53))⟩
  (.op false ⟨(some 55), none, (.bin .neq (.tmp 54) (.const (.int .i64 256)))⟩
  (.op false ⟨(some 56), none, (.mv (.tmp 55))⟩
  (.op false ⟨(some 57), (some (56, false)), (.mv (.tmp 11))⟩
  (.op false ⟨(some 58), (some (56, false)), (.idx 1 (.tmp 57) (.const (.int .i64 0)))⟩
  (.op false ⟨(some 59), (some (56, false)), (.ld none (.tmp 58))⟩
  (.op false ⟨(some 60), (some (56, false)), (.mv (.tmp 10))⟩
  (.op false ⟨(some 61), (some (56, false)), (.cvi .u8 (.tmp 60))⟩
  (.op false ⟨(some 62), (some (56, false)), (.bin .neq (.tmp 59) (.tmp 61))⟩
  (.op false ⟨(some 63), none, (.pick (.tmp 56) (.const (.bool true)) (.tmp 62))⟩
  (.op false ⟨(some 64), none, (.mv (.tmp 63))⟩
  (.op false ⟨(some 65), (some (64, false)), (.mv (.tmp 11))⟩
  (.op false ⟨(some 66), (some (64, false)), (.idx 1 (.tmp 65) (.const (.int .i64 255)))⟩
  (.op false ⟨(some 67), (some (64, false)), (.ld none (.tmp 66))⟩
  (.op false ⟨(some 68), (some (64, false)), (.mv (.tmp 10))⟩
  (.op false ⟨(some 69), (some (64, false)), (.cvi .u8 (.tmp 68))⟩
  (.op false ⟨(some 70), (some (64, false)), (.bin .neq (.tmp 67) (.tmp 69))⟩
  (.op false ⟨(some 71), none, (.pick (.tmp 64) (.const (.bool true)) (.tmp 70))⟩ .done)))))))))))))))))))) (.cond (.tmp 71)
 (.seq
 (.reg false (.op false ⟨(some 6), none, (.mv (.const (.bool false)))⟩ .done)) .ret) .skip))
 (.seq
 (.reg false (.op false ⟨(some 72), none, (.mv (.tmp 9))⟩
  (.op false ⟨(some 73), none, (.mv (.tmp 2))⟩
  (.op false ⟨(some 74), none, (.len (.tmp 73))⟩
  (.op false ⟨(some 75), none, (.bin .lss (.tmp 72) (.tmp 74))⟩
  (.op false ⟨(some 76), none, (.mv (.tmp 75))⟩
  (.op false ⟨(some 77), (some (76, true)), (.mv (.tmp 2))⟩
  (.op false ⟨(some 78), (some (76, true)), (.mv (.tmp 9))⟩
  (.op false ⟨(some 79), (some (76, true)), (.idx 1 (.tmp 77) (.tmp 78))⟩
  (.op false ⟨(some 80), (some (76, true)), (.ld none (.tmp 79))⟩
  (.op false ⟨(some 81), none, (.pick (.tmp 76) (.tmp 80) (.const (.bool false)))⟩
  (.op false ⟨(some 82), none, (.mv (.tmp 81))⟩
  (.op false ⟨(some 83), (some (82, true)), (.mv (.tmp 7))⟩
  (.op false ⟨(some 84), (some (82, true)), (.mv (.tmp 10))⟩
  (.op false ⟨(some 85), (some (82, true)), (.call f_cache_Cache_Leave [(.tmp 83), (.tmp 84)])⟩
  (.op false ⟨(some 86), (some (82, true)), (.bin .neq (.tmp 85) (.const (.int .i64 0)))⟩
  (.op false ⟨(some 87), none, (.pick (.tmp 82) (.tmp 86) (.const (.bool false)))⟩ .done))))))))))))))))) (.cond (.tmp 87)
 (.seq
 (.reg false (.op false ⟨(some 6), none, (.mv (.const (.bool false)))⟩ .done)) .ret) .skip))))
 (.seq
 (.reg false (.op false ⟨(some 88), none, (.mv (.tmp 12))⟩
  (.op false ⟨(some 89), none, (.bin .neq (.tmp 88) (.const (.int .i64 180)))⟩
  (.op false ⟨(some 90), none, (.mv (.tmp 89))⟩
  (.op false ⟨(some 91), (some (90, false)), (.mv (.tmp 11))⟩
  (.op false ⟨(some 92), (some (90, false)), (.len (.tmp 91))⟩
  (.op false ⟨(some 93), (some (90, false)), (.bin .neq (.tmp 92) (.const (.int .i64 0)))⟩
  (.op false ⟨(some 94), none, (.pick (.tmp 90) (.const (.bool true)) (.tmp 93))⟩ .done)))))))) (.cond (.tmp 94)
 (.seq
 (.reg false (.op false ⟨(some 6), none, (.mv (.const (.bool false)))⟩ .done)) .ret) .skip))))
 (.seq (.seq
 (.reg false (.op false ⟨(some 95), none, (.mv (.tmp 7))⟩
  (.op false ⟨(some 96), none, (.call f_cache_Cache_Hits [(.tmp 95)])⟩
  (.op false ⟨(some 97), none, (.mv (.tmp 7))⟩
  (.op false ⟨(some 98), none, (.call f_cache_Cache_Misses [(.tmp 97)])⟩
  (.op false ⟨(some 99), none, (.bin .add (.tmp 96) (.tmp 98))⟩
  (.op false ⟨(some 100), none, (.mv (.tmp 8))⟩
  (.op false ⟨(some 101), none, (.bin .neq (.tmp 99) (.tmp 100))⟩ .done)))))))) (.cond (.tmp 101)
 (.seq
 (.reg false (.op false ⟨(some 6), none, (.mv (.const (.bool false)))⟩ .done)) .ret) .skip))
 (.seq
 (.reg false (.op false ⟨(some 13), none, (.alo (.agg #[(.bool false), (.bool false), (.bool false), (.bool false), (.bool false), (.bool false), (.bool false), (.bool false), (.bool false), (.bool false), (.bool false), (.bool false)]))⟩ .done))
 (.seq
 (.reg false (.op false ⟨(some 102), none, (.mv (.tmp 7))⟩
  (.op false ⟨(some 103), none, (.call f_cache_Cache_Held [(.tmp 102)])⟩
  (.op false ⟨(some 104), none, (.len (.tmp 103))⟩
  (.op false ⟨(some 105), none, (.mv (.const (.int .i64 0)))⟩ .done))))) (.block 2 (.loop
 (.seq
 (.reg false (.op false ⟨(some 106), none, (.bin .lss (.tmp 105) (.tmp 104))⟩ .done))
 (.seq (.cond (.tmp 106) .skip (.exit 2))
 (.seq (.block 3
 (.seq
 (.reg false (.op false ⟨(some 107), none, (.idx 1 (.tmp 103) (.tmp 105))⟩
  (.op false ⟨(some 108), none, (.ld none (.tmp 107))⟩
  (.op false ⟨(some 15), none, (.mv (.tmp 108))⟩ .done))))
 (.seq (.seq
 (.reg false (.op false ⟨(some 109), none, (.mv (.tmp 15))⟩
  (.op false ⟨(some 110), none, (.bin .geq (.tmp 109) (.const (.int .i64 12)))⟩
  (.op false ⟨(some 111), none, (.mv (.tmp 110))⟩
  (.op false ⟨(some 112), (some (111, false)), (.mv (.tmp 15))⟩
  (.op false ⟨(some 113), (some (111, false)), (.bin .geq (.tmp 112) (.const (.int .i64 0)))⟩
  (.op false ⟨(some 114), (some (111, false)), (.mv (.tmp 113))⟩
  (.op false ⟨(some 115), (some (114, true)), (.mv (.tmp 15))⟩
  (.op false ⟨(some 116), (some (114, true)), (.idxa 12 1 (.tmp 13) (.tmp 115))⟩
  (.op false ⟨(some 117), (some (114, true)), (.ld none (.tmp 116))⟩
  (.op false ⟨(some 118), (some (111, false)), (.pick (.tmp 114) (.tmp 117) (.const (.bool false)))⟩
  (.op false ⟨(some 119), none, (.pick (.tmp 111) (.const (.bool true)) (.tmp 118))⟩ .done)))))))))))) (.cond (.tmp 119)
 (.seq
 (.reg false (.op false ⟨(some 6), none, (.mv (.const (.bool false)))⟩ .done)) .ret) .skip))
 (.seq
 (.reg false (.op false ⟨(some 120), none, (.mv (.tmp 15))⟩
  (.op false ⟨(some 121), none, (.bin .geq (.tmp 120) (.const (.int .i64 0)))⟩ .done))) (.cond (.tmp 121)
 (.reg false (.op false ⟨(some 122), none, (.mv (.tmp 15))⟩
  (.op false ⟨(some 123), none, (.idxa 12 1 (.tmp 13) (.tmp 122))⟩
  (.op false ⟨none, none, (.st 1 (.tmp 123) (.const (.bool true)))⟩ .done)))) .skip)))))
 (.reg false (.op false ⟨(some 124), none, (.bin .add (.tmp 105) (.const (.int .i64 1)))⟩
  (.op false ⟨(some 105), none, (.mv (.tmp 124))⟩ .done)))))))))))))))
 (.reg false (.op false ⟨(some 34), none, (.mv (.tmp 9))⟩
  (.op false ⟨(some 35), none, (.bin .add (.tmp 34) (.const (.int .i64 1)))⟩
  (.op false ⟨(some 9), none, (.mv (.tmp 35))⟩ .done)))))))))
 (.seq
 (.reg false (.op false ⟨(some 6), none, (.mv (.const (.bool true)))⟩ .done)) .ret)))))))⟩

set_option maxRecDepth 4000 in
set_option maxHeartbeats 1000000 in
theorem cacheTells {P : Program} {f f1 f2 f3 f4 f5 f6 f7 : FuncId} (hd : dec P f = some (g_thimblelaw18_CacheTells f1 f2 f3 f4 f5 f6 f7)) (h1 : CWorksOk P f1) (h2 : OverOk P f2) (h3 : CGetOk P f3) (h4 : CLeaveOk P f4) (h5 : HitsOk P f5) (h6 : MissesOk P f6) (h7 : CHeldOk P f7)
    {d : PHeap} {fr : Int} {gv lv : Value} {gs : List Int} {ls : List Bool} (hgs : RInts d gv gs) (hls : RSl 1 RBool d lv ls) : GCall P f [.int .i64 fr, gv, lv] d [] (Ret fun r _ _ => r = .bool true) := by
  have hz : devK.syn.length = 12 := List.length_replicate
  have hgl := hgs.len_le
  have hll := hls.len_le
  refine GCall_of hd (Nat.le_of_ble_eq_true rfl) ?_
  show gwp P _ _ _ _ _
  (apply w_sq; apply w_reg; apply w_mvb; rfl; apply w_done0; apply w_sq; apply w_sq; apply w_reg)
  refine w_callA (A := []) (B := []) rfl rfl h1 (fun u d1 L1 hl1 ⟨e1, e2⟩ => ?_)
  subst e1; subst e2
  obtain ⟨m, hm, hm12⟩ := nat_rem fr 8 (by omega)
  replace hm : fr % 18446744073709551616 % 8 = (m : Int) := hm
  (apply w_not; rfl; apply w_done0; apply w_ifF; rfl; apply w_skip; apply w_sq; apply w_reg; apply w_mvi; rfl; apply w_cviu; rfl; apply w_rem; rfl; rfl; omega; omega; apply w_cvi64; rfl; omega; omega; apply w_add; rfl; rfl; omega; omega)
  refine w_callA (A := []) (B := []) rfl (vs := [.int .i64 (1 + m : Nat)]) (congrArg (fun z => [Value.int .i64 z]) (show 1 + fr % 18446744073709551616 % 8 = ((1 + m : Nat) : Int) by omega)) (h2 (n := 1 + m) (by omega) (by omega)) (fun cv d2 L2 hl2 hc => ?_)
  obtain ⟨b, rfl⟩ := hc.ptr
  rw [List.append_nil]
  have hgs2 : RSl 1 RInt d2 gv gs := (hgs.mono hl1).mono hl2
  have hls2 : RSl 1 RBool d2 lv ls := RSl.mono (fun _ h => h) hls (hl1.trans hl2)
  (apply w_mvp; rfl; apply w_done0; apply w_sq; apply w_sq; apply w_reg; apply w_mvp; rfl; apply w_eqpS; rfl; rfl; apply w_done0; apply w_ifF; rfl; apply w_skip; apply w_sq; apply w_reg; apply w_mvi; rfl; apply w_done0; apply w_sq; apply w_sq; apply w_reg; apply w_mvi; rfl; apply w_done0; apply w_block)
  have hT0 : Tl (newC (1 + m)) 0 0 := ⟨inv_new curK 12 _ (by omega) (by omega), fun s => by rw [show pinOf (newC (1 + m)) s = 0 from pin_new _ s]; omega, rfl, by omega⟩
  refine w_loopS (α := Nat × Nat × CD) (fun x => [(1, gv), (2, lv), (7, .pointer (some ⟨b, 0, none⟩)), (8, .int .i64 x.2.1), (9, .int .i64 x.1)])
    (fun x d' L' => Le d2 d' ∧ x.1 ≤ 100 ∧ x.1 ≤ gs.length ∧ Cov d' x.2.2 devK (.pointer (some ⟨b, 0, none⟩)) L' ∧ Tl x.2.2 x.1 x.2.1) (fun x => 100 - x.1) (0, 0, newC (1 + m)) ⟨rfl, rfl, rfl, rfl, rfl, trivial⟩ ⟨Le.refl _, by omega, by omega, hc, hT0⟩ ?_
  rintro ⟨i, n, c⟩ ρ d3 L3 ⟨hl3, hi, hig, hc3, hT⟩
  simp only at hi hig hc3 hT ⊢
  have hgs3 : RSl 1 RInt d3 gv gs := RInts.mono hgs2 hl3
  by_cases e1 : i < gs.length
  · by_cases e2 : i < 100
    · obtain ⟨k, hk, hk12⟩ := nat_rem gs[i] 12 (by omega)
      replace hk : gs[i] % 18446744073709551616 % 12 = (k : Int) := hk
      (apply w_sq; apply w_sq; apply w_reg; apply w_mvi; rfl; apply w_mv; apply w_lenR; rfl; assumption; apply w_lss; rfl; rfl; apply w_mvb; rfl; refine w_gdT rfl (by omega) ?_; apply w_gT; rfl; apply w_mvi; rfl; apply w_gT; rfl; apply w_lss; rfl; rfl; apply w_pickTb; rfl; rfl; apply w_done0; refine w_ifdT rfl (by omega) ?_; apply w_skip; apply w_sq; apply w_block; apply w_sq; apply w_reg; apply w_mv; apply w_mvi; rfl; refine w_idxR (sz := 1) (R := RInt) (by rfl) (by assumption) (by rfl) rfl (by omega) ?_; rintro _ _ _ _ _ ⟨rfl, _, _⟩; apply w_ld; rfl; exact hc_ds0 (by assumption) rfl; apply w_cviu; rfl; apply w_rem; rfl; rfl; omega; omega; apply w_cvi64; rfl; omega; omega; apply w_mvi; rfl; apply w_done0; apply w_sq; apply w_reg; apply w_mvp; rfl; apply w_mvi; rfl)
      refine gws_env (g := 10) (congrArg (Value.int .i64) hk) ?_
      refine gws_env (g := 45) (congrArg (Value.int .i64) hk) ?_
      refine w_callO (h3.cov (k := k) hc3 (hT.pinB (by omega)) (by omega)) rfl (fun u d4 L4 hl4 ⟨hc4, hg⟩ => ?_)
      rw [devK_cur hk12] at hc4 hg
      cases hr : getF (curK k) c k with
      | mk c' o =>
      rw [hr] at hc4 hg
      simp only at hc4 hg
      have hls4 : RSl 1 RBool d4 lv ls := RSl.mono (fun _ h => h) hls2 (hl3.trans hl4)
      obtain ⟨wa, wn, wc, we, rfl, hw⟩ := hg.form
      (apply w_mvu; rfl; apply w_ext; rfl; rfl; apply w_ext; rfl; rfl; apply w_mvs; rfl; apply w_mvi; rfl; apply w_done0)
      refine w_mid (fun ρ d' L' => ∃ c' n', SlotsAre ρ [(1, gv), (2, lv), (7, .pointer (some ⟨b, 0, none⟩)), (8, .int .i64 (n' : Nat)), (9, .int .i64 (i : Nat))] ∧ Le d2 d' ∧ Cov d' c' devK (.pointer (some ⟨b, 0, none⟩)) L' ∧ Tl c' (i + 1) n') ?_ ?_
      · cases o with
        | none =>
          obtain ⟨rfl, rfl⟩ := hw
          obtain ⟨rfl, -⟩ := get_none hT.inv hr
          (apply w_sq; apply w_reg; apply w_mvi; rfl; apply w_eql; rfl; rfl; apply w_done0; refine w_ifdF rfl (by omega) ?_; apply w_sq; apply w_reg; apply w_mvi; rfl; apply w_neq; rfl; rfl; apply w_mvb; rfl; refine w_gdF rfl (by omega) ?_; apply w_gT; rfl; apply w_mvs; rfl; apply w_gT; rfl; apply w_len; rfl; apply w_gT; rfl; apply w_neq; rfl; rfl; apply w_pickFb; rfl; rfl; apply w_done0; refine w_ifdF rfl (by omega) ?_; apply w_skip)
          exact ⟨c', n, ⟨rfl, rfl, rfl, rfl, rfl, trivial⟩, hl3.trans hl4, hc4, hT.next⟩
        | some bb =>
          obtain ⟨rfl, hwn, hw⟩ := hw
          obtain ⟨hT4, rfl, hp4⟩ := hT.get hk12 hr
          have hbl := curK_len k
          have hw' : RSl 1 RByte d4 (.slice wa wn wc) (curK k) := hw
          have hnle := hT.le
          have hb0 : ((curK k)[0]'(by omega)).toNat = (UInt8.ofNat ((k : Int) % 256).toNat).toNat := congrArg UInt8.toNat (List.getElem_replicate ..)
          have hb1 : ((curK k)[255]'(by omega)).toNat = (UInt8.ofNat ((k : Int) % 256).toNat).toNat := congrArg UInt8.toNat (List.getElem_replicate ..)
          (apply w_sq; apply w_reg; apply w_mvi; rfl; apply w_eql; rfl; rfl; apply w_done0; refine w_ifdT rfl (by omega) ?_; apply w_sq; apply w_reg; apply w_mvi; rfl; apply w_add; rfl; rfl; omega; omega; apply w_mvi; rfl; apply w_done0; apply w_sq; apply w_sq; apply w_reg; apply w_mvs; rfl; apply w_len; rfl; apply w_neq; rfl; rfl; apply w_mvb; rfl; refine w_gdF rfl (by omega) ?_; apply w_gT; rfl; apply w_mvs; rfl; apply w_gT; rfl; refine w_idxR (m := 0) (sz := 1) (R := RByte) (by rfl) (by assumption) (by rfl) rfl (by omega) ?_; rintro _ _ _ _ _ rfl; apply w_gT; rfl; apply w_ld; rfl; exact hc_ds0 (by assumption) rfl; apply w_gT; rfl; apply w_mvi; rfl; apply w_gT; rfl; apply w_cvb; rfl; apply w_gT; rfl; apply w_neq; rfl; rfl; apply w_pickFb; rfl; rfl; apply w_mvb; rfl; refine w_gdF rfl (by omega) ?_; apply w_gT; rfl; apply w_mvs; rfl; apply w_gT; rfl; refine w_idxR (sz := 1) (R := RByte) (by rfl) (by assumption) (by rfl) (Int.natCast_add _ 1).symm (by omega) ?_; rintro _ _ _ _ _ rfl; apply w_gT; rfl; apply w_ld; rfl; exact hc_ds0 (by assumption) rfl; apply w_gT; rfl; apply w_mvi; rfl; apply w_gT; rfl; apply w_cvb; rfl; apply w_gT; rfl; apply w_neq; rfl; rfl; apply w_pickFb; rfl; rfl; apply w_done0)
          refine w_ifdF rfl (fun h => h (congrArg (Nat.cast (R := Int)) hb1)) ?_
          (apply w_skip; apply w_sq; apply w_reg; apply w_mvi; rfl; apply w_mv; apply w_lenR; rfl; assumption; apply w_lss; rfl; rfl; apply w_mvb; rfl)
          by_cases el : i < ls.length
          · cases hli : ls[i] with
            | false =>
              (refine w_gdT rfl (by omega) ?_; apply w_gT; rfl; apply w_mv; apply w_gT; rfl; apply w_mvi; rfl; apply w_gT; rfl; refine w_idxR (sz := 1) (R := RBool) (by rfl) (by assumption) (by rfl) rfl (by omega) ?_; rintro _ _ _ _ _ rfl; apply w_gT; rfl; apply w_ld; rfl; exact hc_ds0 (by assumption) rfl; apply w_pickTb; rfl; rfl; apply w_mvb; rfl; apply w_gbF; rfl; (with_reducible assumption); apply w_gF; rfl; apply w_gF; rfl; apply w_gF; rfl; apply w_gF; rfl; apply w_pickFb; rfl; rfl; apply w_done0; apply w_ifF; rfl; apply w_skip)
              exact ⟨c', n + 1, ⟨rfl, rfl, rfl, rfl, rfl, trivial⟩, hl3.trans hl4, hc4, hT4⟩
            | true =>
              (refine w_gdT rfl (by omega) ?_; apply w_gT; rfl; apply w_mv; apply w_gT; rfl; apply w_mvi; rfl; apply w_gT; rfl; refine w_idxR (sz := 1) (R := RBool) (by rfl) (by assumption) (by rfl) rfl (by omega) ?_; rintro _ _ _ _ _ rfl; apply w_gT; rfl; apply w_ld; rfl; exact hc_ds0 (by assumption) rfl; apply w_pickTb; rfl; rfl; apply w_mvb; rfl; apply w_gbT; rfl; (with_reducible assumption); apply w_gT; rfl; apply w_mvp; rfl; apply w_gT; rfl; apply w_mvi; rfl; apply w_gT; rfl)
              obtain ⟨hT5, e5⟩ := hT4.leave hp4
              refine w_callO (h4.cov (k := k) hc4 (hT4.pinB (by omega))) rfl (fun u d5 L5 hl5 ⟨g1, g2⟩ => ?_)
              rw [e5] at g1
              subst g1
              (apply w_gT; rfl; apply w_neq; rfl; rfl; apply w_pickTb; rfl; rfl; apply w_done0; refine w_ifdF rfl (by omega) ?_; apply w_skip)
              exact ⟨_, n + 1, ⟨rfl, rfl, rfl, rfl, rfl, trivial⟩, (hl3.trans hl4).trans hl5, g2, hT5⟩
          · (refine w_gdF rfl (by omega) ?_; apply w_gF; rfl; apply w_gF; rfl; apply w_gF; rfl; apply w_gF; rfl; apply w_pickFb; rfl; rfl; apply w_mvb; rfl; apply w_gF; rfl; apply w_gF; rfl; apply w_gF; rfl; apply w_gF; rfl; apply w_pickFb; rfl; rfl; apply w_done0; apply w_ifF; rfl; apply w_skip)
            exact ⟨c', n + 1, ⟨rfl, rfl, rfl, rfl, rfl, trivial⟩, hl3.trans hl4, hc4, hT4⟩
      · rintro ρ d5 L5 ⟨c5, n5, hs5, hl5, hc5, hT5⟩
        refine gwp_slots _ hs5 ?_
        have hle := hT5.le
        have hsum := hT5.sum
        (apply w_sq; apply w_sq; apply w_reg; apply w_mvp; rfl)
        refine w_readP (A := L5) (B := []) (by rw [List.append_nil]) rfl (h5.cov hc5) ?_
        rw [wr_eq (by omega)]
        (apply w_mvp; rfl)
        refine w_readP (A := L5) (B := []) (by rw [List.append_nil]) rfl (h6.cov hc5) ?_
        rw [wr_eq (by omega)]
        (apply w_add; rfl; rfl; omega; omega; apply w_mvi; rfl; apply w_neq; rfl; rfl; apply w_done0; refine w_ifdF rfl (by omega) ?_; apply w_skip; apply w_sq; apply w_reg; apply w_aloL; intro _ _; apply w_done0; apply w_sq; apply w_reg; apply w_mvp; rfl)
        rename_i sb Ts
        refine w_callP (A := L5) (B := [bx sb Ts [.bool false, .bool false, .bool false, .bool false, .bool false, .bool false, .bool false, .bool false, .bool false, .bool false, .bool false, .bool false]]) (List.perm_append_comm (l₁ := [_])) rfl
          (h7.cov hc5 (hT5.inv.sec_le (by omega))) (fun hv d6 L6 hl6 ⟨e6, hw6⟩ => ⟨d6, bx sb Ts ((List.replicate 12 false).map Value.bool) :: L5, by subst e6; exact Vs.perm (List.perm_append_comm (l₂ := [_])), ?_⟩)
        subst e6
        have hhl : (heldF c5).length = c5.fr.length := by simp [heldF]
        have hfl := hT5.inv.n2
        have hw6' : RSl 1 RInt d6 hv (heldF c5) := hw6
        obtain ⟨ha, hcp, rfl⟩ := hw6'.val
        (apply w_len; rfl; apply w_mvi; rfl; apply w_done0; apply w_block)
        refine w_loopS (α := Nat × List Bool) (fun x => [(1, gv), (2, lv), (7, .pointer (some ⟨b, 0, none⟩)), (8, .int .i64 n5), (9, .int .i64 i), (13, .pointer (some ⟨sb, 0, none⟩)), (103, .slice ha (heldF c5).length hcp), (104, .int .i64 (heldF c5).length), (105, .int .i64 x.1)])
          (fun x d' L' => d' = d6 ∧ L' = bx sb Ts (x.2.map Value.bool) :: L6 ∧ x.1 ≤ (heldF c5).length ∧ Seen (heldF c5) x.1 x.2) (fun x => (heldF c5).length - x.1) (0, List.replicate 12 false) ⟨rfl, rfl, rfl, rfl, rfl, rfl, rfl, rfl, rfl, trivial⟩
          ⟨rfl, rfl, by omega, List.length_replicate, fun s hs hb => by rw [List.getElem_replicate] at hb; cases hb⟩ ?_
        rintro ⟨j, bs⟩ ρ d' L' ⟨rfl, rfl, hj, hseen⟩
        simp only at hj hseen ⊢
        by_cases ej : j < (heldF c5).length
        · obtain ⟨g1, g2⟩ := hT5.inv.held j ej
          by_cases e0 : 0 ≤ (heldF c5)[j]
          · obtain ⟨s, hs⟩ : ∃ s : Nat, (heldF c5)[j] = (s : Int) := ⟨(heldF c5)[j].toNat, by omega⟩
            have hs12 : s < 12 := by omega
            have hbl := hseen.1
            have hbs : bs[s]'(by omega) = false := by
              cases q : bs[s]'(by omega) with
              | false => rfl
              | true =>
                obtain ⟨j', k1, k2⟩ := hseen.2 s (by omega) q
                obtain ⟨k3, k4⟩ := List.getElem?_eq_some_iff.1 k2
                exact absurd (k4.trans hs.symm) (g2 j' k1 e0)
            have hcell : (bs.map Value.bool)[s]? = some (.bool false) := by rw [List.getElem?_map, List.getElem?_eq_getElem (by omega), hbs]; rfl
            have hcell' : (bs.map Value.bool)[0 + s * 1]? = some (.bool false) := by rw [Nat.zero_add, Nat.mul_one]; exact hcell
            (apply w_sq; apply w_reg; apply w_lss; rfl; rfl; apply w_done0; apply w_sq; refine w_ifdT rfl (by omega) ?_; apply w_skip; apply w_sq; apply w_block; apply w_sq; apply w_reg; refine w_idxR (sz := 1) (R := RInt) (by rfl) (by assumption) (by rfl) rfl (by omega) ?_; rintro _ _ _ _ _ ⟨rfl, _, _⟩; apply w_ld; rfl; exact hc_ds0 (by assumption) rfl; apply w_mvi; rfl; apply w_done0; apply w_sq; apply w_sq; apply w_reg; apply w_mvi; rfl; apply w_geq; rfl; rfl; apply w_mvb; rfl; refine w_gdF rfl (by omega) ?_; apply w_gT; rfl; apply w_mvi; rfl; apply w_gT; rfl; apply w_geq; rfl; rfl; apply w_gT; rfl; apply w_mvb; rfl; refine w_gdT rfl (by omega) ?_; apply w_gT; rfl; apply w_mvi; rfl; apply w_gT; rfl)
            refine w_idxa s rfl rfl hs hs12 ?_
            (apply w_gT; rfl; apply w_ld; rfl; exact hc_i 0 rfl (by assumption); apply w_gT; rfl; apply w_pickTb; rfl; rfl; apply w_pickFb; rfl; rfl; apply w_done0; apply w_ifF; rfl; apply w_skip; apply w_sq; apply w_reg; apply w_mvi; rfl; apply w_geq; rfl; rfl; apply w_done0; refine w_ifdT rfl (by omega) ?_; apply w_reg; apply w_mvi; rfl)
            refine w_idxa s rfl rfl hs hs12 ?_
            refine w_stE 0 ((bs.set s true).map Value.bool) rfl rfl rfl rfl (by rw [List.length_map, hbl]; omega) rfl ?_ ?_
            · rw [Nat.zero_add, Nat.mul_one, List.map_set]
              exact patch_set (by rw [List.length_map]; omega)
            (apply w_done0; apply w_reg; apply w_add; rfl; rfl; omega; omega; apply w_mvi; rfl; apply w_done0)
            exact ⟨(j + 1, bs.set s true), by simp only; omega, ⟨rfl, rfl, rfl, rfl, rfl, rfl, rfl, rfl, rfl, trivial⟩, rfl, rfl, ej, seen_step hseen ej hs12 hs⟩
          · (apply w_sq; apply w_reg; apply w_lss; rfl; rfl; apply w_done0; apply w_sq; refine w_ifdT rfl (by omega) ?_; apply w_skip; apply w_sq; apply w_block; apply w_sq; apply w_reg; refine w_idxR (sz := 1) (R := RInt) (by rfl) (by assumption) (by rfl) rfl (by omega) ?_; rintro _ _ _ _ _ ⟨rfl, _, _⟩; apply w_ld; rfl; exact hc_ds0 (by assumption) rfl; apply w_mvi; rfl; apply w_done0; apply w_sq; apply w_sq; apply w_reg; apply w_mvi; rfl; apply w_geq; rfl; rfl; apply w_mvb; rfl; refine w_gdF rfl (by omega) ?_; apply w_gT; rfl; apply w_mvi; rfl; apply w_gT; rfl; apply w_geq; rfl; rfl; apply w_gT; rfl; apply w_mvb; rfl; refine w_gdF rfl (by omega) ?_; apply w_gF; rfl; apply w_gF; rfl; apply w_gF; rfl; apply w_gT; rfl; apply w_pickFb; rfl; rfl; apply w_pickFb; rfl; rfl; apply w_done0; apply w_ifF; rfl; apply w_skip; apply w_sq; apply w_reg; apply w_mvi; rfl; apply w_geq; rfl; rfl; apply w_done0; refine w_ifdF rfl (by omega) ?_; apply w_skip; apply w_reg; apply w_add; rfl; rfl; omega; omega; apply w_mvi; rfl; apply w_done0)
            exact ⟨(j + 1, bs), by simp only; omega, ⟨rfl, rfl, rfl, rfl, rfl, rfl, rfl, rfl, rfl, trivial⟩, rfl, rfl, ej, seen_next hseen⟩
        · have hd1 : Vs d' (bx sb Ts (bs.map Value.bool) :: L6) d' L6 := Vs.drop (List.sublist_cons_self _ _)
          (apply w_sq; apply w_reg)
          refine w_vs d' L6 hd1 ?_
          (apply w_lss; rfl; rfl; apply w_done0; apply w_sq; refine w_ifdF rfl (by omega) ?_; apply w_exit; apply w_reg; apply w_mvi; rfl; apply w_add; rfl; rfl; omega; omega; apply w_mvi; rfl; apply w_done0)
          exact ⟨(i + 1, n5, c5), by simp only; omega, ⟨rfl, rfl, rfl, rfl, rfl, trivial⟩, hl5.trans hl6, by simp only; omega, by simp only; omega, hc5.mono hl6, hT5⟩
    · (apply w_sq; apply w_sq; apply w_reg; apply w_mvi; rfl; apply w_mv; apply w_lenR; rfl; assumption; apply w_lss; rfl; rfl; apply w_mvb; rfl; refine w_gdT rfl (by omega) ?_; apply w_gT; rfl; apply w_mvi; rfl; apply w_gT; rfl; apply w_lss; rfl; rfl; apply w_pickTb; rfl; rfl; apply w_done0; refine w_ifdF rfl (by omega) ?_; apply w_exit; apply w_sq; apply w_reg; apply w_mvb; rfl; apply w_done0; apply w_ret)
      exact fin1 rfl (List.nil_sublist _) rfl
  · (apply w_sq; apply w_sq; apply w_reg; apply w_mvi; rfl; apply w_mv; apply w_lenR; rfl; assumption; apply w_lss; rfl; rfl; apply w_mvb; rfl; refine w_gdF rfl (by omega) ?_; apply w_gF; rfl; apply w_gF; rfl; apply w_pickFb; rfl; rfl; apply w_done0; apply w_ifF; rfl; apply w_exit; apply w_sq; apply w_reg; apply w_mvb; rfl; apply w_done0; apply w_ret)
    exact fin1 rfl (List.nil_sublist _) rfl
end Go.Gk.Cch
end

section
namespace Go.Gk.Chn
open Go Go.Gk Go.Gk.Dev Go.Gk.Cch Go.Gk.Pgr Go.Gk.Node
attribute [local irreducible] gwp gws xwp

def g_thimblelaw21_ChainFull (f_thimblelaw21_works f_thimblelaw21_Made f_chain_Put f_chain_Pages f_pager_Pager_Free f_chain_Get : Nat) : GFun :=
 ⟨93, [(.tmp 4)],
 (.seq
 (.reg false (.op false ⟨(some 4), none, (.mv (.const (.bool false)))⟩ .done))
 (.seq (.seq
 (.reg false (.op false ⟨(some 11), none, (.call f_thimblelaw21_works [])⟩
  (.op false ⟨(some 12), none, (.un .not (.tmp 11))⟩ .done))) (.cond (.tmp 12)
 (.seq
 (.reg false (.op false ⟨(some 4), none, (.mv (.const (.bool false)))⟩ .done)) .ret) .skip))
 (.seq
 (.reg false (.op false ⟨(some 13), none, (.mv (.tmp 0))⟩
  (.op false ⟨(some 14), none, (.cvi .u64 (.tmp 13))⟩
  (.op false ⟨(some 15), none, (.bin .rem (.tmp 14) (.const (.int .u64 10)))⟩
  (.op false ⟨(some 16), none, (.cvi .i64 (.tmp 15))⟩
  (.op false ⟨(some 17), none, (.bin .add (.const (.int .i64 1)) (.tmp 16))⟩
  (.op false ⟨(some 5), none, (.mv (.tmp 17))⟩ .done)))))))
 (.seq
 (.reg false (.op false ⟨(some 18), none, (.mv (.tmp 5))⟩
  (.op false ⟨(some 19), none, (.call f_thimblelaw21_Made [(.tmp 18)])⟩
  (.op false ⟨(some 6), none, (.mv (.tmp 19))⟩ .done))))
 (.seq (.seq
 (.reg false (.op false ⟨(some 20), none, (.mv (.tmp 6))⟩
  (.op false ⟨(some 21), none, (.eqp false (.tmp 20) (.const (.pointer none)))⟩ .done))) (.cond (.tmp 21)
 (.seq
 (.reg false (.op false ⟨(some 4), none, (.mv (.const (.bool false)))⟩ .done)) .ret) .skip))
 (.seq (.seq
 (.reg false (.op false ⟨(some 22), none, (.mv (.tmp 1))⟩
  (.op false ⟨(some 23), none, (.len (.tmp 22))⟩
  (.op false ⟨(some 24), none, (.bin .gtr (.tmp 23) (.const (.int .i64 3000)))⟩ .done)))) (.cond (.tmp 24)
 (.reg false (.op false ⟨(some 25), none, (.mv (.tmp 1))⟩
  (.op false ⟨(some 26), none, (.sl 1 (.tmp 25) none (some (.const (.int .i64 3000))) none)⟩
  (.op false ⟨(some 1), none, (.mv (.tmp 26))⟩ .done)))) .skip))
 (.seq
 (.reg false (.op false ⟨(some 28), none, (.mv (.tmp 6))⟩
  (.op false ⟨(some 29), none, (.nilc (.tmp 28))⟩
  (.op false ⟨(some 30), none, (.fld 0 (.tmp 29))⟩
  (.op false ⟨(some 31), none, (.ld none (.tmp 30))⟩
  (.op false ⟨(some 32), none, (.mv (.tmp 1))⟩
  (.op false ⟨(some 33), none, (.call f_chain_Put [(.tmp 31), (.tmp 32)])⟩
  (.op false ⟨(some 27), none, (.mv (.tmp 33))⟩
  (.op false ⟨(some 34), none, (.ext (.tmp 27) 0)⟩
  (.op false ⟨(some 35), none, (.ext (.tmp 27) 1)⟩
  (.op false ⟨(some 7), none, (.mv (.tmp 34))⟩
  (.op false ⟨(some 8), none, (.mv (.tmp 35))⟩ .done))))))))))))
 (.seq (.seq
 (.reg false (.op false ⟨(some 36), none, (.mv (.tmp 1))⟩
  (.op false ⟨(some 37), none, (.len (.tmp 36))⟩
  (.op false ⟨(some 38), none, (.call f_chain_Pages [(.tmp 37)])⟩
  (.op false ⟨(some 39), none, (.mv (.tmp 5))⟩
  (.op false ⟨(some 40), none, (.bin .gtr (.tmp 38) (.tmp 39))⟩ .done)))))) (.cond (.tmp 40)
 (.seq
 (.reg false (.op false ⟨(some 41), none, (.mv (.tmp 8))⟩
  (.op false ⟨(some 42), none, (.bin .eql (.tmp 41) (.const (.int .i64 190)))⟩
  (.op false ⟨(some 43), none, (.mv (.tmp 42))⟩
  (.op false ⟨(some 44), (some (43, true)), (.mv (.tmp 7))⟩
  (.op false ⟨(some 45), (some (43, true)), (.bin .eql (.tmp 44) (.const (.int .i64 0)))⟩
  (.op false ⟨(some 46), none, (.pick (.tmp 43) (.tmp 45) (.const (.bool false)))⟩
  (.op false ⟨(some 47), none, (.mv (.tmp 46))⟩
  (.op false ⟨(some 48), (some (47, true)), (.mv (.tmp 6))⟩
  (.op false ⟨(some 49), (some (47, true)), (.nilc (.tmp 48))⟩
  (.op false ⟨(some 50), (some (47, true)), (.fld 0 (.tmp 49))⟩
  (.op false ⟨(some 51), (some (47, true)), (.ld none (.tmp 50))⟩
  (.op false ⟨(some 52), (some (47, true)), (.call f_pager_Pager_Free [(.tmp 51)])⟩
  (.op false ⟨(some 53), (some (47, true)), (.mv (.tmp 5))⟩
  (.op false ⟨(some 54), (some (47, true)), (.bin .eql (.tmp 52) (.tmp 53))⟩
  (.op false ⟨(some 55), none, (.pick (.tmp 47) (.tmp 54) (.const (.bool false)))⟩
  (.op false ⟨(some 4), none, (.mv (.tmp 55))⟩ .done))))))))))))))))) .ret) .skip))
 (.seq
 (.reg false (.op false ⟨(some 57), none, (.mv (.tmp 6))⟩
  (.op false ⟨(some 58), none, (.nilc (.tmp 57))⟩
  (.op false ⟨(some 59), none, (.fld 0 (.tmp 58))⟩
  (.op false ⟨(some 60), none, (.ld none (.tmp 59))⟩
  (.op false ⟨(some 61), none, (.mv (.tmp 7))⟩
  (.op false ⟨(some 62), none, (.mv (.tmp 1))⟩
  (.op false ⟨(some 63), none, (.len (.tmp 62))⟩
  (.op false ⟨(some 64), none, (.call f_chain_Get [(.tmp 60), (.tmp 61), (.tmp 63)])⟩
  (.op false ⟨(some 56), none, (.mv (.tmp 64))⟩
  (.op false ⟨(some 65), none, (.ext (.tmp 56) 0)⟩
  (.op false ⟨(some 66), none, (.ext (.tmp 56) 1)⟩
  (.op false ⟨(some 9), none, (.mv (.tmp 65))⟩
  (.op false ⟨(some 10), none, (.mv (.tmp 66))⟩ .done))))))))))))))
 (.seq
 (.reg false (.op false ⟨(some 67), none, (.mv (.tmp 8))⟩
  (.op false ⟨(some 68), none, (.bin .eql (.tmp 67) (.const (.int .i64 0)))⟩
  (.op false ⟨(some 69), none, (.mv (.tmp 68))⟩
  (.op false ⟨(some 70), (some (69, true)), (.mv (.tmp 6))⟩
  (.op false ⟨(some 71), (some (69, true)), (.nilc (.tmp 70))⟩
  (.op false ⟨(some 72), (some (69, true)), (.fld 0 (.tmp 71))⟩
  (.op false ⟨(some 73), (some (69, true)), (.ld none (.tmp 72))⟩
  (.op false ⟨(some 74), (some (69, true)), (.call f_pager_Pager_Free [(.tmp 73)])⟩
  (.op false ⟨(some 75), (some (69, true)), (.mv (.tmp 5))⟩
  (.op false ⟨(some 76), (some (69, true)), (.mv (.tmp 1))⟩
  (.op false ⟨(some 77), (some (69, true)), (.len (.tmp 76))⟩
  (.op false ⟨(some 78), (some (69, true)), (.call f_chain_Pages [(.tmp 77)])⟩
  (.op false ⟨(some 79), (some (69, true)), (.bin .sub (.tmp 75) (.tmp 78))⟩
  (.op false ⟨(some 80), (some (69, true)), (.bin .eql (.tmp 74) (.tmp 79))⟩
  (.op false ⟨(some 81), none, (.pick (.tmp 69) (.tmp 80) (.const (.bool false)))⟩
  (.op false ⟨(some 82), none, (.mv (.tmp 81))⟩
  (.op false ⟨(some 83), (some (82, true)), (.mv (.tmp 10))⟩
  (.op false ⟨(some 84), (some (82, true)), (.bin .eql (.tmp 83) (.const (.int .i64 0)))⟩
  (.op false ⟨(some 85), none, (.pick (.tmp 82) (.tmp 84) (.const (.bool false)))⟩
  (.op false ⟨(some 86), none, (.mv (.tmp 85))⟩
  (.op false ⟨(some 87), (some (86, true)), (.mv (.tmp 9))⟩
  (.op false ⟨(some 88), (some (86, true)), (.b2s (.tmp 87))⟩
  (.op false ⟨(some 89), (some (86, true)), (.mv (.tmp 1))⟩
  (.op false ⟨(some 90), (some (86, true)), (.b2s (.tmp 89))⟩
  (.op false ⟨(some 91), (some (86, true)), (.bin .eql (.tmp 88) (.tmp 90))⟩
  (.op false ⟨(some 92), none, (.pick (.tmp 86) (.tmp 91) (.const (.bool false)))⟩
  (.op false ⟨(some 4), none, (.mv (.tmp 92))⟩ .done)))))))))))))))))))))))))))) .ret))))))))))⟩

set_option maxRecDepth 4000 in
set_option maxHeartbeats 1000000 in
theorem chainFull {P : Program} {f f1 f2 f3 f4 f5 f6 : FuncId} (hd : dec P f = some (g_thimblelaw21_ChainFull f1 f2 f3 f4 f5 f6)) (h1 : CWks P f1) (h2 : Made21Ok P f2) (h3 : CPutOk P f3) (h4 : PagesOk P f4) (h5 : FreeOk P f5) (h6 : CGetsOk P f6)
    {d : PHeap} {pg : Int} {bv : Value} {b : List UInt8} (hb : RBytes d bv b) : GCall P f [.int .i64 pg, bv] d [] (Ret fun r _ _ => r = .bool true) := by
  have hbl := hb.len_le
  refine GCall_of hd (Nat.le_of_ble_eq_true rfl) ?_
  show gwp P _ _ _ _ _
  (apply w_sq; apply w_reg; apply w_mvb; rfl; apply w_done0; apply w_sq; apply w_sq; apply w_reg)
  refine w_callA (A := []) (B := []) rfl rfl h1 (fun u d1 L1 hl1 ⟨e1, e2⟩ => ?_)
  subst e1; subst e2
  obtain ⟨m0, hm, hm12⟩ := nat_rem pg 10 (by omega)
  replace hm : pg % 18446744073709551616 % 10 = (m0 : Int) := hm
  obtain ⟨n, hn⟩ : ∃ n, n = 1 + m0 := ⟨_, rfl⟩
  have hn1 : 1 ≤ n := by omega
  have hn2 : n ≤ 10 := by omega
  have hni : 1 + pg % 18446744073709551616 % 10 = (n : Int) := by omega
  (apply w_not; rfl; apply w_done0; apply w_ifF; rfl; apply w_skip; apply w_sq; apply w_reg; apply w_mvi; rfl; apply w_cviu; rfl; apply w_rem; rfl; rfl; omega; omega; apply w_cvi64; rfl; omega; omega; apply w_add; rfl; rfl; omega; omega; apply w_mvi; rfl; apply w_done0; apply w_sq; apply w_reg; apply w_mvi; rfl)
  rw [hni]
  refine w_callO (L := []) (h2 (n := n) (by omega) (by omega)) rfl (fun u d2 L2 hl2 ⟨bb, bd, bp, q1, q2, hp⟩ => ?_)
  subst q1
  have hb2 := RSl.mono (R := RByte) mono_byte hb (hl1.trans hl2)
  by_cases hbig : 3000 < b.length
  · (apply w_mvp; rfl; apply w_done0; apply w_sq; apply w_sq; apply w_reg; apply w_mvp; rfl; apply w_eqpS; rfl; rfl; apply w_done0; apply w_ifF; rfl; apply w_skip; apply w_sq; apply w_sq; apply w_reg; apply w_mv; apply w_lenR; rfl; assumption; apply w_gtr; rfl; rfl; apply w_done0; refine w_ifdT rfl (by omega) ?_; apply w_reg; apply w_mv)
    refine w_slR (n := 3000) rfl hb2 rfl (by omega) (fun bv' hb' => ?_)
    have hb3 : (b.take 3000).length ≤ 3000 := by rw [List.length_take]; omega
    generalize b.take 3000 = B at hb' hb3
    (apply w_mv; apply w_done0; apply w_sq; apply w_reg; apply w_mvp; rfl; apply w_nilc; rfl; apply w_fld; rfl; apply w_ld; rfl; exact hc_d (by assumption); apply w_mv)
    refine w_callO (h3 hp hb' (by omega)) rfl (fun u d3 L3 hl3 ⟨_, q3, hp3⟩ => ?_)
    have hq3 := q2.mono hl3
    have hB3 := RSl.mono (R := RByte) mono_byte hb' hl3
    by_cases hr : pagesN B.length ≤ n
    · obtain ⟨t, l, e, hC, hK, hF, hL, hO⟩ := cput_room (s := pdN n) (good_pdN hn1 (by omega)) (b := B) (by rw [free_pdN]; exact hr)
      rw [e] at q3 hp3
      replace q3 : u = .tuple #[.int .i64 (l.getD 0 0), .int .i64 0] := q3
      subst q3
      rw [free_pdN] at hF
      replace hp3 : Pg d3 t (.pointer (some ⟨bd, 0, none⟩)) (.pointer (some ⟨bp, 0, none⟩)) L3 := hp3
      (apply w_mvu; rfl; apply w_ext; rfl; rfl; apply w_ext; rfl; rfl; apply w_mvi; rfl; apply w_mvi; rfl; apply w_done0; apply w_sq; apply w_sq; apply w_reg; apply w_mv; apply w_lenR; rfl; assumption)
      refine w_call0 rfl (h4 (n := B.length) (by omega)) (fun u d5 L5 _ ⟨z1, z2, z3⟩ => ?_)
      subst z1; subst z2; subst z3
      rw [List.nil_append]
      (apply w_mvi; rfl; apply w_gtr; rfl; rfl; apply w_done0; refine w_ifdF rfl (by omega) ?_; apply w_skip; apply w_sq; apply w_reg; apply w_mvp; rfl; apply w_nilc; rfl; apply w_fld; rfl; apply w_ld; rfl; exact hc_d (by assumption); apply w_mvi; rfl; apply w_mv; apply w_lenR; rfl; assumption)
      refine w_callO (h6 (k := l.getD 0 0) (size := B.length) hp3) rfl (fun u d6 L6 hl6 ⟨_, w, tc, q4, hw, hp6⟩ => ?_)
      rw [readF_chain hC (by omega)] at q4 hw
      replace q4 : u = .tuple #[w, .int .i64 0] := q4
      subst q4
      replace hw : RBytes d6 w B := hw
      have hq6 := hq3.mono hl6
      have hB6 := RSl.mono (R := RByte) mono_byte hB3 hl6
      have hfr : GRead P f5 [.pointer (some ⟨bp, 0, none⟩)] d6 L6 (.int .i64 (t.free : Nat)) := by have q := h5 hp6; exact q
      (apply w_mvu; rfl; apply w_ext; rfl; rfl; apply w_ext; rfl; rfl; apply w_mv; apply w_mvi; rfl; apply w_done0; apply w_sq; apply w_reg; apply w_mvi; rfl; apply w_eql; rfl; rfl; apply w_mvb; rfl; refine w_gdT rfl (by omega) ?_; apply w_gT; rfl; apply w_mvp; rfl; apply w_gT; rfl; apply w_nilc; rfl; apply w_gT; rfl; apply w_fld; rfl; apply w_gT; rfl; apply w_ld; rfl; exact hc_d (by assumption); apply w_gT; rfl)
      refine w_read (A := L6) (B := []) (List.append_nil _).symm rfl hfr ?_
      (apply w_gT; rfl; apply w_mvi; rfl; apply w_gT; rfl; apply w_mv; apply w_gT; rfl; apply w_lenR; rfl; assumption; apply w_gT; rfl)
      refine w_call0 rfl (h4 (n := B.length) (by omega)) (fun u d7 L7 _ ⟨z1, z2, z3⟩ => ?_)
      subst z1; subst z2; subst z3
      rw [List.nil_append]
      (apply w_gT; rfl; apply w_sub; rfl; rfl; omega; omega; apply w_gT; rfl; apply w_eql; rfl; rfl; apply w_pickTb; rfl; rfl; apply w_mvb; rfl; refine w_gdT rfl (by omega) ?_; apply w_gT; rfl; apply w_mvi; rfl; apply w_gT; rfl; apply w_eql; rfl; rfl; apply w_pickTb; rfl; rfl; apply w_mvb; rfl; refine w_gdT rfl (by omega) ?_; apply w_gT; rfl; apply w_mv; apply w_gT; rfl; apply w_b2sR; rfl; assumption; apply w_gT; rfl; apply w_mv; apply w_gT; rfl; apply w_b2sR; rfl; assumption; apply w_gT; rfl; apply w_seq; rfl; rfl; apply w_pickTb; rfl; rfl; apply w_mvb; rfl; apply w_done0; apply w_ret)
      exact fin1 (v := .bool (decide (B = B))) rfl (List.Sublist.refl _) (congrArg Value.bool (decide_eq_true rfl))
    · obtain ⟨t, e, hF⟩ := cput_full (s := pdN n) (b := B) (by rw [free_pdN]; omega)
      rw [e] at q3 hp3
      replace q3 : u = .tuple #[.int .i64 0, .int .i64 190] := q3
      subst q3
      rw [free_pdN] at hF
      have hfr : GRead P f5 [.pointer (some ⟨bp, 0, none⟩)] d3 L3 (.int .i64 n) := by
        have q := h5 hp3
        rw [show (t, (0 : Int), (190 : Int)).1.free = n from hF] at q; exact q
      (apply w_mvu; rfl; apply w_ext; rfl; rfl; apply w_ext; rfl; rfl; apply w_mvi; rfl; apply w_mvi; rfl; apply w_done0; apply w_sq; apply w_sq; apply w_reg; apply w_mv; apply w_lenR; rfl; assumption)
      refine w_call0 rfl (h4 (n := B.length) (by omega)) (fun u d5 L5 _ ⟨z1, z2, z3⟩ => ?_)
      subst z1; subst z2; subst z3
      rw [List.nil_append]
      (apply w_mvi; rfl; apply w_gtr; rfl; rfl; apply w_done0; refine w_ifdT rfl (by omega) ?_; apply w_sq; apply w_reg; apply w_mvi; rfl; apply w_eql; rfl; rfl; apply w_mvb; rfl; refine w_gdT rfl (by omega) ?_; apply w_gT; rfl; apply w_mvi; rfl; apply w_gT; rfl; apply w_eql; rfl; rfl; apply w_pickTb; rfl; rfl; apply w_mvb; rfl; refine w_gdT rfl (by omega) ?_; apply w_gT; rfl; apply w_mvp; rfl; apply w_gT; rfl; apply w_nilc; rfl; apply w_gT; rfl; apply w_fld; rfl; apply w_gT; rfl; apply w_ld; rfl; exact hc_d (by assumption); apply w_gT; rfl)
      refine w_read (A := L3) (B := []) (List.append_nil _).symm rfl hfr ?_
      (apply w_gT; rfl; apply w_mvi; rfl; apply w_gT; rfl; apply w_eql; rfl; rfl; apply w_pickTb; rfl; rfl; apply w_mvb; rfl; apply w_done0; apply w_ret)
      exact fin1 (v := .bool (decide ((n : Int) = (n : Int)))) rfl (List.Sublist.refl _) (congrArg Value.bool (decide_eq_true rfl))
  · have hb3 : b.length ≤ 3000 := by omega
    (apply w_mvp; rfl; apply w_done0; apply w_sq; apply w_sq; apply w_reg; apply w_mvp; rfl; apply w_eqpS; rfl; rfl; apply w_done0; apply w_ifF; rfl; apply w_skip; apply w_sq; apply w_sq; apply w_reg; apply w_mv; apply w_lenR; rfl; assumption; apply w_gtr; rfl; rfl; apply w_done0; refine w_ifdF rfl (by omega) ?_; apply w_skip; apply w_sq; apply w_reg; apply w_mvp; rfl; apply w_nilc; rfl; apply w_fld; rfl; apply w_ld; rfl; exact hc_d (by assumption); apply w_mv)
    refine w_callO (h3 hp hb2 (by omega)) rfl (fun u d3 L3 hl3 ⟨_, q3, hp3⟩ => ?_)
    have hq3 := q2.mono hl3
    have hB3 := RSl.mono (R := RByte) mono_byte hb2 hl3
    by_cases hr : pagesN b.length ≤ n
    · obtain ⟨t, l, e, hC, hK, hF, hL, hO⟩ := cput_room (s := pdN n) (good_pdN hn1 (by omega)) (b := b) (by rw [free_pdN]; exact hr)
      rw [e] at q3 hp3
      replace q3 : u = .tuple #[.int .i64 (l.getD 0 0), .int .i64 0] := q3
      subst q3
      rw [free_pdN] at hF
      replace hp3 : Pg d3 t (.pointer (some ⟨bd, 0, none⟩)) (.pointer (some ⟨bp, 0, none⟩)) L3 := hp3
      (apply w_mvu; rfl; apply w_ext; rfl; rfl; apply w_ext; rfl; rfl; apply w_mvi; rfl; apply w_mvi; rfl; apply w_done0; apply w_sq; apply w_sq; apply w_reg; apply w_mv; apply w_lenR; rfl; assumption)
      refine w_call0 rfl (h4 (n := b.length) (by omega)) (fun u d5 L5 _ ⟨z1, z2, z3⟩ => ?_)
      subst z1; subst z2; subst z3
      rw [List.nil_append]
      (apply w_mvi; rfl; apply w_gtr; rfl; rfl; apply w_done0; refine w_ifdF rfl (by omega) ?_; apply w_skip; apply w_sq; apply w_reg; apply w_mvp; rfl; apply w_nilc; rfl; apply w_fld; rfl; apply w_ld; rfl; exact hc_d (by assumption); apply w_mvi; rfl; apply w_mv; apply w_lenR; rfl; assumption)
      refine w_callO (h6 (k := l.getD 0 0) (size := b.length) hp3) rfl (fun u d6 L6 hl6 ⟨_, w, tc, q4, hw, hp6⟩ => ?_)
      rw [readF_chain hC (by omega)] at q4 hw
      replace q4 : u = .tuple #[w, .int .i64 0] := q4
      subst q4
      replace hw : RBytes d6 w b := hw
      have hq6 := hq3.mono hl6
      have hB6 := RSl.mono (R := RByte) mono_byte hB3 hl6
      have hfr : GRead P f5 [.pointer (some ⟨bp, 0, none⟩)] d6 L6 (.int .i64 (t.free : Nat)) := by have q := h5 hp6; exact q
      (apply w_mvu; rfl; apply w_ext; rfl; rfl; apply w_ext; rfl; rfl; apply w_mv; apply w_mvi; rfl; apply w_done0; apply w_sq; apply w_reg; apply w_mvi; rfl; apply w_eql; rfl; rfl; apply w_mvb; rfl; refine w_gdT rfl (by omega) ?_; apply w_gT; rfl; apply w_mvp; rfl; apply w_gT; rfl; apply w_nilc; rfl; apply w_gT; rfl; apply w_fld; rfl; apply w_gT; rfl; apply w_ld; rfl; exact hc_d (by assumption); apply w_gT; rfl)
      refine w_read (A := L6) (B := []) (List.append_nil _).symm rfl hfr ?_
      (apply w_gT; rfl; apply w_mvi; rfl; apply w_gT; rfl; apply w_mv; apply w_gT; rfl; apply w_lenR; rfl; assumption; apply w_gT; rfl)
      refine w_call0 rfl (h4 (n := b.length) (by omega)) (fun u d7 L7 _ ⟨z1, z2, z3⟩ => ?_)
      subst z1; subst z2; subst z3
      rw [List.nil_append]
      (apply w_gT; rfl; apply w_sub; rfl; rfl; omega; omega; apply w_gT; rfl; apply w_eql; rfl; rfl; apply w_pickTb; rfl; rfl; apply w_mvb; rfl; refine w_gdT rfl (by omega) ?_; apply w_gT; rfl; apply w_mvi; rfl; apply w_gT; rfl; apply w_eql; rfl; rfl; apply w_pickTb; rfl; rfl; apply w_mvb; rfl; refine w_gdT rfl (by omega) ?_; apply w_gT; rfl; apply w_mv; apply w_gT; rfl; apply w_b2sR; rfl; assumption; apply w_gT; rfl; apply w_mv; apply w_gT; rfl; apply w_b2sR; rfl; assumption; apply w_gT; rfl; apply w_seq; rfl; rfl; apply w_pickTb; rfl; rfl; apply w_mvb; rfl; apply w_done0; apply w_ret)
      exact fin1 (v := .bool (decide (b = b))) rfl (List.Sublist.refl _) (congrArg Value.bool (decide_eq_true rfl))
    · obtain ⟨t, e, hF⟩ := cput_full (s := pdN n) (b := b) (by rw [free_pdN]; omega)
      rw [e] at q3 hp3
      replace q3 : u = .tuple #[.int .i64 0, .int .i64 190] := q3
      subst q3
      rw [free_pdN] at hF
      have hfr : GRead P f5 [.pointer (some ⟨bp, 0, none⟩)] d3 L3 (.int .i64 n) := by
        have q := h5 hp3
        rw [show (t, (0 : Int), (190 : Int)).1.free = n from hF] at q; exact q
      (apply w_mvu; rfl; apply w_ext; rfl; rfl; apply w_ext; rfl; rfl; apply w_mvi; rfl; apply w_mvi; rfl; apply w_done0; apply w_sq; apply w_sq; apply w_reg; apply w_mv; apply w_lenR; rfl; assumption)
      refine w_call0 rfl (h4 (n := b.length) (by omega)) (fun u d5 L5 _ ⟨z1, z2, z3⟩ => ?_)
      subst z1; subst z2; subst z3
      rw [List.nil_append]
      (apply w_mvi; rfl; apply w_gtr; rfl; rfl; apply w_done0; refine w_ifdT rfl (by omega) ?_; apply w_sq; apply w_reg; apply w_mvi; rfl; apply w_eql; rfl; rfl; apply w_mvb; rfl; refine w_gdT rfl (by omega) ?_; apply w_gT; rfl; apply w_mvi; rfl; apply w_gT; rfl; apply w_eql; rfl; rfl; apply w_pickTb; rfl; rfl; apply w_mvb; rfl; refine w_gdT rfl (by omega) ?_; apply w_gT; rfl; apply w_mvp; rfl; apply w_gT; rfl; apply w_nilc; rfl; apply w_gT; rfl; apply w_fld; rfl; apply w_gT; rfl; apply w_ld; rfl; exact hc_d (by assumption); apply w_gT; rfl)
      refine w_read (A := L3) (B := []) (List.append_nil _).symm rfl hfr ?_
      (apply w_gT; rfl; apply w_mvi; rfl; apply w_gT; rfl; apply w_eql; rfl; rfl; apply w_pickTb; rfl; rfl; apply w_mvb; rfl; apply w_done0; apply w_ret)
      exact fin1 (v := .bool (decide ((n : Int) = (n : Int)))) rfl (List.Sublist.refl _) (congrArg Value.bool (decide_eq_true rfl))
end Go.Gk.Chn
end
