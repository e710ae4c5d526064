/-
  Our own texts, one behind the other: GkH9 GkC6 GkC7 GkHP GkHB.
-/
import Derived.Test.YtpkcbopokjffhaaPkF
section
namespace Go.Gk.Chn
open Go Go.Gk Go.Gk.Dev Go.Gk.Cch Go.Gk.Pgr Go.Gk.Node
attribute [local irreducible] gwp gws xwp

theorem readL_tc {s : PD} {tc size n : Nat} : ∀ {m : Nat} {k : Int} {l : List Int} {out : List UInt8}, readL { s with tc := tc } size n k l out m = readL s size n k l out m
  | 0, _, _, _ => rfl
  | m + 1, k, l, out => by
    rw [readL, readL]
    have hl : liveK { s with tc := tc } k = liveK s k := rfl
    have hb : PD.bytes { s with tc := tc } k = s.bytes k := rfl
    simp only [hl, hb]
    rw [readL_tc]
theorem readF_tc {s : PD} {tc : Nat} {k size : Int} : readF { s with tc := tc } k size = readF s k size := by
  unfold readF; rw [readL_tc]
theorem good_pdN {n : Nat} (h1 : 1 ≤ n) (h2 : n ≤ 8000) : Pgr.Good (pdN n) := Good.new h1 (by rw [List.length_replicate]; omega) (by rw [List.length_replicate]; omega)
theorem free_pdN (n : Nat) : (pdN n).free = n := by
  show (List.replicate n (0 : Int)).countP (· == 0) = n
  rw [List.countP_replicate]; simp
theorem readF_short {s : PD} {b : List UInt8} {l : List Int} (h : Chain s b l) (hl : 2 ≤ l.length) {n : Nat} (hn : n ≤ 254) : readF s (l.getD 0 0) n = ([], [], 200) := by
  unfold readF
  have hp : pagesN n = 1 := by unfold pagesN; omega
  rw [if_pos (by omega), Int.toNat_natCast, hp, getD_at (by omega), readL, if_pos (h.live 0 (by omega)), h.pg 0 (by omega), getD_at (show 0 + 1 < l.length by omega)]
  have hr := h.rng _ (List.getElem_mem (show 0 + 1 < l.length by omega))
  have hlk := link_page (x := l[0 + 1]) (c := chunkF b 0) hr.1 (by omega)
  rw [if_neg]
  intro q
  have : linkF (pageF l[0 + 1] (chunkF b 0)) = 65535 := by rw [q]; rfl
  omega
def CWks (P : Program) (f : FuncId) : Prop := ∀ {d : PHeap}, GCall P f [] d [] (Ret fun r d' L' => r = .bool true ∧ L' = [])
def g_thimblelaw21_works (f_thimblelaw21_Made f_chain_Put f_chain_Get f_pager_Pager_Free f_chain_Pages : Nat) : GFun :=
 ⟨69, [(.tmp 0)],
 (.seq
 (.reg false (.op false ⟨(some 0), none, (.mv (.const (.bool false)))⟩ .done))
 (.seq
 (.reg false (.op false ⟨(some 8), none, (.call f_thimblelaw21_Made [(.const (.int .i64 5))])⟩
  (.op false ⟨(some 1), none, (.mv (.tmp 8))⟩ .done)))
 (.seq (.seq
 (.reg false (.op false ⟨(some 9), none, (.mv (.tmp 1))⟩
  (.op false ⟨(some 10), none, (.eqp false (.tmp 9) (.const (.pointer none)))⟩ .done))) (.cond (.tmp 10)
 (.seq
 (.reg false (.op false ⟨(some 0), none, (.mv (.const (.bool false)))⟩ .done)) .ret) .skip))
 (.seq
 (.reg true (.op true ⟨(some 12), none, (.mv (.tmp 1))⟩
  (.op true ⟨(some 13), none, (.nilc (.tmp 12))⟩
  (.op true ⟨(some 14), none, (.fld 0 (.tmp 13))⟩
  (.op true ⟨(some 15), none, (.ld none (.tmp 14))⟩
  (.op false ⟨(some 16), none, (.mks 1 1 [(.int .u8 0)] (.const (.int .i64 300)) (.const (.int .i64 300)))⟩
  (.op false ⟨(some 17), none, (.call f_chain_Put [(.tmp 15), (.tmp 16)])⟩
  (.op true ⟨(some 11), none, (.mv (.tmp 17))⟩
  (.op true ⟨(some 18), none, (.ext (.tmp 11) 0)⟩
  (.op true ⟨(some 19), none, (.ext (.tmp 11) 1)⟩
  (.op true ⟨(some 2), none, (.mv (.tmp 18))⟩
  (.op true ⟨(some 3), none, (.mv (.tmp 19))⟩ .done))))))))))))
 (.seq
 (.reg false (.op false ⟨(some 21), none, (.mv (.tmp 1))⟩
  (.op false ⟨(some 22), none, (.nilc (.tmp 21))⟩
  (.op false ⟨(some 23), none, (.fld 0 (.tmp 22))⟩
  (.op false ⟨(some 24), none, (.ld none (.tmp 23))⟩
  (.op false ⟨(some 25), none, (.mv (.tmp 2))⟩
  (.op false ⟨(some 26), none, (.call f_chain_Get [(.tmp 24), (.tmp 25), (.const (.int .i64 300))])⟩
  (.op false ⟨(some 20), none, (.mv (.tmp 26))⟩
  (.op false ⟨(some 27), none, (.ext (.tmp 20) 0)⟩
  (.op false ⟨(some 28), none, (.ext (.tmp 20) 1)⟩
  (.op false ⟨(some 4), none, (.mv (.tmp 27))⟩
  (.op false ⟨(some 5), none, (.mv (.tmp 28))⟩ .done))))))))))))
 (.seq
 (.reg false (.op false ⟨(some 30), none, (.mv (.tmp 1))⟩
  (.op false ⟨(some 31), none, (.nilc (.tmp 30))⟩
  (.op false ⟨(some 32), none, (.fld 0 (.tmp 31))⟩
  (.op false ⟨(some 33), none, (.ld none (.tmp 32))⟩
  (.op false ⟨(some 34), none, (.mv (.tmp 2))⟩
  (.op false ⟨(some 35), none, (.call f_chain_Get [(.tmp 33), (.tmp 34), (.const (.int .i64 200))])⟩
  (.op false ⟨(some 29), none, (.mv (.tmp 35))⟩
  (.op false ⟨(some 36), none, (.ext (.tmp 29) 0)⟩
  (.op false ⟨(some 37), none, (.ext (.tmp 29) 1)⟩
  (.op false ⟨(some 6), none, (.mv (.tmp 36))⟩
  (.op false ⟨(some 7), none, (.mv (.tmp 37))⟩ .done))))))))))))
 (.seq
 (.reg false (.op false ⟨(some 38), none, (.mv (.tmp 3))⟩
  (.op false ⟨(some 39), none, (.bin .eql (.tmp 38) (.const (.int .i64 0)))⟩
  (.op false ⟨(some 40), none, (.mv (.tmp 39))⟩
  (.op false ⟨(some 41), (some (40, true)), (.mv (.tmp 2))⟩
  (.op false ⟨(some 42), (some (40, true)), (.bin .eql (.tmp 41) (.const (.int .i64 2)))⟩
  (.op false ⟨(some 43), none, (.pick (.tmp 40) (.tmp 42) (.const (.bool false)))⟩
  (.op false ⟨(some 44), none, (.mv (.tmp 43))⟩
  (.op false ⟨(some 45), (some (44, true)), (.mv (.tmp 1))⟩
  (.op false ⟨(some 46), (some (44, true)), (.nilc (.tmp 45))⟩
  (.op false ⟨(some 47), (some (44, true)), (.fld 0 (.tmp 46))⟩
  (.op false ⟨(some 48), (some (44, true)), (.ld none (.tmp 47))⟩
  (.op false ⟨(some 49), (some (44, true)), (.call f_pager_Pager_Free [(.tmp 48)])⟩
  (.op false ⟨(some 50), (some (44, true)), (.bin .eql (.tmp 49) (.const (.int .i64 3)))⟩
  (.op false ⟨(some 51), none, (.pick (.tmp 44) (.tmp 50) (.const (.bool false)))⟩
  (.op false ⟨(some 52), none, (.mv (.tmp 51))⟩
  (.op false ⟨(some 53), (some (52, true)), (.mv (.tmp 5))⟩
  (.op false ⟨(some 54), (some (52, true)), (.bin .eql (.tmp 53) (.const (.int .i64 0)))⟩
  (.op false ⟨(some 55), none, (.pick (.tmp 52) (.tmp 54) (.const (.bool false)))⟩
  (.op false ⟨(some 56), none, (.mv (.tmp 55))⟩
  (.op false ⟨(some 57), (some (56, true)), (.mv (.tmp 4))⟩
  (.op false ⟨(some 58), (some (56, true)), (.len (.tmp 57))⟩
  (.op false ⟨(some 59), (some (56, true)), (.bin .eql (.tmp 58) (.const (.int .i64 300)))⟩
  (.op false ⟨(some 60), none, (.pick (.tmp 56) (.tmp 59) (.const (.bool false)))⟩
  (.op false ⟨(some 61), none, (.mv (.tmp 60))⟩
  (.op false ⟨(some 62), (some (61, true)), (.mv (.tmp 7))⟩
  (.op false ⟨(some 63), (some (61, true)), (.bin .eql (.tmp 62) (.const (.int .i64 200)))⟩
  (.op false ⟨(some 64), none, (.pick (.tmp 61) (.tmp 63) (.const (.bool false)))⟩
  (.op false ⟨(some 65), none, (.mv (.tmp 64))⟩
  (.op false ⟨(some 66), (some (65, true)), (.call f_chain_Pages [(.const (.int .i64 255))])⟩
  (.op false ⟨(some 67), (some (65, true)), (.bin .eql (.tmp 66) (.const (.int .i64 2)))⟩
  (.op false ⟨(some 68), none, (.pick (.tmp 65) (.tmp 67) (.const (.bool false)))⟩
  (.op false ⟨(some 0), none, (.mv (.tmp 68))⟩ .done))))))))))))))))))))))))))))))))) .ret)))))))⟩

set_option maxRecDepth 4000 in
set_option maxHeartbeats 1000000 in
theorem works21_ok {P : Program} {f f1 f2 f3 f4 f5 : FuncId} (hd : dec P f = some (g_thimblelaw21_works f1 f2 f3 f4 f5)) (h1 : Made21Ok P f1) (h2 : CPutOk P f2) (h3 : CGetsOk P f3) (h4 : FreeOk P f4) (h5 : PagesOk P f5) : CWks P f := by
  intro d
  obtain ⟨t, l, e, hC, hK, hF, hL, hO⟩ := cput_room (s := pdN 5) (good_pdN (by omega) (by omega)) (b := List.replicate 300 0) (by rw [free_pdN, List.length_replicate]; decide)
  rw [List.length_replicate] at hL
  have hl2 : l.length = 2 := hL
  have e2 : (cputF (pdN 5) (List.replicate 300 0)).2 = (2, 0) := rfl
  rw [e] at e2
  have hg0 : l.getD 0 0 = 2 := congrArg Prod.fst e2
  rw [hg0] at e
  have r1 := readF_chain hC (by rw [List.length_replicate]; decide)
  rw [hg0, List.length_replicate] at r1
  have r2 := readF_short hC (by omega) (n := 200) (by omega)
  rw [hg0] at r2
  rw [hl2, free_pdN] at hF
  have ht3 : t.free = 3 := by omega
  refine GCall_of hd (Nat.le_of_ble_eq_true rfl) ?_
  show gwp P _ _ _ _ _
  (apply w_sq; apply w_reg; apply w_mvb; rfl; apply w_done0; apply w_sq; apply w_reg)
  refine w_callO (L := []) (h1 (n := 5) (by omega) (by omega)) rfl (fun u d1 L1 hl1 ⟨b, bd, bp, q1, q2, hp⟩ => ?_)
  subst q1
  (apply w_mvp; rfl; apply w_done0; apply w_sq; apply w_sq; apply w_reg; apply w_mvp; rfl; apply w_eqpS; rfl; rfl; apply w_done0; apply w_ifF; rfl; apply w_skip; apply w_sq)
  refine w_drawnA [] L1 rfl ?_
  (apply w_mvp; rfl; apply w_nilc; rfl; apply w_fld; rfl; apply w_ld; rfl; exact hc_d (by assumption))
  refine w_mksF (n := 300) (c := 300) rfl rfl (Nat.le_refl _) (by omega) (by omega) (fun b16 T16 => ?_)
  have hlj : Le d1 (join d1 (bx b16 T16 (zrow [.int .u8 0] (300 * 1)))) := Le.join_left _ _
  have hg : GRow 1 RByte d1 (.slice (some ⟨b16, 0, none⟩) 300 300) (List.replicate 300 0) (bx b16 T16 (zrow [.int .u8 0] (300 * 1))) := GRow.zero rfl (by omega) rfl (by omega)
  have hB : RBytes (join d1 (bx b16 T16 (zrow [.int .u8 0] (300 * 1)))) (.slice (some ⟨b16, 0, none⟩) 300 300) (List.replicate 300 0) := GRow.rsl (R := RByte) (sz := 1) hg mono_byte (by omega) (Le.join_left _ _) (Le.join_right _ _)
  refine w_callO (h2 (hp.mono hlj) hB (by rw [List.length_replicate]; decide)) rfl (fun u d2 L2 hl2' ⟨_, q3, hp2⟩ => ?_)
  rw [e] at q3 hp2
  subst q3
  have hb2 := (q2.mono hlj).mono hl2'
  have hfr : GRead P f4 [.pointer (some ⟨bp, 0, none⟩)] d2 L2 (.int .i64 3) := by have q := h4 hp2; rw [show (t, (2 : Int), (0 : Int)).1.free = 3 from ht3] at q; exact q
  (apply w_mvu; rfl; apply w_ext; rfl; rfl; apply w_ext; rfl; rfl; apply w_mvi; rfl; apply w_mvi; rfl; apply w_done0; apply w_sq; apply w_reg; apply w_mvp; rfl; apply w_nilc; rfl; apply w_fld; rfl; apply w_ld; rfl; exact hc_d (by assumption); apply w_mvi; rfl)
  refine w_callO (h3 (k := 2) (size := 300) hp2) rfl (fun u d3 L3 hl3 ⟨_, w, tc, q4, hw, hp3, _⟩ => ?_)
  rw [show readF (t, (2 : Int), (0 : Int)).1 2 300 = (l, List.replicate 300 0, 0) from r1] at q4 hw
  subst q4
  obtain ⟨wa, wc, rfl⟩ := RSl.val hw
  rw [List.length_replicate] at hw ⊢
  have hb3 := hb2.mono hl3
  (apply w_mvu; rfl; apply w_ext; rfl; rfl; apply w_ext; rfl; rfl; apply w_mvs; rfl; apply w_mvi; rfl; apply w_done0; apply w_sq; apply w_reg; apply w_mvp; rfl; apply w_nilc; rfl; apply w_fld; rfl; apply w_ld; rfl; exact hc_d (by assumption); apply w_mvi; rfl)
  refine w_callO (h3 (k := 2) (size := 200) hp3) rfl (fun u d4 L4 hl4 ⟨_, w4, tc4, q5, hw4, hp4, _⟩ => ?_)
  rw [readF_tc, show readF (t, (2 : Int), (0 : Int)).1 2 200 = ([], [], 200) from r2] at q5 hw4
  subst q5
  have hb4 := hb3.mono hl4
  have hfr4 : GRead P f4 [.pointer (some ⟨bp, 0, none⟩)] d4 L4 (.int .i64 3) := by
    have q0 := h4 hp4
    have q : GRead P f4 [.pointer (some ⟨bp, 0, none⟩)] d4 L4 (.int .i64 (t.free : Nat)) := q0
    rw [ht3] at q; exact q
  (apply w_mvu; rfl; apply w_ext; rfl; rfl; apply w_ext; rfl; rfl; apply w_mv; apply w_mvi; rfl; apply w_done0; apply w_sq; apply w_reg; apply w_mvi; rfl; apply w_eql; rfl; rfl; apply w_mvb; rfl; refine w_gdT rfl (by with_reducible rfl) ?_; apply w_gT; rfl; apply w_mvi; rfl; apply w_gT; rfl; apply w_eql; rfl; rfl; apply w_pickTb; rfl; rfl; apply w_mvb; rfl; refine w_gdT rfl (by with_reducible rfl) ?_; apply w_gT; rfl; apply w_mvp; rfl; apply w_gT; rfl; apply w_nilc; rfl; apply w_gT; rfl; apply w_fld; rfl; apply w_gT; rfl; apply w_ld; rfl; exact hc_d (by assumption); apply w_gT; rfl)
  refine w_read (A := L4) (B := []) (List.append_nil _).symm rfl hfr4 ?_
  (apply w_gT; rfl; apply w_eql; rfl; rfl; apply w_pickTb; rfl; rfl; apply w_mvb; rfl; refine w_gdT rfl (by omega) ?_; apply w_gT; rfl; apply w_mvi; rfl; apply w_gT; rfl; apply w_eql; rfl; rfl; apply w_pickTb; rfl; rfl; apply w_mvb; rfl; refine w_gdT rfl (by with_reducible rfl) ?_; apply w_gT; rfl; apply w_mvs; rfl; apply w_gT; rfl; apply w_len; rfl; apply w_gT; rfl; apply w_eql; rfl; rfl; apply w_pickTb; rfl; rfl; apply w_mvb; rfl; refine w_gdT rfl (by omega) ?_; apply w_gT; rfl; apply w_mvi; rfl; apply w_gT; rfl; apply w_eql; rfl; rfl; apply w_pickTb; rfl; rfl; apply w_mvb; rfl; refine w_gdT rfl (by with_reducible rfl) ?_; apply w_gT; rfl)
  refine w_call0 rfl (h5 (n := 255) (by omega)) (fun u d5 L5 _ ⟨z1, z2, z3⟩ => ?_)
  subst z1; subst z2; subst z3
  rw [show (pagesN 255 : Int) = 2 from rfl]
  (apply w_gT; rfl; apply w_eql; rfl; rfl; apply w_pickTb; rfl; rfl; apply w_mvb; rfl; apply w_done0; apply w_ret)
  exact fin1 rfl (List.nil_sublist _) ⟨rfl, rfl⟩
end Go.Gk.Chn
end

section
namespace Go.Gk.Cch
open Go Go.Gk Go.Gk.Dev
attribute [local irreducible] gwp gws xwp

def fK (k p : Nat) (l : Bool) : Fr := ⟨true, k, p, l, curK k⟩
theorem ex1 : getF (curK 5) (newC 2) 5 = (⟨[fK 5 1 true, fz], [1], 0, 0, 1⟩, some (curK 5)) := rfl
theorem ex2 : getF (curK 6) ⟨[fK 5 1 true, fz], [1], 0, 0, 1⟩ 6 = (⟨[fK 5 1 true, fK 6 1 true], [], 0, 0, 2⟩, some (curK 6)) := rfl
theorem ex3 : getF (curK 7) ⟨[fK 5 1 true, fK 6 1 true], [], 0, 0, 2⟩ 7 = (⟨[fK 5 1 true, fK 6 1 true], [], 0, 0, 2⟩, none) := rfl
theorem ex4 : leaveF ⟨[fK 5 1 true, fK 6 1 true], [], 0, 0, 2⟩ 5 = (⟨[fK 5 0 true, fK 6 1 true], [], 0, 0, 2⟩, 0) := rfl
theorem ex5 : leaveF ⟨[fK 5 0 true, fK 6 1 true], [], 0, 0, 2⟩ 6 = (⟨[fK 5 0 true, fK 6 0 true], [], 0, 0, 2⟩, 0) := rfl
theorem ex6 : getF (curK 7) ⟨[fK 5 0 true, fK 6 0 true], [], 0, 0, 2⟩ 7 = (⟨[fK 7 1 true, fK 6 0 false], [], 1, 0, 3⟩, some (curK 7)) := rfl
theorem pb2 {f g : Fr} {l : List Nat} {h a b : Nat} (hf : f.pins ≤ 1) (hg : g.pins ≤ 1) : PinB ⟨[f, g], l, h, a, b⟩ 4611686018427387904 := by
  intro x hx
  rcases List.mem_cons.1 hx with rfl | hx
  · omega
  · rw [List.mem_singleton.1 hx]; omega
theorem curK_len (k : Nat) : (curK k).length = 256 := List.length_replicate
def CWorksOk (P : Program) (f : FuncId) : Prop := ∀ {d : PHeap}, GCall P f [] d [] (Ret fun r d' L' => r = .bool true ∧ L' = [])
def g_thimblelaw18_works (f_thimblelaw18_over f_cache_Cache_Get f_cache_Cache_Leave f_cache_Cache_Held f_thimbleref17_Ints f_cache_Cache_Misses : Nat) : GFun :=
 ⟨77, [(.tmp 0)],
 (.seq
 (.reg false (.op false ⟨(some 0), none, (.mv (.const (.bool false)))⟩ .done))
 (.seq
 (.reg false (.op false ⟨(some 10), none, (.call f_thimblelaw18_over [(.const (.int .i64 2))])⟩
  (.op false ⟨(some 1), none, (.mv (.tmp 10))⟩ .done)))
 (.seq (.seq
 (.reg false (.op false ⟨(some 11), none, (.mv (.tmp 1))⟩
  (.op false ⟨(some 12), none, (.eqp false (.tmp 11) (.const (.pointer none)))⟩ .done))) (.cond (.tmp 12)
 (.seq
 (.reg false (.op false ⟨(some 0), none, (.mv (.const (.bool false)))⟩ .done)) .ret) .skip))
 (.seq
 (.reg false (.op false ⟨(some 14), none, (.mv (.tmp 1))⟩
  (.op false ⟨(some 15), none, (.call f_cache_Cache_Get [(.tmp 14), (.const (.int .i64 5))])⟩
  (.op false ⟨(some 13), none, (.mv (.tmp 15))⟩
  (.op false ⟨(some 16), none, (.ext (.tmp 13) 0)⟩
  (.op false ⟨(some 17), none, (.ext (.tmp 13) 1)⟩
  (.op false ⟨(some 2), none, (.mv (.tmp 16))⟩
  (.op false ⟨(some 3), none, (.mv (.tmp 17))⟩ .done))))))))
 (.seq
 (.reg false (.op false ⟨(some 19), none, (.mv (.tmp 1))⟩
  (.op false ⟨(some 20), none, (.call f_cache_Cache_Get [(.tmp 19), (.const (.int .i64 6))])⟩
  (.op false ⟨(some 18), none, (.mv (.tmp 20))⟩
  (.op false ⟨(some 21), none, (.ext (.tmp 18) 0)⟩
  (.op false ⟨(some 22), none, (.ext (.tmp 18) 1)⟩
  (.op false ⟨(some 4), none, (.mv (.tmp 21))⟩
  (.op false ⟨(some 5), none, (.mv (.tmp 22))⟩ .done))))))))
 (.seq
 (.reg false (.op false ⟨(some 24), none, (.mv (.tmp 1))⟩
  (.op false ⟨(some 25), none, (.call f_cache_Cache_Get [(.tmp 24), (.const (.int .i64 7))])⟩
  (.op false ⟨(some 23), none, (.mv (.tmp 25))⟩
  (.op false ⟨(some 26), none, (.ext (.tmp 23) 0)⟩
  (.op false ⟨(some 27), none, (.ext (.tmp 23) 1)⟩
  (.op false ⟨(some 6), none, (.mv (.tmp 26))⟩
  (.op false ⟨(some 7), none, (.mv (.tmp 27))⟩ .done))))))))
 (.seq (.seq
 (.reg false (.op false ⟨(some 28), none, (.mv (.tmp 3))⟩
  (.op false ⟨(some 29), none, (.bin .neq (.tmp 28) (.const (.int .i64 0)))⟩
  (.op false ⟨(some 30), none, (.mv (.tmp 29))⟩
  (.op false ⟨(some 31), (some (30, false)), (.mv (.tmp 5))⟩
  (.op false ⟨(some 32), (some (30, false)), (.bin .neq (.tmp 31) (.const (.int .i64 0)))⟩
  (.op false ⟨(some 33), none, (.pick (.tmp 30) (.const (.bool true)) (.tmp 32))⟩
  (.op false ⟨(some 34), none, (.mv (.tmp 33))⟩
  (.op false ⟨(some 35), (some (34, false)), (.mv (.tmp 7))⟩
  (.op false ⟨(some 36), (some (34, false)), (.bin .neq (.tmp 35) (.const (.int .i64 180)))⟩
  (.op false ⟨(some 37), none, (.pick (.tmp 34) (.const (.bool true)) (.tmp 36))⟩
  (.op false ⟨(some 38), none, (.mv (.tmp 37))⟩
  (.op false ⟨(some 39), (some (38, false)), (.mv (.tmp 2))⟩
  (.op false ⟨(some 40), (some (38, false)), (.len (.tmp 39))⟩
  (.op false ⟨(some 41), (some (38, false)), (.bin .neq (.tmp 40) (.const (.int .i64 256)))⟩
  (.op false ⟨(some 42), none, (.pick (.tmp 38) (.const (.bool true)) (.tmp 41))⟩
  (.op false ⟨(some 43), none, (.mv (.tmp 42))⟩
  (.op false ⟨(some 44), (some (43, false)), (.mv (.tmp 2))⟩
  (.op false ⟨(some 45), (some (43, false)), (.idx 1 (.tmp 44) (.const (.int .i64 0)))⟩
  (.op false ⟨(some 46), (some (43, false)), (.ld none (.tmp 45))⟩
  (.op false ⟨(some 47), (some (43, false)), (.bin .neq (.tmp 46) (.const (.int .u8 5)))⟩
  (.op false ⟨(some 48), none, (.pick (.tmp 43) (.const (.bool true)) (.tmp 47))⟩
  (.op false ⟨(some 49), none, (.mv (.tmp 48))⟩
  (.op false ⟨(some 50), (some (49, false)), (.mv (.tmp 1))⟩
  (.op false ⟨(some 51), (some (49, false)), (.call f_cache_Cache_Leave [(.tmp 50), (.const (.int .i64 5))])⟩
  (.op false ⟨(some 52), (some (49, false)), (.bin .neq (.tmp 51) (.const (.int .i64 0)))⟩
  (.op false ⟨(some 53), none, (.pick (.tmp 49) (.const (.bool true)) (.tmp 52))⟩
  (.op false ⟨(some 54), none, (.mv (.tmp 53))⟩
  (.op false ⟨(some 55), (some (54, false)), (.mv (.tmp 1))⟩
  (.op false ⟨(some 56), (some (54, false)), (.call f_cache_Cache_Leave [(.tmp 55), (.const (.int .i64 6))])⟩
  (.op false ⟨(some 57), (some (54, false)), (.bin .neq (.tmp 56) (.const (.int .i64 0)))⟩
  (.op false ⟨(some 58), none, (.pick (.tmp 54) (.const (.bool true)) (.tmp 57))⟩ .done)))))))))))))))))))))))))))))))) (.cond (.tmp 58)
 (.seq
 (.reg false (.op false ⟨(some 0), none, (.mv (.const (.bool false)))⟩ .done)) .ret) .skip))
 (.seq
 (.reg false (.op false ⟨(some 60), none, (.mv (.tmp 1))⟩
  (.op false ⟨(some 61), none, (.call f_cache_Cache_Get [(.tmp 60), (.const (.int .i64 7))])⟩
  (.op false ⟨(some 59), none, (.mv (.tmp 61))⟩
  (.op false ⟨(some 62), none, (.ext (.tmp 59) 0)⟩
  (.op false ⟨(some 63), none, (.ext (.tmp 59) 1)⟩
  (.op false ⟨(some 8), none, (.mv (.tmp 62))⟩
  (.op false ⟨(some 9), none, (.mv (.tmp 63))⟩ .done))))))))
 (.seq
 (.reg false (.op false ⟨(some 64), none, (.mv (.tmp 9))⟩
  (.op false ⟨(some 65), none, (.bin .eql (.tmp 64) (.const (.int .i64 0)))⟩
  (.op false ⟨(some 66), none, (.mv (.tmp 65))⟩
  (.op false ⟨(some 67), (some (66, true)), (.mv (.tmp 1))⟩
  (.op false ⟨(some 68), (some (66, true)), (.call f_cache_Cache_Held [(.tmp 67)])⟩
  (.op false ⟨(some 69), (some (66, true)), (.bsl 2 1 [(.int .i64 0)] [(0, (.const (.int .i64 7))), (1, (.const (.int .i64 6)))])⟩
  (.op false ⟨(some 70), (some (66, true)), (.call f_thimbleref17_Ints [(.tmp 68), (.tmp 69)])⟩
  (.op false ⟨(some 71), none, (.pick (.tmp 66) (.tmp 70) (.const (.bool false)))⟩
  (.op false ⟨(some 72), none, (.mv (.tmp 71))⟩
  (.op false ⟨(some 73), (some (72, true)), (.mv (.tmp 1))⟩
  (.op false ⟨(some 74), (some (72, true)), (.call f_cache_Cache_Misses [(.tmp 73)])⟩
  (.op false ⟨(some 75), (some (72, true)), (.bin .eql (.tmp 74) (.const (.int .i64 3)))⟩
  (.op false ⟨(some 76), none, (.pick (.tmp 72) (.tmp 75) (.const (.bool false)))⟩
  (.op false ⟨(some 0), none, (.mv (.tmp 76))⟩ .done))))))))))))))) .ret)))))))))⟩

set_option maxRecDepth 4000 in
set_option maxHeartbeats 1000000 in
theorem cworks_ok {P : Program} {f f1 f2 f3 f4 f5 f6 : FuncId} (hd : dec P f = some (g_thimblelaw18_works f1 f2 f3 f4 f5 f6)) (h1 : OverOk P f1) (h2 : CGetOk P f2) (h3 : CLeaveOk P f3) (h4 : CHeldOk P f4) (h5 : IntsOk P f5) (h6 : MissesOk P f6) : CWorksOk P f := by
  intro d
  have hz : devK.syn.length = 12 := List.length_replicate
  refine GCall_of hd (Nat.le_of_ble_eq_true rfl) ?_
  show gwp P _ _ _ _ _
  (apply w_sq; apply w_reg; apply w_mvb; rfl; apply w_done0; apply w_sq; apply w_reg)
  refine w_callA (A := []) (B := []) rfl rfl (h1 (n := 2) (by omega) (by omega)) (fun cv d1 L1 _ hc => ?_)
  obtain ⟨b, rfl⟩ := hc.ptr
  rw [List.append_nil]
  (apply w_mvp; rfl; apply w_done0; apply w_sq; apply w_sq; apply w_reg; apply w_mvp; rfl; apply w_eqpS; rfl; rfl; apply w_done0; apply w_ifF; rfl; apply w_skip; apply w_sq; apply w_reg; apply w_mvp; rfl)
  refine w_callA (B := []) (List.append_nil _).symm rfl (h2.cov (k := 5) hc (pb2 (f := fz) (g := fz) (by decide) (by decide)) (by omega)) (fun u d2 L2 hl2 ⟨hc2, hg⟩ => ?_)
  rw [devK_cur (by omega), ex1] at hc2 hg
  obtain ⟨u5, rfl, hu5⟩ := hg
  rw [List.append_nil]
  (apply w_mvu; rfl; apply w_ext; rfl; rfl; apply w_ext; rfl; rfl; apply w_mv; apply w_mvi; rfl; apply w_done0; apply w_sq; apply w_reg; apply w_mvp; rfl)
  refine w_callA (B := []) (List.append_nil _).symm rfl (h2.cov (k := 6) hc2 (pb2 (by decide) (by decide)) (by omega)) (fun u d3 L3 hl3 ⟨hc3, hg⟩ => ?_)
  rw [devK_cur (by omega), ex2] at hc3 hg
  obtain ⟨u6, rfl, hu6⟩ := hg
  rw [List.append_nil]
  (apply w_mvu; rfl; apply w_ext; rfl; rfl; apply w_ext; rfl; rfl; apply w_mv; apply w_mvi; rfl; apply w_done0; apply w_sq; apply w_reg; apply w_mvp; rfl)
  refine w_callA (B := []) (List.append_nil _).symm rfl (h2.cov (k := 7) hc3 (pb2 (by decide) (by decide)) (by omega)) (fun u d4 L4 hl4 ⟨hc4, hg⟩ => ?_)
  rw [devK_cur (by omega), ex3] at hc4 hg
  obtain rfl := hg
  rw [List.append_nil]
  have hu : RSl 1 RByte d4 u5 (curK 5) := (hu5.mono hl3).mono hl4
  have hul := curK_len 5
  have hu0 : ((curK 5)[0]'(by omega)).toNat = 5 := rfl
  (apply w_mvu; rfl; apply w_ext; rfl; rfl; apply w_ext; rfl; rfl; apply w_mvs; rfl; apply w_mvi; rfl; apply w_done0; apply w_sq; apply w_sq; apply w_reg; apply w_mvi; rfl; apply w_neq; rfl; rfl; apply w_mvb; rfl; refine w_gdF rfl (by omega) ?_; apply w_gT; rfl; apply w_mvi; rfl; apply w_gT; rfl; apply w_neq; rfl; rfl; apply w_pickFb; rfl; rfl; apply w_mvb; rfl; refine w_gdF rfl (by omega) ?_; apply w_gT; rfl; apply w_mvi; rfl; apply w_gT; rfl; apply w_neq; rfl; rfl; apply w_pickFb; rfl; rfl; apply w_mvb; rfl; refine w_gdF rfl (by omega) ?_; apply w_gT; rfl; apply w_mv; apply w_gT; rfl; apply w_lenR; rfl; assumption; apply w_gT; rfl; apply w_neq; rfl; rfl; apply w_pickFb; rfl; rfl; apply w_mvb; rfl; refine w_gdF rfl (by omega) ?_; apply w_gT; rfl; apply w_mv; apply w_gT; rfl; refine w_idxR (m := 0) (sz := 1) (R := RByte) (by rfl) (by assumption) (by rfl) rfl (by omega) ?_; rintro _ _ _ _ _ rfl; apply w_gT; rfl; apply w_ld; rfl; exact hc_ds0 (by assumption) rfl; apply w_gT; rfl; apply w_neq; rfl; rfl; apply w_pickFb; rfl; rfl; apply w_mvb; rfl; refine w_gdF rfl (by omega) ?_; apply w_gT; rfl; apply w_mvp; rfl; apply w_gT; rfl)
  refine w_callA (B := []) (List.append_nil _).symm rfl (h3.cov (k := 5) hc4 (pb2 (by decide) (by decide))) (fun u d5 L5 hl5 ⟨e, hc5⟩ => ?_)
  rw [ex4] at hc5 e
  simp only at hc5 e
  subst e
  rw [List.append_nil]
  (apply w_gT; rfl; apply w_neq; rfl; rfl; apply w_pickFb; rfl; rfl; apply w_mvb; rfl; refine w_gdF rfl (by omega) ?_; apply w_gT; rfl; apply w_mvp; rfl; apply w_gT; rfl)
  have hq := h3.cov (k := 6) hc5 (pb2 (by decide) (by decide))
  refine w_callA (A := L5) (B := []) (List.append_nil _).symm rfl hq (fun u d6 L6 hl6 ⟨e, hc6⟩ => ?_)
  rw [ex5] at hc6 e
  simp only at hc6 e
  subst e
  rw [List.append_nil]
  (apply w_gT; rfl; apply w_neq; rfl; rfl; apply w_pickFb; rfl; rfl; apply w_done0; refine w_ifdF rfl (by omega) ?_; apply w_skip; apply w_sq; apply w_reg; apply w_mvp; rfl)
  refine w_callA (B := []) (List.append_nil _).symm rfl (h2.cov (k := 7) hc6 (pb2 (by decide) (by decide)) (by omega)) (fun u d7 L7 hl7 ⟨hc7, hg⟩ => ?_)
  rw [devK_cur (by omega), ex6] at hc7 hg
  obtain ⟨u7, rfl, hu7⟩ := hg
  rw [List.append_nil]
  (apply w_mvu; rfl; apply w_ext; rfl; rfl; apply w_ext; rfl; rfl; apply w_mv; apply w_mvi; rfl; apply w_done0; apply w_sq; apply w_reg; apply w_mvi; rfl; apply w_eql; rfl; rfl; apply w_mvb; rfl; refine w_gdT rfl (by omega) ?_; apply w_gT; rfl; apply w_mvp; rfl; apply w_gT; rfl)
  refine w_callA (B := []) (List.append_nil _).symm rfl (h4.cov hc7 (fun f hf => by
    rcases List.mem_cons.1 hf with rfl | hf
    · decide
    · rw [List.mem_singleton.1 hf]; decide)) (fun w d8 L8 hl8 ⟨e, hw⟩ => ?_)
  subst e
  rw [List.append_nil]
  (apply w_gT; rfl)
  refine w_bs2 rfl rfl rfl rfl (fun b9 T9 => ?_)
  (apply w_gT; rfl)
  refine w_pureB rfl (v := .bool true) (fun d9 hl9 hk9 => ?_) ?_
  · have := h5 (d := d9) (v := w) (w := .slice (some ⟨b9, 0, none⟩) 2 2) (a := [7, 6]) (b := [7, 6]) (hw.mono hl9)
      (GRow.rsl (R := RInt) (GRow.litI (d := d8) (T := T9) (b := b9) (n := 2) (l := [7, 6]) rfl (by intro x hx; rcases List.mem_cons.1 hx with rfl | hx; omega; rw [List.mem_singleton.1 hx]; omega) rfl (by decide)) mono_int (by omega) hl9 (hk9 _ (List.mem_cons_self ..)))
    exact this
  (apply w_pickTb; rfl; rfl; apply w_mvb; rfl; apply w_gT; rfl; apply w_mvp; rfl; apply w_gT; rfl)
  refine w_readP (A := L8) (B := [_]) (List.perm_append_comm (l₁ := [_])) rfl (h6.cov (hc7.mono hl8)) ?_
  rw [show wr 3 = 3 from rfl]
  (apply w_gT; rfl; apply w_eql; rfl; rfl; apply w_pickTb; rfl; rfl; apply w_mvb; rfl; apply w_done0; apply w_ret)
  exact fin1 rfl (List.nil_sublist _) ⟨rfl, rfl⟩
end Go.Gk.Cch
end

section
namespace Go.Gk.Cch
open Go Go.Gk Go.Gk.Dev
attribute [local irreducible] gwp gws xwp

section
variable {P : Program} {pan : List PanicEntry → Post} {Qn : Env → Post} {Ls L : List PHeap} {ρ : Env} {d : PHeap} {s : GS} {t : Nat} {tk : Bool}
theorem w_remK {x y : Operand} {kk : IntKind} {a b : Int} (k : Nat) (ex : ev ρ x = .int kk a) (ey : ev ρ y = .int kk b) (h1 : 0 ≤ a) (h2 : 0 < b) (hk : a % b = (k : Int)) (h : gws P pan Qn s Ls (upd ρ t (.int kk (k : Nat))) d L) :
    gws P pan Qn (.op tk ⟨some t, none, .bin .rem x y⟩ s) Ls ρ d L := w_rem ex ey h1 h2 (by rw [hk]; exact h)
end
theorem nat_rem (a : Int) (m : Nat) (h : 0 < m) : ∃ k : Nat, (a % 18446744073709551616) % (m : Int) = (k : Int) ∧ k < m := by
  refine ⟨((a % 18446744073709551616) % (m : Int)).toNat, ?_, ?_⟩ <;> have := Int.emod_nonneg (a % 18446744073709551616) (show (m : Int) ≠ 0 by omega) <;> have := Int.emod_lt_of_pos (a % 18446744073709551616) (show (0 : Int) < m by omega) <;> omega
structure Tl (c : CD) (i n : Nat) : Prop where
  inv : Inv curK 12 c
  pin : ∀ s, pinOf c s ≤ i
  sum : c.hits + c.miss = n
  le : n ≤ i
theorem Tl.pinB {c : CD} {i n : Nat} (h : Tl c i n) (hi : i ≤ 1000) : PinB c 4611686018427387904 := fun f hf => by
  have := pinB_of h.inv h.pin f hf; omega
theorem Tl.get {c c' : CD} {i n k : Nat} {b : Sec} (h : Tl c i n) (hk : k < 12) (hg : getF (curK k) c k = (c', some b)) : Tl c' (i + 1) (n + 1) ∧ b = curK k ∧ pinOf c' k ≠ 0 := by
  obtain ⟨g1, g2, g3, g4, g5, g6, g7⟩ := get_some h.inv hk hg
  refine ⟨⟨g1, fun s => ?_, ?_, by have := h.le; omega⟩, g2, ?_⟩
  · rw [g3]; have := h.pin s; split <;> omega
  · have := h.sum
    split at g6 <;> omega
  · rw [g3, if_pos rfl]; omega
theorem Tl.leave {c : CD} {i n k : Nat} (h : Tl c i n) (hp : pinOf c k ≠ 0) : Tl (leaveF c k).1 i n ∧ (leaveF c k).2 = 0 := by
  obtain ⟨g1, g2, g3, g4, g5, g6, g7⟩ := leave_inv h.inv hp
  refine ⟨⟨g1, fun s => ?_, by rw [g5, g6]; exact h.sum, h.le⟩, g2⟩
  rw [g3]; have := h.pin s; split <;> omega
theorem Tl.next {c : CD} {i n : Nat} (h : Tl c i n) : Tl c (i + 1) n := ⟨h.inv, fun s => by have := h.pin s; omega, h.sum, by have := h.le; omega⟩

theorem GotB.form {d : PHeap} {r : Value} {o : Option Sec} (h : GotB d r o) : ∃ a n cp e, r = .tuple #[.slice a n cp, .int .i64 e] ∧ (match o with | some b => e = 0 ∧ n = b.length ∧ RBytes d (.slice a n cp) b | none => e = 180 ∧ n = 0) := by
  cases o with
  | none => obtain rfl := h; exact ⟨none, 0, 0, 180, rfl, rfl, rfl⟩
  | some b =>
    obtain ⟨u, rfl, hu⟩ := h
    obtain ⟨a, c, rfl⟩ := RSl.val hu
    exact ⟨a, _, c, 0, rfl, rfl, rfl, hu⟩
def Seen (l : List Int) (j : Nat) (bs : List Bool) : Prop := bs.length = 12 ∧ ∀ s (hs : s < bs.length), bs[s] = true → ∃ j', j' < j ∧ l[j']? = some (s : Int)
theorem seen_step {l : List Int} {j : Nat} {bs : List Bool} (h : Seen l j bs) (hj : j < l.length) {s : Nat} (hs : s < 12) (e : l[j] = (s : Int)) : Seen l (j + 1) (bs.set s true) := by
  refine ⟨by rw [List.length_set]; exact h.1, fun t ht hb => ?_⟩
  rw [List.length_set] at ht
  by_cases q : s = t
  · subst q; exact ⟨j, by omega, by rw [List.getElem?_eq_getElem hj, e]⟩
  · rw [List.getElem_set_ne q] at hb
    obtain ⟨j', h1, h2⟩ := h.2 t ht hb
    exact ⟨j', by omega, h2⟩
theorem seen_next {l : List Int} {j : Nat} {bs : List Bool} (h : Seen l j bs) : Seen l (j + 1) bs := ⟨h.1, fun t ht hb => let ⟨j', h1, h2⟩ := h.2 t ht hb; ⟨j', by omega, h2⟩⟩
def g_thimblelaw18_CacheTells (f_thimblelaw18_works f_thimblelaw18_over f_cache_Cache_Get f_cache_Cache_Leave f_cache_Cache_Hits f_cache_Cache_Misses f_cache_Cache_Held : Nat) : GFun :=
 ⟨125, [(.tmp 6)],
 (.seq
 (.reg false (.op false ⟨(some 6), none, (.mv (.const (.bool false)))⟩ .done))
 (.seq (.seq
 (.reg false (.op false ⟨(some 16), none, (.call f_thimblelaw18_works [])⟩
  (.op false ⟨(some 17), none, (.un .not (.tmp 16))⟩ .done))) (.cond (.tmp 17)
 (.seq
 (.reg false (.op false ⟨(some 6), none, (.mv (.const (.bool false)))⟩ .done)) .ret) .skip))
 (.seq
 (.reg false (.op false ⟨(some 18), none, (.mv (.tmp 0))⟩
  (.op false ⟨(some 19), none, (.cvi .u64 (.tmp 18))⟩
  (.op false ⟨(some 20), none, (.bin .rem (.tmp 19) (.const (.int .u64 8)))⟩
  (.op false ⟨(some 21), none, (.cvi .i64 (.tmp 20))⟩
  (.op false ⟨(some 22), none, (.bin .add (.const (.int .i64 1)) (.tmp 21))⟩
  (.op false ⟨(some 23), none, (.call f_thimblelaw18_over [(.tmp 22)])⟩
  (.op false ⟨(some 7), none, (.mv (.tmp 23))⟩ .done))))))))
 (.seq (.seq
 (.reg false (.op false ⟨(some 24), none, (.mv (.tmp 7))⟩
  (.op false ⟨(some 25), none, (.eqp false (.tmp 24) (.const (.pointer none)))⟩ .done))) (.cond (.tmp 25)
 (.seq
 (.reg false (.op false ⟨(some 6), none, (.mv (.const (.bool false)))⟩ .done)) .ret) .skip))
 (.seq
 (.reg false (.op false ⟨(some 8), none, (.mv (.const (.int .i64 0)))⟩ .done))
 (.seq (.seq
 (.reg false (.op false ⟨(some 9), none, (.mv (.const (.int .i64 0)))⟩ .done)) (.block 0 (.loop
 (.seq (.seq
 (.reg false (.op false ⟨(some 26), none, (.mv (.tmp 9))⟩
  (.op false ⟨(some 27), none, (.mv (.tmp 1))⟩
  (.op false ⟨(some 28), none, (.len (.tmp 27))⟩
  (.op false ⟨(some 29), none, (.bin .lss (.tmp 26) (.tmp 28))⟩
  (.op false ⟨(some 30), none, (.mv (.tmp 29))⟩
  (.op false ⟨(some 31), (some (30, true)), (.mv (.tmp 9))⟩
  (.op false ⟨(some 32), (some (30, true)), (.bin .lss (.tmp 31) (.const (.int .i64 100)))⟩
  (.op false ⟨(some 33), none, (.pick (.tmp 30) (.tmp 32) (.const (.bool false)))⟩ .done))))))))) (.cond (.tmp 33) .skip (.exit 0)))
 (.seq (.block 1
 (.seq
 (.reg false (.op false ⟨(some 36), none, (.mv (.tmp 1))⟩
  (.op false ⟨(some 37), none, (.mv (.tmp 9))⟩
  (.op false ⟨(some 38), none, (.idx 1 (.tmp 36) (.tmp 37))⟩
  (.op false ⟨(some 39), none, (.ld none (.tmp 38))⟩
  (.op false ⟨(some 40), none, (.cvi .u64 (.tmp 39))⟩
  (.op false ⟨(some 41), none, (.bin .rem (.tmp 40) (.const (.int .u64 12)))⟩
  (.op false ⟨(some 42), none, (.cvi .i64 (.tmp 41))⟩
  (.op false ⟨(some 10), none, (.mv (.tmp 42))⟩ .done)))))))))
 (.seq
 (.reg false (.op false ⟨(some 44), none, (.mv (.tmp 7))⟩
  (.op false ⟨(some 45), none, (.mv (.tmp 10))⟩
  (.op false ⟨(some 46), none, (.call f_cache_Cache_Get [(.tmp 44), (.tmp 45)])⟩
  (.op false ⟨(some 43), none, (.mv (.tmp 46))⟩
  (.op false ⟨(some 47), none, (.ext (.tmp 43) 0)⟩
  (.op false ⟨(some 48), none, (.ext (.tmp 43) 1)⟩
  (.op false ⟨(some 11), none, (.mv (.tmp 47))⟩
  (.op false ⟨(some 12), none, (.mv (.tmp 48))⟩ .done)))))))))
 (.seq (.seq
 (.reg false (.op false ⟨(some 49), none, (.mv (.tmp 12))⟩
  (.op false ⟨(some 50), none, (.bin .eql (.tmp 49) (.const (.int .i64 0)))⟩ .done))) (.cond (.tmp 50)
 (.seq
 (.reg false (.op false ⟨(some 51), none, (.mv (.tmp 8))⟩
  (.op false ⟨(some 52), none, (.bin .add (.tmp 51) (.const (.int .i64 1)))⟩
  (.op false ⟨(some 8), none, (.mv (.tmp 52))⟩ .done))))
 (.seq (.seq
 (.reg false (.op false ⟨(some 53), none, (.mv (.tmp 11))⟩
  (.op false ⟨(some 54), none, (.len (.tmp 53))⟩
  (.op false ⟨(some 55), none, (.bin .neq (.tmp 54) (.const (.int .i64 256)))⟩
  (.op false ⟨(some 56), none, (.mv (.tmp 55))⟩
  (.op false ⟨(some 57), (some (56, false)), (.mv (.tmp 11))⟩
  (.op false ⟨(some 58), (some (56, false)), (.idx 1 (.tmp 57) (.const (.int .i64 0)))⟩
  (.op false ⟨(some 59), (some (56, false)), (.ld none (.tmp 58))⟩
  (.op false ⟨(some 60), (some (56, false)), (.mv (.tmp 10))⟩
  (.op false ⟨(some 61), (some (56, false)), (.cvi .u8 (.tmp 60))⟩
  (.op false ⟨(some 62), (some (56, false)), (.bin .neq (.tmp 59) (.tmp 61))⟩
  (.op false ⟨(some 63), none, (.pick (.tmp 56) (.const (.bool true)) (.tmp 62))⟩
  (.op false ⟨(some 64), none, (.mv (.tmp 63))⟩
  (.op false ⟨(some 65), (some (64, false)), (.mv (.tmp 11))⟩
  (.op false ⟨(some 66), (some (64, false)), (.idx 1 (.tmp 65) (.const (.int .i64 255)))⟩
  (.op false ⟨(some 67), (some (64, false)), (.ld none (.tmp 66))⟩
  (.op false ⟨(some 68), (some (64, false)), (.mv (.tmp 10))⟩
  (.op false ⟨(some 69), (some (64, false)), (.cvi .u8 (.tmp 68))⟩
  (.op false ⟨(some 70), (some (64, false)), (.bin .neq (.tmp 67) (.tmp 69))⟩
  (.op false ⟨(some 71), none, (.pick (.tmp 64) (.const (.bool true)) (.tmp 70))⟩ .done)))))))))))))))))))) (.cond (.tmp 71)
 (.seq
 (.reg false (.op false ⟨(some 6), none, (.mv (.const (.bool false)))⟩ .done)) .ret) .skip))
 (.seq
 (.reg false (.op false ⟨(some 72), none, (.mv (.tmp 9))⟩
  (.op false ⟨(some 73), none, (.mv (.tmp 2))⟩
  (.op false ⟨(some 74), none, (.len (.tmp 73))⟩
  (.op false ⟨(some 75), none, (.bin .lss (.tmp 72) (.tmp 74))⟩
  (.op false ⟨(some 76), none, (.mv (.tmp 75))⟩
  (.op false ⟨(some 77), (some (76, true)), (.mv (.tmp 2))⟩
  (.op false ⟨(some 78), (some (76, true)), (.mv (.tmp 9))⟩
  (.op false ⟨(some 79), (some (76, true)), (.idx 1 (.tmp 77) (.tmp 78))⟩
  (.op false ⟨(some 80), (some (76, true)), (.ld none (.tmp 79))⟩
  (.op false ⟨(some 81), none, (.pick (.tmp 76) (.tmp 80) (.const (.bool false)))⟩
  (.op false ⟨(some 82), none, (.mv (.tmp 81))⟩
  (.op false ⟨(some 83), (some (82, true)), (.mv (.tmp 7))⟩
  (.op false ⟨(some 84), (some (82, true)), (.mv (.tmp 10))⟩
  (.op false ⟨(some 85), (some (82, true)), (.call f_cache_Cache_Leave [(.tmp 83), (.tmp 84)])⟩
  (.op false ⟨(some 86), (some (82, true)), (.bin .neq (.tmp 85) (.const (.int .i64 0)))⟩
  (.op false ⟨(some 87), none, (.pick (.tmp 82) (.tmp 86) (.const (.bool false)))⟩ .done))))))))))))))))) (.cond (.tmp 87)
 (.seq
 (.reg false (.op false ⟨(some 6), none, (.mv (.const (.bool false)))⟩ .done)) .ret) .skip))))
 (.seq
 (.reg false (.op false ⟨(some 88), none, (.mv (.tmp 12))⟩
  (.op false ⟨(some 89), none, (.bin .neq (.tmp 88) (.const (.int .i64 180)))⟩
  (.op false ⟨(some 90), none, (.mv (.tmp 89))⟩
  (.op false ⟨(some 91), (some (90, false)), (.mv (.tmp 11))⟩
  (.op false ⟨(some 92), (some (90, false)), (.len (.tmp 91))⟩
  (.op false ⟨(some 93), (some (90, false)), (.bin .neq (.tmp 92) (.const (.int .i64 0)))⟩
  (.op false ⟨(some 94), none, (.pick (.tmp 90) (.const (.bool true)) (.tmp 93))⟩ .done)))))))) (.cond (.tmp 94)
 (.seq
 (.reg false (.op false ⟨(some 6), none, (.mv (.const (.bool false)))⟩ .done)) .ret) .skip))))
 (.seq (.seq
 (.reg false (.op false ⟨(some 95), none, (.mv (.tmp 7))⟩
  (.op false ⟨(some 96), none, (.call f_cache_Cache_Hits [(.tmp 95)])⟩
  (.op false ⟨(some 97), none, (.mv (.tmp 7))⟩
  (.op false ⟨(some 98), none, (.call f_cache_Cache_Misses [(.tmp 97)])⟩
  (.op false ⟨(some 99), none, (.bin .add (.tmp 96) (.tmp 98))⟩
  (.op false ⟨(some 100), none, (.mv (.tmp 8))⟩
  (.op false ⟨(some 101), none, (.bin .neq (.tmp 99) (.tmp 100))⟩ .done)))))))) (.cond (.tmp 101)
 (.seq
 (.reg false (.op false ⟨(some 6), none, (.mv (.const (.bool false)))⟩ .done)) .ret) .skip))
 (.seq
 (.reg false (.op false ⟨(some 13), none, (.alo (.agg #[(.bool false), (.bool false), (.bool false), (.bool false), (.bool false), (.bool false), (.bool false), (.bool false), (.bool false), (.bool false), (.bool false), (.bool false)]))⟩ .done))
 (.seq
 (.reg false (.op false ⟨(some 102), none, (.mv (.tmp 7))⟩
  (.op false ⟨(some 103), none, (.call f_cache_Cache_Held [(.tmp 102)])⟩
  (.op false ⟨(some 104), none, (.len (.tmp 103))⟩
  (.op false ⟨(some 105), none, (.mv (.const (.int .i64 0)))⟩ .done))))) (.block 2 (.loop
 (.seq
 (.reg false (.op false ⟨(some 106), none, (.bin .lss (.tmp 105) (.tmp 104))⟩ .done))
 (.seq (.cond (.tmp 106) .skip (.exit 2))
 (.seq (.block 3
 (.seq
 (.reg false (.op false ⟨(some 107), none, (.idx 1 (.tmp 103) (.tmp 105))⟩
  (.op false ⟨(some 108), none, (.ld none (.tmp 107))⟩
  (.op false ⟨(some 15), none, (.mv (.tmp 108))⟩ .done))))
 (.seq (.seq
 (.reg false (.op false ⟨(some 109), none, (.mv (.tmp 15))⟩
  (.op false ⟨(some 110), none, (.bin .geq (.tmp 109) (.const (.int .i64 12)))⟩
  (.op false ⟨(some 111), none, (.mv (.tmp 110))⟩
  (.op false ⟨(some 112), (some (111, false)), (.mv (.tmp 15))⟩
  (.op false ⟨(some 113), (some (111, false)), (.bin .geq (.tmp 112) (.const (.int .i64 0)))⟩
  (.op false ⟨(some 114), (some (111, false)), (.mv (.tmp 113))⟩
  (.op false ⟨(some 115), (some (114, true)), (.mv (.tmp 15))⟩
  (.op false ⟨(some 116), (some (114, true)), (.idxa 12 1 (.tmp 13) (.tmp 115))⟩
  (.op false ⟨(some 117), (some (114, true)), (.ld none (.tmp 116))⟩
  (.op false ⟨(some 118), (some (111, false)), (.pick (.tmp 114) (.tmp 117) (.const (.bool false)))⟩
  (.op false ⟨(some 119), none, (.pick (.tmp 111) (.const (.bool true)) (.tmp 118))⟩ .done)))))))))))) (.cond (.tmp 119)
 (.seq
 (.reg false (.op false ⟨(some 6), none, (.mv (.const (.bool false)))⟩ .done)) .ret) .skip))
 (.seq
 (.reg false (.op false ⟨(some 120), none, (.mv (.tmp 15))⟩
  (.op false ⟨(some 121), none, (.bin .geq (.tmp 120) (.const (.int .i64 0)))⟩ .done))) (.cond (.tmp 121)
 (.reg false (.op false ⟨(some 122), none, (.mv (.tmp 15))⟩
  (.op false ⟨(some 123), none, (.idxa 12 1 (.tmp 13) (.tmp 122))⟩
  (.op false ⟨none, none, (.st 1 (.tmp 123) (.const (.bool true)))⟩ .done)))) .skip)))))
 (.reg false (.op false ⟨(some 124), none, (.bin .add (.tmp 105) (.const (.int .i64 1)))⟩
  (.op false ⟨(some 105), none, (.mv (.tmp 124))⟩ .done)))))))))))))))
 (.reg false (.op false ⟨(some 34), none, (.mv (.tmp 9))⟩
  (.op false ⟨(some 35), none, (.bin .add (.tmp 34) (.const (.int .i64 1)))⟩
  (.op false ⟨(some 9), none, (.mv (.tmp 35))⟩ .done)))))))))
 (.seq
 (.reg false (.op false ⟨(some 6), none, (.mv (.const (.bool true)))⟩ .done)) .ret)))))))⟩

set_option maxRecDepth 4000 in
set_option maxHeartbeats 1000000 in
theorem cacheTells {P : Program} {f f1 f2 f3 f4 f5 f6 f7 : FuncId} (hd : dec P f = some (g_thimblelaw18_CacheTells f1 f2 f3 f4 f5 f6 f7)) (h1 : CWorksOk P f1) (h2 : OverOk P f2) (h3 : CGetOk P f3) (h4 : CLeaveOk P f4) (h5 : HitsOk P f5) (h6 : MissesOk P f6) (h7 : CHeldOk P f7)
    {d : PHeap} {fr : Int} {gv lv : Value} {gs : List Int} {ls : List Bool} (hgs : RInts d gv gs) (hls : RSl 1 RBool d lv ls) : GCall P f [.int .i64 fr, gv, lv] d [] (Ret fun r _ _ => r = .bool true) := by
  have hz : devK.syn.length = 12 := List.length_replicate
  have hgl := hgs.len_le
  have hll := hls.len_le
  refine GCall_of hd (Nat.le_of_ble_eq_true rfl) ?_
  show gwp P _ _ _ _ _
  (apply w_sq; apply w_reg; apply w_mvb; rfl; apply w_done0; apply w_sq; apply w_sq; apply w_reg)
  refine w_callA (A := []) (B := []) rfl rfl h1 (fun u d1 L1 hl1 ⟨e1, e2⟩ => ?_)
  subst e1; subst e2
  obtain ⟨m, hm, hm12⟩ := nat_rem fr 8 (by omega)
  replace hm : fr % 18446744073709551616 % 8 = (m : Int) := hm
  (apply w_not; rfl; apply w_done0; apply w_ifF; rfl; apply w_skip; apply w_sq; apply w_reg; apply w_mvi; rfl; apply w_cviu; rfl; apply w_rem; rfl; rfl; omega; omega; apply w_cvi64; rfl; omega; omega; apply w_add; rfl; rfl; omega; omega)
  refine w_callA (A := []) (B := []) rfl (vs := [.int .i64 (1 + m : Nat)]) (congrArg (fun z => [Value.int .i64 z]) (show 1 + fr % 18446744073709551616 % 8 = ((1 + m : Nat) : Int) by omega)) (h2 (n := 1 + m) (by omega) (by omega)) (fun cv d2 L2 hl2 hc => ?_)
  obtain ⟨b, rfl⟩ := hc.ptr
  rw [List.append_nil]
  have hgs2 : RSl 1 RInt d2 gv gs := (hgs.mono hl1).mono hl2
  have hls2 : RSl 1 RBool d2 lv ls := RSl.mono (fun _ h => h) hls (hl1.trans hl2)
  (apply w_mvp; rfl; apply w_done0; apply w_sq; apply w_sq; apply w_reg; apply w_mvp; rfl; apply w_eqpS; rfl; rfl; apply w_done0; apply w_ifF; rfl; apply w_skip; apply w_sq; apply w_reg; apply w_mvi; rfl; apply w_done0; apply w_sq; apply w_sq; apply w_reg; apply w_mvi; rfl; apply w_done0; apply w_block)
  have hT0 : Tl (newC (1 + m)) 0 0 := ⟨inv_new curK 12 _ (by omega) (by omega), fun s => by rw [show pinOf (newC (1 + m)) s = 0 from pin_new _ s]; omega, rfl, by omega⟩
  refine w_loopS (α := Nat × Nat × CD) (fun x => [(1, gv), (2, lv), (7, .pointer (some ⟨b, 0, none⟩)), (8, .int .i64 x.2.1), (9, .int .i64 x.1)])
    (fun x d' L' => Le d2 d' ∧ x.1 ≤ 100 ∧ x.1 ≤ gs.length ∧ Cov d' x.2.2 devK (.pointer (some ⟨b, 0, none⟩)) L' ∧ Tl x.2.2 x.1 x.2.1) (fun x => 100 - x.1) (0, 0, newC (1 + m)) ⟨rfl, rfl, rfl, rfl, rfl, trivial⟩ ⟨Le.refl _, by omega, by omega, hc, hT0⟩ ?_
  rintro ⟨i, n, c⟩ ρ d3 L3 ⟨hl3, hi, hig, hc3, hT⟩
  simp only at hi hig hc3 hT ⊢
  have hgs3 : RSl 1 RInt d3 gv gs := RInts.mono hgs2 hl3
  by_cases e1 : i < gs.length
  · by_cases e2 : i < 100
    · obtain ⟨k, hk, hk12⟩ := nat_rem gs[i] 12 (by omega)
      replace hk : gs[i] % 18446744073709551616 % 12 = (k : Int) := hk
      (apply w_sq; apply w_sq; apply w_reg; apply w_mvi; rfl; apply w_mv; apply w_lenR; rfl; assumption; apply w_lss; rfl; rfl; apply w_mvb; rfl; refine w_gdT rfl (by omega) ?_; apply w_gT; rfl; apply w_mvi; rfl; apply w_gT; rfl; apply w_lss; rfl; rfl; apply w_pickTb; rfl; rfl; apply w_done0; refine w_ifdT rfl (by omega) ?_; apply w_skip; apply w_sq; apply w_block; apply w_sq; apply w_reg; apply w_mv; apply w_mvi; rfl; refine w_idxR (sz := 1) (R := RInt) (by rfl) (by assumption) (by rfl) rfl (by omega) ?_; rintro _ _ _ _ _ ⟨rfl, _, _⟩; apply w_ld; rfl; exact hc_ds0 (by assumption) rfl; apply w_cviu; rfl; apply w_rem; rfl; rfl; omega; omega; apply w_cvi64; rfl; omega; omega; apply w_mvi; rfl; apply w_done0; apply w_sq; apply w_reg; apply w_mvp; rfl; apply w_mvi; rfl)
      refine gws_env (g := 10) (congrArg (Value.int .i64) hk) ?_
      refine gws_env (g := 45) (congrArg (Value.int .i64) hk) ?_
      refine w_callO (h3.cov (k := k) hc3 (hT.pinB (by omega)) (by omega)) rfl (fun u d4 L4 hl4 ⟨hc4, hg⟩ => ?_)
      rw [devK_cur hk12] at hc4 hg
      cases hr : getF (curK k) c k with
      | mk c' o =>
      rw [hr] at hc4 hg
      simp only at hc4 hg
      have hls4 : RSl 1 RBool d4 lv ls := RSl.mono (fun _ h => h) hls2 (hl3.trans hl4)
      obtain ⟨wa, wn, wc, we, rfl, hw⟩ := hg.form
      (apply w_mvu; rfl; apply w_ext; rfl; rfl; apply w_ext; rfl; rfl; apply w_mvs; rfl; apply w_mvi; rfl; apply w_done0)
      refine w_mid (fun ρ d' L' => ∃ c' n', SlotsAre ρ [(1, gv), (2, lv), (7, .pointer (some ⟨b, 0, none⟩)), (8, .int .i64 (n' : Nat)), (9, .int .i64 (i : Nat))] ∧ Le d2 d' ∧ Cov d' c' devK (.pointer (some ⟨b, 0, none⟩)) L' ∧ Tl c' (i + 1) n') ?_ ?_
      · cases o with
        | none =>
          obtain ⟨rfl, rfl⟩ := hw
          obtain ⟨rfl, -⟩ := get_none hT.inv hr
          (apply w_sq; apply w_reg; apply w_mvi; rfl; apply w_eql; rfl; rfl; apply w_done0; refine w_ifdF rfl (by omega) ?_; apply w_sq; apply w_reg; apply w_mvi; rfl; apply w_neq; rfl; rfl; apply w_mvb; rfl; refine w_gdF rfl (by omega) ?_; apply w_gT; rfl; apply w_mvs; rfl; apply w_gT; rfl; apply w_len; rfl; apply w_gT; rfl; apply w_neq; rfl; rfl; apply w_pickFb; rfl; rfl; apply w_done0; refine w_ifdF rfl (by omega) ?_; apply w_skip)
          exact ⟨c', n, ⟨rfl, rfl, rfl, rfl, rfl, trivial⟩, hl3.trans hl4, hc4, hT.next⟩
        | some bb =>
          obtain ⟨rfl, hwn, hw⟩ := hw
          obtain ⟨hT4, rfl, hp4⟩ := hT.get hk12 hr
          have hbl := curK_len k
          have hw' : RSl 1 RByte d4 (.slice wa wn wc) (curK k) := hw
          have hnle := hT.le
          have hb0 : ((curK k)[0]'(by omega)).toNat = (UInt8.ofNat ((k : Int) % 256).toNat).toNat := congrArg UInt8.toNat (List.getElem_replicate ..)
          have hb1 : ((curK k)[255]'(by omega)).toNat = (UInt8.ofNat ((k : Int) % 256).toNat).toNat := congrArg UInt8.toNat (List.getElem_replicate ..)
          (apply w_sq; apply w_reg; apply w_mvi; rfl; apply w_eql; rfl; rfl; apply w_done0; refine w_ifdT rfl (by omega) ?_; apply w_sq; apply w_reg; apply w_mvi; rfl; apply w_add; rfl; rfl; omega; omega; apply w_mvi; rfl; apply w_done0; apply w_sq; apply w_sq; apply w_reg; apply w_mvs; rfl; apply w_len; rfl; apply w_neq; rfl; rfl; apply w_mvb; rfl; refine w_gdF rfl (by omega) ?_; apply w_gT; rfl; apply w_mvs; rfl; apply w_gT; rfl; refine w_idxR (m := 0) (sz := 1) (R := RByte) (by rfl) (by assumption) (by rfl) rfl (by omega) ?_; rintro _ _ _ _ _ rfl; apply w_gT; rfl; apply w_ld; rfl; exact hc_ds0 (by assumption) rfl; apply w_gT; rfl; apply w_mvi; rfl; apply w_gT; rfl; apply w_cvb; rfl; apply w_gT; rfl; apply w_neq; rfl; rfl; apply w_pickFb; rfl; rfl; apply w_mvb; rfl; refine w_gdF rfl (by omega) ?_; apply w_gT; rfl; apply w_mvs; rfl; apply w_gT; rfl; refine w_idxR (sz := 1) (R := RByte) (by rfl) (by assumption) (by rfl) (Int.natCast_add _ 1).symm (by omega) ?_; rintro _ _ _ _ _ rfl; apply w_gT; rfl; apply w_ld; rfl; exact hc_ds0 (by assumption) rfl; apply w_gT; rfl; apply w_mvi; rfl; apply w_gT; rfl; apply w_cvb; rfl; apply w_gT; rfl; apply w_neq; rfl; rfl; apply w_pickFb; rfl; rfl; apply w_done0)
          refine w_ifdF rfl (fun h => h (congrArg (Nat.cast (R := Int)) hb1)) ?_
          (apply w_skip; apply w_sq; apply w_reg; apply w_mvi; rfl; apply w_mv; apply w_lenR; rfl; assumption; apply w_lss; rfl; rfl; apply w_mvb; rfl)
          by_cases el : i < ls.length
          · cases hli : ls[i] with
            | false =>
              (refine w_gdT rfl (by omega) ?_; apply w_gT; rfl; apply w_mv; apply w_gT; rfl; apply w_mvi; rfl; apply w_gT; rfl; refine w_idxR (sz := 1) (R := RBool) (by rfl) (by assumption) (by rfl) rfl (by omega) ?_; rintro _ _ _ _ _ rfl; apply w_gT; rfl; apply w_ld; rfl; exact hc_ds0 (by assumption) rfl; apply w_pickTb; rfl; rfl; apply w_mvb; rfl; apply w_gbF; rfl; (with_reducible assumption); apply w_gF; rfl; apply w_gF; rfl; apply w_gF; rfl; apply w_gF; rfl; apply w_pickFb; rfl; rfl; apply w_done0; apply w_ifF; rfl; apply w_skip)
              exact ⟨c', n + 1, ⟨rfl, rfl, rfl, rfl, rfl, trivial⟩, hl3.trans hl4, hc4, hT4⟩
            | true =>
              (refine w_gdT rfl (by omega) ?_; apply w_gT; rfl; apply w_mv; apply w_gT; rfl; apply w_mvi; rfl; apply w_gT; rfl; refine w_idxR (sz := 1) (R := RBool) (by rfl) (by assumption) (by rfl) rfl (by omega) ?_; rintro _ _ _ _ _ rfl; apply w_gT; rfl; apply w_ld; rfl; exact hc_ds0 (by assumption) rfl; apply w_pickTb; rfl; rfl; apply w_mvb; rfl; apply w_gbT; rfl; (with_reducible assumption); apply w_gT; rfl; apply w_mvp; rfl; apply w_gT; rfl; apply w_mvi; rfl; apply w_gT; rfl)
              obtain ⟨hT5, e5⟩ := hT4.leave hp4
              refine w_callO (h4.cov (k := k) hc4 (hT4.pinB (by omega))) rfl (fun u d5 L5 hl5 ⟨g1, g2⟩ => ?_)
              rw [e5] at g1
              subst g1
              (apply w_gT; rfl; apply w_neq; rfl; rfl; apply w_pickTb; rfl; rfl; apply w_done0; refine w_ifdF rfl (by omega) ?_; apply w_skip)
              exact ⟨_, n + 1, ⟨rfl, rfl, rfl, rfl, rfl, trivial⟩, (hl3.trans hl4).trans hl5, g2, hT5⟩
          · (refine w_gdF rfl (by omega) ?_; apply w_gF; rfl; apply w_gF; rfl; apply w_gF; rfl; apply w_gF; rfl; apply w_pickFb; rfl; rfl; apply w_mvb; rfl; apply w_gF; rfl; apply w_gF; rfl; apply w_gF; rfl; apply w_gF; rfl; apply w_pickFb; rfl; rfl; apply w_done0; apply w_ifF; rfl; apply w_skip)
            exact ⟨c', n + 1, ⟨rfl, rfl, rfl, rfl, rfl, trivial⟩, hl3.trans hl4, hc4, hT4⟩
      · rintro ρ d5 L5 ⟨c5, n5, hs5, hl5, hc5, hT5⟩
        refine gwp_slots _ hs5 ?_
        have hle := hT5.le
        have hsum := hT5.sum
        (apply w_sq; apply w_sq; apply w_reg; apply w_mvp; rfl)
        refine w_readP (A := L5) (B := []) (by rw [List.append_nil]) rfl (h5.cov hc5) ?_
        rw [wr_eq (by omega)]
        (apply w_mvp; rfl)
        refine w_readP (A := L5) (B := []) (by rw [List.append_nil]) rfl (h6.cov hc5) ?_
        rw [wr_eq (by omega)]
        (apply w_add; rfl; rfl; omega; omega; apply w_mvi; rfl; apply w_neq; rfl; rfl; apply w_done0; refine w_ifdF rfl (by omega) ?_; apply w_skip; apply w_sq; apply w_reg; apply w_aloL; intro _ _; apply w_done0; apply w_sq; apply w_reg; apply w_mvp; rfl)
        rename_i sb Ts
        refine w_callP (A := L5) (B := [bx sb Ts [.bool false, .bool false, .bool false, .bool false, .bool false, .bool false, .bool false, .bool false, .bool false, .bool false, .bool false, .bool false]]) (List.perm_append_comm (l₁ := [_])) rfl
          (h7.cov hc5 (hT5.inv.sec_le (by omega))) (fun hv d6 L6 hl6 ⟨e6, hw6⟩ => ⟨d6, bx sb Ts ((List.replicate 12 false).map Value.bool) :: L5, by subst e6; exact Vs.perm (List.perm_append_comm (l₂ := [_])), ?_⟩)
        subst e6
        have hhl : (heldF c5).length = c5.fr.length := by simp [heldF]
        have hfl := hT5.inv.n2
        have hw6' : RSl 1 RInt d6 hv (heldF c5) := hw6
        obtain ⟨ha, hcp, rfl⟩ := hw6'.val
        (apply w_len; rfl; apply w_mvi; rfl; apply w_done0; apply w_block)
        refine w_loopS (α := Nat × List Bool) (fun x => [(1, gv), (2, lv), (7, .pointer (some ⟨b, 0, none⟩)), (8, .int .i64 n5), (9, .int .i64 i), (13, .pointer (some ⟨sb, 0, none⟩)), (103, .slice ha (heldF c5).length hcp), (104, .int .i64 (heldF c5).length), (105, .int .i64 x.1)])
          (fun x d' L' => d' = d6 ∧ L' = bx sb Ts (x.2.map Value.bool) :: L6 ∧ x.1 ≤ (heldF c5).length ∧ Seen (heldF c5) x.1 x.2) (fun x => (heldF c5).length - x.1) (0, List.replicate 12 false) ⟨rfl, rfl, rfl, rfl, rfl, rfl, rfl, rfl, rfl, trivial⟩
          ⟨rfl, rfl, by omega, List.length_replicate, fun s hs hb => by rw [List.getElem_replicate] at hb; cases hb⟩ ?_
        rintro ⟨j, bs⟩ ρ d' L' ⟨rfl, rfl, hj, hseen⟩
        simp only at hj hseen ⊢
        by_cases ej : j < (heldF c5).length
        · obtain ⟨g1, g2⟩ := hT5.inv.held j ej
          by_cases e0 : 0 ≤ (heldF c5)[j]
          · obtain ⟨s, hs⟩ : ∃ s : Nat, (heldF c5)[j] = (s : Int) := ⟨(heldF c5)[j].toNat, by omega⟩
            have hs12 : s < 12 := by omega
            have hbl := hseen.1
            have hbs : bs[s]'(by omega) = false := by
              cases q : bs[s]'(by omega) with
              | false => rfl
              | true =>
                obtain ⟨j', k1, k2⟩ := hseen.2 s (by omega) q
                obtain ⟨k3, k4⟩ := List.getElem?_eq_some_iff.1 k2
                exact absurd (k4.trans hs.symm) (g2 j' k1 e0)
            have hcell : (bs.map Value.bool)[s]? = some (.bool false) := by rw [List.getElem?_map, List.getElem?_eq_getElem (by omega), hbs]; rfl
            have hcell' : (bs.map Value.bool)[0 + s * 1]? = some (.bool false) := by rw [Nat.zero_add, Nat.mul_one]; exact hcell
            (apply w_sq; apply w_reg; apply w_lss; rfl; rfl; apply w_done0; apply w_sq; refine w_ifdT rfl (by omega) ?_; apply w_skip; apply w_sq; apply w_block; apply w_sq; apply w_reg; refine w_idxR (sz := 1) (R := RInt) (by rfl) (by assumption) (by rfl) rfl (by omega) ?_; rintro _ _ _ _ _ ⟨rfl, _, _⟩; apply w_ld; rfl; exact hc_ds0 (by assumption) rfl; apply w_mvi; rfl; apply w_done0; apply w_sq; apply w_sq; apply w_reg; apply w_mvi; rfl; apply w_geq; rfl; rfl; apply w_mvb; rfl; refine w_gdF rfl (by omega) ?_; apply w_gT; rfl; apply w_mvi; rfl; apply w_gT; rfl; apply w_geq; rfl; rfl; apply w_gT; rfl; apply w_mvb; rfl; refine w_gdT rfl (by omega) ?_; apply w_gT; rfl; apply w_mvi; rfl; apply w_gT; rfl)
            refine w_idxa s rfl rfl hs hs12 ?_
            (apply w_gT; rfl; apply w_ld; rfl; exact hc_i 0 rfl (by assumption); apply w_gT; rfl; apply w_pickTb; rfl; rfl; apply w_pickFb; rfl; rfl; apply w_done0; apply w_ifF; rfl; apply w_skip; apply w_sq; apply w_reg; apply w_mvi; rfl; apply w_geq; rfl; rfl; apply w_done0; refine w_ifdT rfl (by omega) ?_; apply w_reg; apply w_mvi; rfl)
            refine w_idxa s rfl rfl hs hs12 ?_
            refine w_stE 0 ((bs.set s true).map Value.bool) rfl rfl rfl rfl (by rw [List.length_map, hbl]; omega) rfl ?_ ?_
            · rw [Nat.zero_add, Nat.mul_one, List.map_set]
              exact patch_set (by rw [List.length_map]; omega)
            (apply w_done0; apply w_reg; apply w_add; rfl; rfl; omega; omega; apply w_mvi; rfl; apply w_done0)
            exact ⟨(j + 1, bs.set s true), by simp only; omega, ⟨rfl, rfl, rfl, rfl, rfl, rfl, rfl, rfl, rfl, trivial⟩, rfl, rfl, ej, seen_step hseen ej hs12 hs⟩
          · (apply w_sq; apply w_reg; apply w_lss; rfl; rfl; apply w_done0; apply w_sq; refine w_ifdT rfl (by omega) ?_; apply w_skip; apply w_sq; apply w_block; apply w_sq; apply w_reg; refine w_idxR (sz := 1) (R := RInt) (by rfl) (by assumption) (by rfl) rfl (by omega) ?_; rintro _ _ _ _ _ ⟨rfl, _, _⟩; apply w_ld; rfl; exact hc_ds0 (by assumption) rfl; apply w_mvi; rfl; apply w_done0; apply w_sq; apply w_sq; apply w_reg; apply w_mvi; rfl; apply w_geq; rfl; rfl; apply w_mvb; rfl; refine w_gdF rfl (by omega) ?_; apply w_gT; rfl; apply w_mvi; rfl; apply w_gT; rfl; apply w_geq; rfl; rfl; apply w_gT; rfl; apply w_mvb; rfl; refine w_gdF rfl (by omega) ?_; apply w_gF; rfl; apply w_gF; rfl; apply w_gF; rfl; apply w_gT; rfl; apply w_pickFb; rfl; rfl; apply w_pickFb; rfl; rfl; apply w_done0; apply w_ifF; rfl; apply w_skip; apply w_sq; apply w_reg; apply w_mvi; rfl; apply w_geq; rfl; rfl; apply w_done0; refine w_ifdF rfl (by omega) ?_; apply w_skip; apply w_reg; apply w_add; rfl; rfl; omega; omega; apply w_mvi; rfl; apply w_done0)
            exact ⟨(j + 1, bs), by simp only; omega, ⟨rfl, rfl, rfl, rfl, rfl, rfl, rfl, rfl, rfl, trivial⟩, rfl, rfl, ej, seen_next hseen⟩
        · have hd1 : Vs d' (bx sb Ts (bs.map Value.bool) :: L6) d' L6 := Vs.drop (List.sublist_cons_self _ _)
          (apply w_sq; apply w_reg)
          refine w_vs d' L6 hd1 ?_
          (apply w_lss; rfl; rfl; apply w_done0; apply w_sq; refine w_ifdF rfl (by omega) ?_; apply w_exit; apply w_reg; apply w_mvi; rfl; apply w_add; rfl; rfl; omega; omega; apply w_mvi; rfl; apply w_done0)
          exact ⟨(i + 1, n5, c5), by simp only; omega, ⟨rfl, rfl, rfl, rfl, rfl, trivial⟩, hl5.trans hl6, by simp only; omega, by simp only; omega, hc5.mono hl6, hT5⟩
    · (apply w_sq; apply w_sq; apply w_reg; apply w_mvi; rfl; apply w_mv; apply w_lenR; rfl; assumption; apply w_lss; rfl; rfl; apply w_mvb; rfl; refine w_gdT rfl (by omega) ?_; apply w_gT; rfl; apply w_mvi; rfl; apply w_gT; rfl; apply w_lss; rfl; rfl; apply w_pickTb; rfl; rfl; apply w_done0; refine w_ifdF rfl (by omega) ?_; apply w_exit; apply w_sq; apply w_reg; apply w_mvb; rfl; apply w_done0; apply w_ret)
      exact fin1 rfl (List.nil_sublist _) rfl
  · (apply w_sq; apply w_sq; apply w_reg; apply w_mvi; rfl; apply w_mv; apply w_lenR; rfl; assumption; apply w_lss; rfl; rfl; apply w_mvb; rfl; refine w_gdF rfl (by omega) ?_; apply w_gF; rfl; apply w_gF; rfl; apply w_pickFb; rfl; rfl; apply w_done0; apply w_ifF; rfl; apply w_exit; apply w_sq; apply w_reg; apply w_mvb; rfl; apply w_done0; apply w_ret)
    exact fin1 rfl (List.nil_sublist _) rfl
end Go.Gk.Cch
end

section
namespace Go.Gk.Chn
open Go Go.Gk Go.Gk.Dev Go.Gk.Cch Go.Gk.Pgr

structure Shelf (s : PD) (bs : List (List UInt8)) (ls : List (List Int)) : Prop where
  len : ls.length = bs.length
  ch : ∀ i (h : i < bs.length), Chain s bs[i] (ls.getD i [])
  fr : ∀ i, i < bs.length → ∀ k ∈ ls.getD i [], s.kind k = 1
  nd : ∀ i, i < bs.length → (ls.getD i []).Nodup
  ap : ∀ i j, i < bs.length → j < bs.length → i ≠ j → ∀ k ∈ ls.getD i [], k ∉ ls.getD j []
theorem Shelf.nil (s : PD) : Shelf s [] [] := ⟨rfl, fun i h => absurd h (Nat.not_lt_zero i), fun i h => absurd h (Nat.not_lt_zero i), fun i h => absurd h (Nat.not_lt_zero i), fun i j h => absurd h (Nat.not_lt_zero i)⟩
theorem getD_app_lt {α : Type} {l : List α} {x d : α} {i : Nat} (h : i < l.length) : (l ++ [x]).getD i d = l.getD i d := by
  rw [List.getD_eq_getElem?_getD, List.getD_eq_getElem?_getD, List.getElem?_append_left h]
theorem getD_app_eq {α : Type} {l : List α} {x d : α} : (l ++ [x]).getD l.length d = x := by
  rw [List.getD_eq_getElem?_getD, List.getElem?_append_right (Nat.le_refl _)]; simp
theorem Shelf.put {s t : PD} {bs : List (List UInt8)} {ls : List (List Int)} (h : Shelf s bs ls) {b : List UInt8} {l : List Int} (hc : Chain t b l) (hk : ∀ k ∈ l, t.kind k = 1 ∧ s.kind k = 0)
    (ho : ∀ k, k ∉ l → t.kind k = s.kind k ∧ t.bytes k = s.bytes k) (hn : l.Nodup) : Shelf t (bs ++ [b]) (ls ++ [l]) := by
  have hl := h.len
  have hnot : ∀ i, i < bs.length → ∀ k ∈ ls.getD i [], k ∉ l := fun i hi k hk1 hk2 => by
    have h1 := h.fr i hi k hk1
    have h2 := (hk k hk2).2
    omega
  have hat : ∀ i, i < bs.length → (ls ++ [l]).getD i [] = ls.getD i [] := fun i hi => getD_app_lt (by omega)
  have hat' : (ls ++ [l]).getD bs.length [] = l := by rw [← hl]; exact getD_app_eq
  have hcase : ∀ i, i < (bs ++ [b]).length → i < bs.length ∨ i = bs.length := fun i hi => by simp at hi; omega
  refine ⟨by simp [hl], fun i hi => ?_, fun i hi k hk1 => ?_, fun i hi => ?_, fun i j hi hj hij k hk1 hk2 => ?_⟩
  · rcases hcase i hi with q | rfl
    · rw [hat i q, List.getElem_append_left q]
      exact (h.ch i q).stay (fun k hk1 => ho k (hnot i q k hk1))
    · rw [hat']; simpa using hc
  · rcases hcase i hi with q | rfl
    · rw [hat i q] at hk1
      rw [(ho k (hnot i q k hk1)).1]; exact h.fr i q k hk1
    · rw [hat'] at hk1; exact (hk k hk1).1
  · rcases hcase i hi with q | rfl
    · rw [hat i q]; exact h.nd i q
    · rw [hat']; exact hn
  · rcases hcase i hi with q | rfl <;> rcases hcase j hj with q' | rfl
    · rw [hat i q] at hk1; rw [hat j q'] at hk2; exact h.ap i j q q' hij k hk1 hk2
    · rw [hat i q] at hk1; rw [hat'] at hk2; exact hnot i q k hk1 hk2
    · rw [hat'] at hk1; rw [hat j q'] at hk2; exact hnot j q' k hk2 hk1
    · exact hij rfl
theorem Shelf.heads {s : PD} {bs : List (List UInt8)} {ls : List (List Int)} (h : Shelf s bs ls) {i : Nat} (hi : i < bs.length) : (ls.getD i []) ≠ [] := by
  have h1 := (h.ch i hi).len
  have := pages_one (n := bs[i].length)
  intro q
  rw [q] at h1
  simp at h1
  omega
theorem Shelf.drop {s : PD} {bs : List (List UInt8)} {ls : List (List Int)} (h : Shelf s bs ls) (hb : ∀ b ∈ bs, b.length ≤ 16384) {k : Nat} (hk : k < bs.length) :
    cdropF s ((ls.getD k []).getD 0 0) bs[k].length = (dropL s (ls.getD k []), 0) ∧ (dropL s (ls.getD k [])).free = s.free + pagesN bs[k].length ∧
    (∀ i (hi : i < bs.length), readF (dropL s (ls.getD k [])) ((ls.getD i []).getD 0 0) bs[i].length = if i = k then ([], [], 240) else (ls.getD i [], bs[i], 0)) := by
  have hbk := hb _ (List.getElem_mem hk)
  obtain ⟨h1, h2, h3, h4⟩ := drops_ok (h.fr k hk) (h.nd k hk)
  refine ⟨cdrop_chain (h.ch k hk) hbk (h.fr k hk) (h.nd k hk), by rw [h1, (h.ch k hk).len], fun i hi => ?_⟩
  by_cases e : i = k
  · subst e
    rw [if_pos rfl]
    have hne := h.heads hk
    obtain ⟨x, l', hl'⟩ : ∃ x l', ls.getD i [] = x :: l' := List.exists_cons_of_ne_nil hne
    refine readF_gone hbk ?_
    have := h3 x (by rw [hl']; exact List.mem_cons_self ..)
    rw [hl'] at this ⊢
    exact this
  · rw [if_neg e]
    exact readF_chain ((h.ch i hi).stay (fun k' hk' => h4 k' (h.ap i k hi hk e k' hk'))) (hb _ (List.getElem_mem hi))
end Go.Gk.Chn
end

section
namespace Go.Gk.Chn
open Go Go.Gk Go.Gk.Dev Go.Gk.Cch Go.Gk.Pgr Go.Gk.Node
attribute [local irreducible] gwp gws xwp

theorem w_joint {P : Program} {ρ : Env} {d : PHeap} {L : List PHeap} {c : GCode} {Q : GPost} (M : Env → Post) (h : gwp P c { Q with n := M } ρ d L) (k : ∀ ρ d L, M ρ d L → Q.n ρ d L) : gwp P c Q ρ d L :=
  gwp_mono (N := M) (N' := Q.n) k h
theorem w_jointX {P : Program} {ρ : Env} {d : PHeap} {L : List PHeap} {c : GCode} {Q : GPost} (j : Nat) (M : Env → Post) (h : gwp P c ⟨fun _ _ _ => False, fun i ρ d L => i = j ∧ M ρ d L, fun _ _ _ => False, Q.pan⟩ ρ d L) (k : ∀ ρ d L, M ρ d L → Q.ex j ρ d L) : gwp P c Q ρ d L :=
  gwp_mono' c h (fun _ _ _ q => q.elim) (fun i ρ d L ⟨e, q⟩ => by subst e; exact k _ _ _ q) (fun _ _ _ q => q.elim) rfl
theorem dropsF_tc {tc : Nat} : ∀ {l : List Int} {s : PD}, dropsF { s with tc := tc } l = ({ (dropsF s l).1 with tc := tc }, (dropsF s l).2)
  | [], _ => rfl
  | k :: l, s => by
    rw [dropsF, dropsF, drop_tc]
    simp only
    by_cases e : (s.drop k).2 = 0
    · rw [if_pos e, if_pos e]; exact dropsF_tc
    · rw [if_neg e, if_neg e]
theorem cdropF_tc {s : PD} {tc : Nat} {k size : Int} : cdropF { s with tc := tc } k size = ({ (cdropF s k size).1 with tc := tc }, (cdropF s k size).2) := by
  unfold cdropF
  rw [readF_tc]
  by_cases e : (readF s k size).2.2 = 0
  · rw [if_pos e, if_pos e]; exact dropsF_tc
  · rw [if_neg e, if_neg e]
abbrev headsOf (ls : List (List Int)) : List Int := ls.map (·.getD 0 0)
theorem heads_at {ls : List (List Int)} {i : Nat} (h : i < (headsOf ls).length) : (headsOf ls)[i] = (ls.getD i []).getD 0 0 := by
  have : i < ls.length := by simpa using h
  rw [List.getElem_map, List.getD_eq_getElem?_getD (l := ls), List.getElem?_eq_getElem this]; rfl
def g_thimblelaw21_ChainBack (f_thimblelaw21_works f_thimblelaw21_Made f_pager_Pager_Free f_chain_Put f_chain_Pages f_chain_Get f_chain_List f_chain_Drop : Nat) : GFun :=
 ⟨255, [(.tmp 4)],
 (.seq
 (.reg false (.op false ⟨(some 4), none, (.mv (.const (.bool false)))⟩ .done))
 (.seq (.seq
 (.reg false (.op false ⟨(some 25), none, (.call f_thimblelaw21_works [])⟩
  (.op false ⟨(some 26), none, (.un .not (.tmp 25))⟩ .done))) (.cond (.tmp 26)
 (.seq
 (.reg false (.op false ⟨(some 4), none, (.mv (.const (.bool false)))⟩ .done)) .ret) .skip))
 (.seq
 (.reg false (.op false ⟨(some 27), none, (.call f_thimblelaw21_Made [(.const (.int .i64 60))])⟩
  (.op false ⟨(some 5), none, (.mv (.tmp 27))⟩ .done)))
 (.seq (.seq
 (.reg false (.op false ⟨(some 28), none, (.mv (.tmp 5))⟩
  (.op false ⟨(some 29), none, (.eqp false (.tmp 28) (.const (.pointer none)))⟩ .done))) (.cond (.tmp 29)
 (.seq
 (.reg false (.op false ⟨(some 4), none, (.mv (.const (.bool false)))⟩ .done)) .ret) .skip))
 (.seq
 (.reg false (.op false ⟨(some 6), none, (.mv (.const (.slice none 0 0)))⟩ .done))
 (.seq
 (.reg false (.op false ⟨(some 7), none, (.mv (.const (.slice none 0 0)))⟩ .done))
 (.seq (.seq
 (.reg false (.op false ⟨(some 8), none, (.mv (.const (.int .i64 0)))⟩ .done)) (.block 0 (.loop
 (.seq (.seq
 (.reg false (.op false ⟨(some 30), none, (.mv (.tmp 8))⟩
  (.op false ⟨(some 31), none, (.mv (.tmp 0))⟩
  (.op false ⟨(some 32), none, (.len (.tmp 31))⟩
  (.op false ⟨(some 33), none, (.bin .lss (.tmp 30) (.tmp 32))⟩
  (.op false ⟨(some 34), none, (.mv (.tmp 33))⟩
  (.op false ⟨(some 35), (some (34, true)), (.mv (.tmp 8))⟩
  (.op false ⟨(some 36), (some (34, true)), (.bin .lss (.tmp 35) (.const (.int .i64 8)))⟩
  (.op false ⟨(some 37), none, (.pick (.tmp 34) (.tmp 36) (.const (.bool false)))⟩ .done))))))))) (.cond (.tmp 37) .skip (.exit 0)))
 (.seq (.block 1
 (.seq
 (.reg false (.op false ⟨(some 40), none, (.mv (.tmp 0))⟩
  (.op false ⟨(some 41), none, (.mv (.tmp 8))⟩
  (.op false ⟨(some 42), none, (.idx 1 (.tmp 40) (.tmp 41))⟩
  (.op false ⟨(some 43), none, (.ld none (.tmp 42))⟩
  (.op false ⟨(some 9), none, (.mv (.tmp 43))⟩ .done))))))
 (.seq (.seq
 (.reg false (.op false ⟨(some 44), none, (.mv (.tmp 9))⟩
  (.op false ⟨(some 45), none, (.len (.tmp 44))⟩
  (.op false ⟨(some 46), none, (.bin .gtr (.tmp 45) (.const (.int .i64 1500)))⟩ .done)))) (.cond (.tmp 46)
 (.reg false (.op false ⟨(some 47), none, (.mv (.tmp 9))⟩
  (.op false ⟨(some 48), none, (.sl 1 (.tmp 47) none (some (.const (.int .i64 1500))) none)⟩
  (.op false ⟨(some 9), none, (.mv (.tmp 48))⟩ .done)))) .skip))
 (.seq
 (.reg false (.op false ⟨(some 49), none, (.mv (.tmp 5))⟩
  (.op false ⟨(some 50), none, (.nilc (.tmp 49))⟩
  (.op false ⟨(some 51), none, (.fld 0 (.tmp 50))⟩
  (.op false ⟨(some 52), none, (.ld none (.tmp 51))⟩
  (.op false ⟨(some 53), none, (.call f_pager_Pager_Free [(.tmp 52)])⟩
  (.op false ⟨(some 10), none, (.mv (.tmp 53))⟩ .done)))))))
 (.seq
 (.reg false (.op false ⟨(some 55), none, (.mv (.tmp 5))⟩
  (.op false ⟨(some 56), none, (.nilc (.tmp 55))⟩
  (.op false ⟨(some 57), none, (.fld 0 (.tmp 56))⟩
  (.op false ⟨(some 58), none, (.ld none (.tmp 57))⟩
  (.op false ⟨(some 59), none, (.mv (.tmp 9))⟩
  (.op false ⟨(some 60), none, (.call f_chain_Put [(.tmp 58), (.tmp 59)])⟩
  (.op false ⟨(some 54), none, (.mv (.tmp 60))⟩
  (.op false ⟨(some 61), none, (.ext (.tmp 54) 0)⟩
  (.op false ⟨(some 62), none, (.ext (.tmp 54) 1)⟩
  (.op false ⟨(some 11), none, (.mv (.tmp 61))⟩
  (.op false ⟨(some 12), none, (.mv (.tmp 62))⟩ .done))))))))))))
 (.seq (.seq
 (.reg false (.op false ⟨(some 63), none, (.mv (.tmp 12))⟩
  (.op false ⟨(some 64), none, (.bin .neq (.tmp 63) (.const (.int .i64 0)))⟩
  (.op false ⟨(some 65), none, (.mv (.tmp 64))⟩
  (.op false ⟨(some 66), (some (65, false)), (.mv (.tmp 5))⟩
  (.op false ⟨(some 67), (some (65, false)), (.nilc (.tmp 66))⟩
  (.op false ⟨(some 68), (some (65, false)), (.fld 0 (.tmp 67))⟩
  (.op false ⟨(some 69), (some (65, false)), (.ld none (.tmp 68))⟩
  (.op false ⟨(some 70), (some (65, false)), (.call f_pager_Pager_Free [(.tmp 69)])⟩
  (.op false ⟨(some 71), (some (65, false)), (.mv (.tmp 10))⟩
  (.op false ⟨(some 72), (some (65, false)), (.mv (.tmp 9))⟩
  (.op false ⟨(some 73), (some (65, false)), (.len (.tmp 72))⟩
  (.op false ⟨(some 74), (some (65, false)), (.call f_chain_Pages [(.tmp 73)])⟩
  (.op false ⟨(some 75), (some (65, false)), (.bin .sub (.tmp 71) (.tmp 74))⟩
  (.op false ⟨(some 76), (some (65, false)), (.bin .neq (.tmp 70) (.tmp 75))⟩
  (.op false ⟨(some 77), none, (.pick (.tmp 65) (.const (.bool true)) (.tmp 76))⟩ .done)))))))))))))))) (.cond (.tmp 77)
 (.seq
 (.reg false (.op false ⟨(some 4), none, (.mv (.const (.bool false)))⟩ .done)) .ret) .skip))
 (.reg false (.op false ⟨(some 78), none, (.mv (.tmp 6))⟩
  (.op false ⟨(some 79), none, (.mv (.tmp 11))⟩
  (.op false ⟨(some 80), none, (.bsl 1 1 [(.int .i64 0)] [(0, (.tmp 79))])⟩
  (.op false ⟨(some 81), none, (.app 1 8 [(.int .i64 0)] (.tmp 78) (.tmp 80))⟩
  (.op false ⟨(some 82), none, (.mv (.tmp 7))⟩
  (.op false ⟨(some 83), none, (.mv (.tmp 9))⟩
  (.op false ⟨(some 84), none, (.bsl 1 1 [(.slice none 0 0)] [(0, (.tmp 83))])⟩
  (.op false ⟨(some 85), none, (.app 1 24 [(.slice none 0 0)] (.tmp 82) (.tmp 84))⟩
  (.op false ⟨(some 6), none, (.mv (.tmp 81))⟩
  (.op false ⟨(some 7), none, (.mv (.tmp 85))⟩ .done)))))))))))))))))
 (.reg false (.op false ⟨(some 38), none, (.mv (.tmp 8))⟩
  (.op false ⟨(some 39), none, (.bin .add (.tmp 38) (.const (.int .i64 1)))⟩
  (.op false ⟨(some 8), none, (.mv (.tmp 39))⟩ .done)))))))))
 (.seq (.seq
 (.reg false (.op false ⟨(some 86), none, (.mv (.tmp 6))⟩
  (.op false ⟨(some 87), none, (.len (.tmp 86))⟩
  (.op false ⟨(some 88), none, (.mv (.const (.int .i64 0)))⟩ .done)))) (.block 2 (.loop
 (.seq
 (.reg false (.op false ⟨(some 89), none, (.bin .lss (.tmp 88) (.tmp 87))⟩ .done))
 (.seq (.cond (.tmp 89) .skip (.exit 2))
 (.seq (.block 3
 (.seq
 (.reg false (.op false ⟨(some 90), none, (.mv (.tmp 88))⟩
  (.op false ⟨(some 91), none, (.idx 1 (.tmp 86) (.tmp 88))⟩
  (.op false ⟨(some 92), none, (.ld none (.tmp 91))⟩
  (.op false ⟨(some 13), none, (.mv (.tmp 90))⟩
  (.op false ⟨(some 14), none, (.mv (.tmp 92))⟩ .done))))))
 (.seq
 (.reg true (.op true ⟨(some 94), none, (.mv (.tmp 5))⟩
  (.op true ⟨(some 95), none, (.nilc (.tmp 94))⟩
  (.op true ⟨(some 96), none, (.fld 0 (.tmp 95))⟩
  (.op true ⟨(some 97), none, (.ld none (.tmp 96))⟩
  (.op true ⟨(some 98), none, (.mv (.tmp 14))⟩
  (.op true ⟨(some 99), none, (.mv (.tmp 7))⟩
  (.op true ⟨(some 100), none, (.mv (.tmp 13))⟩
  (.op true ⟨(some 101), none, (.idx 1 (.tmp 99) (.tmp 100))⟩
  (.op true ⟨(some 102), none, (.ld none (.tmp 101))⟩
  (.op true ⟨(some 103), none, (.len (.tmp 102))⟩
  (.op false ⟨(some 104), none, (.call f_chain_Get [(.tmp 97), (.tmp 98), (.tmp 103)])⟩
  (.op true ⟨(some 93), none, (.mv (.tmp 104))⟩
  (.op true ⟨(some 105), none, (.ext (.tmp 93) 0)⟩
  (.op true ⟨(some 106), none, (.ext (.tmp 93) 1)⟩
  (.op true ⟨(some 15), none, (.mv (.tmp 105))⟩
  (.op true ⟨(some 16), none, (.mv (.tmp 106))⟩ .done)))))))))))))))))
 (.seq
 (.reg true (.op true ⟨(some 107), none, (.mv (.tmp 16))⟩
  (.op true ⟨(some 108), none, (.bin .neq (.tmp 107) (.const (.int .i64 0)))⟩
  (.op true ⟨(some 109), none, (.mv (.tmp 108))⟩
  (.op true ⟨(some 110), (some (109, false)), (.mv (.tmp 15))⟩
  (.op true ⟨(some 111), (some (109, false)), (.b2s (.tmp 110))⟩
  (.op true ⟨(some 112), (some (109, false)), (.mv (.tmp 7))⟩
  (.op true ⟨(some 113), (some (109, false)), (.mv (.tmp 13))⟩
  (.op true ⟨(some 114), (some (109, false)), (.idx 1 (.tmp 112) (.tmp 113))⟩
  (.op true ⟨(some 115), (some (109, false)), (.ld none (.tmp 114))⟩
  (.op true ⟨(some 116), (some (109, false)), (.b2s (.tmp 115))⟩
  (.op true ⟨(some 117), (some (109, false)), (.bin .neq (.tmp 111) (.tmp 116))⟩
  (.op true ⟨(some 118), none, (.pick (.tmp 109) (.const (.bool true)) (.tmp 117))⟩ .done))))))))))))) (.cond (.tmp 118)
 (.seq
 (.reg false (.op false ⟨(some 4), none, (.mv (.const (.bool false)))⟩ .done)) .ret) .skip)))))
 (.reg false (.op false ⟨(some 119), none, (.bin .add (.tmp 88) (.const (.int .i64 1)))⟩
  (.op false ⟨(some 88), none, (.mv (.tmp 119))⟩ .done)))))))))
 (.seq (.seq
 (.reg false (.op false ⟨(some 120), none, (.mv (.tmp 6))⟩
  (.op false ⟨(some 121), none, (.len (.tmp 120))⟩
  (.op false ⟨(some 122), none, (.bin .eql (.tmp 121) (.const (.int .i64 0)))⟩ .done)))) (.cond (.tmp 122)
 (.seq
 (.reg false (.op false ⟨(some 4), none, (.mv (.const (.bool true)))⟩ .done)) .ret) .skip))
 (.seq
 (.reg false (.op false ⟨(some 123), none, (.mv (.tmp 1))⟩
  (.op false ⟨(some 124), none, (.cvi .u64 (.tmp 123))⟩
  (.op false ⟨(some 125), none, (.mv (.tmp 6))⟩
  (.op false ⟨(some 126), none, (.len (.tmp 125))⟩
  (.op false ⟨(some 127), none, (.cvi .u64 (.tmp 126))⟩
  (.op false ⟨(some 128), none, (.bin .rem (.tmp 124) (.tmp 127))⟩
  (.op false ⟨(some 129), none, (.cvi .i64 (.tmp 128))⟩
  (.op false ⟨(some 17), none, (.mv (.tmp 129))⟩ .done)))))))))
 (.seq
 (.reg false (.op false ⟨(some 130), none, (.mv (.tmp 5))⟩
  (.op false ⟨(some 131), none, (.nilc (.tmp 130))⟩
  (.op false ⟨(some 132), none, (.fld 0 (.tmp 131))⟩
  (.op false ⟨(some 133), none, (.ld none (.tmp 132))⟩
  (.op false ⟨(some 134), none, (.call f_pager_Pager_Free [(.tmp 133)])⟩
  (.op false ⟨(some 18), none, (.mv (.tmp 134))⟩ .done)))))))
 (.seq
 (.reg true (.op true ⟨(some 136), none, (.mv (.tmp 5))⟩
  (.op true ⟨(some 137), none, (.nilc (.tmp 136))⟩
  (.op true ⟨(some 138), none, (.fld 0 (.tmp 137))⟩
  (.op true ⟨(some 139), none, (.ld none (.tmp 138))⟩
  (.op true ⟨(some 140), none, (.mv (.tmp 6))⟩
  (.op true ⟨(some 141), none, (.mv (.tmp 17))⟩
  (.op true ⟨(some 142), none, (.idx 1 (.tmp 140) (.tmp 141))⟩
  (.op true ⟨(some 143), none, (.ld none (.tmp 142))⟩
  (.op true ⟨(some 144), none, (.mv (.tmp 7))⟩
  (.op true ⟨(some 145), none, (.mv (.tmp 17))⟩
  (.op true ⟨(some 146), none, (.idx 1 (.tmp 144) (.tmp 145))⟩
  (.op true ⟨(some 147), none, (.ld none (.tmp 146))⟩
  (.op true ⟨(some 148), none, (.len (.tmp 147))⟩
  (.op false ⟨(some 149), none, (.call f_chain_List [(.tmp 139), (.tmp 143), (.tmp 148)])⟩
  (.op true ⟨(some 135), none, (.mv (.tmp 149))⟩
  (.op true ⟨(some 150), none, (.ext (.tmp 135) 0)⟩
  (.op true ⟨(some 151), none, (.ext (.tmp 135) 1)⟩
  (.op true ⟨(some 19), none, (.mv (.tmp 150))⟩
  (.op true ⟨(some 20), none, (.mv (.tmp 151))⟩ .done))))))))))))))))))))
 (.seq (.seq
 (.reg true (.op true ⟨(some 152), none, (.mv (.tmp 20))⟩
  (.op true ⟨(some 153), none, (.bin .neq (.tmp 152) (.const (.int .i64 0)))⟩
  (.op true ⟨(some 154), none, (.mv (.tmp 153))⟩
  (.op true ⟨(some 155), (some (154, false)), (.mv (.tmp 19))⟩
  (.op true ⟨(some 156), (some (154, false)), (.len (.tmp 155))⟩
  (.op true ⟨(some 157), (some (154, false)), (.bin .eql (.tmp 156) (.const (.int .i64 0)))⟩
  (.op true ⟨(some 158), none, (.pick (.tmp 154) (.const (.bool true)) (.tmp 157))⟩
  (.op true ⟨(some 159), none, (.mv (.tmp 158))⟩
  (.op true ⟨(some 160), (some (159, false)), (.mv (.tmp 19))⟩
  (.op true ⟨(some 161), (some (159, false)), (.len (.tmp 160))⟩
  (.op true ⟨(some 162), (some (159, false)), (.mv (.tmp 7))⟩
  (.op true ⟨(some 163), (some (159, false)), (.mv (.tmp 17))⟩
  (.op true ⟨(some 164), (some (159, false)), (.idx 1 (.tmp 162) (.tmp 163))⟩
  (.op true ⟨(some 165), (some (159, false)), (.ld none (.tmp 164))⟩
  (.op true ⟨(some 166), (some (159, false)), (.len (.tmp 165))⟩
  (.op false ⟨(some 167), (some (159, false)), (.call f_chain_Pages [(.tmp 166)])⟩
  (.op true ⟨(some 168), (some (159, false)), (.bin .neq (.tmp 161) (.tmp 167))⟩
  (.op true ⟨(some 169), none, (.pick (.tmp 159) (.const (.bool true)) (.tmp 168))⟩
  (.op true ⟨(some 170), none, (.mv (.tmp 169))⟩
  (.op true ⟨(some 171), (some (170, false)), (.mv (.tmp 19))⟩
  (.op true ⟨(some 172), (some (170, false)), (.idx 1 (.tmp 171) (.const (.int .i64 0)))⟩
  (.op true ⟨(some 173), (some (170, false)), (.ld none (.tmp 172))⟩
  (.op true ⟨(some 174), (some (170, false)), (.mv (.tmp 6))⟩
  (.op true ⟨(some 175), (some (170, false)), (.mv (.tmp 17))⟩
  (.op true ⟨(some 176), (some (170, false)), (.idx 1 (.tmp 174) (.tmp 175))⟩
  (.op true ⟨(some 177), (some (170, false)), (.ld none (.tmp 176))⟩
  (.op true ⟨(some 178), (some (170, false)), (.bin .neq (.tmp 173) (.tmp 177))⟩
  (.op true ⟨(some 179), none, (.pick (.tmp 170) (.const (.bool true)) (.tmp 178))⟩
  (.op true ⟨(some 180), none, (.mv (.tmp 179))⟩
  (.op true ⟨(some 181), (some (180, false)), (.mv (.tmp 5))⟩
  (.op true ⟨(some 182), (some (180, false)), (.nilc (.tmp 181))⟩
  (.op true ⟨(some 183), (some (180, false)), (.fld 0 (.tmp 182))⟩
  (.op true ⟨(some 184), (some (180, false)), (.ld none (.tmp 183))⟩
  (.op true ⟨(some 185), (some (180, false)), (.mv (.tmp 6))⟩
  (.op true ⟨(some 186), (some (180, false)), (.mv (.tmp 17))⟩
  (.op true ⟨(some 187), (some (180, false)), (.idx 1 (.tmp 185) (.tmp 186))⟩
  (.op true ⟨(some 188), (some (180, false)), (.ld none (.tmp 187))⟩
  (.op true ⟨(some 189), (some (180, false)), (.mv (.tmp 7))⟩
  (.op true ⟨(some 190), (some (180, false)), (.mv (.tmp 17))⟩
  (.op true ⟨(some 191), (some (180, false)), (.idx 1 (.tmp 189) (.tmp 190))⟩
  (.op true ⟨(some 192), (some (180, false)), (.ld none (.tmp 191))⟩
  (.op true ⟨(some 193), (some (180, false)), (.len (.tmp 192))⟩
  (.op false ⟨(some 194), (some (180, false)), (.call f_chain_Drop [(.tmp 184), (.tmp 188), (.tmp 193)])⟩
  (.op true ⟨(some 195), (some (180, false)), (.bin .neq (.tmp 194) (.const (.int .i64 0)))⟩
  (.op true ⟨(some 196), none, (.pick (.tmp 180) (.const (.bool true)) (.tmp 195))⟩ .done)))))))))))))))))))))))))))))))))))))))))))))) (.cond (.tmp 196)
 (.seq
 (.reg false (.op false ⟨(some 4), none, (.mv (.const (.bool false)))⟩ .done)) .ret) .skip))
 (.seq (.seq
 (.reg false (.op false ⟨(some 197), none, (.mv (.tmp 5))⟩
  (.op false ⟨(some 198), none, (.nilc (.tmp 197))⟩
  (.op false ⟨(some 199), none, (.fld 0 (.tmp 198))⟩
  (.op false ⟨(some 200), none, (.ld none (.tmp 199))⟩
  (.op false ⟨(some 201), none, (.call f_pager_Pager_Free [(.tmp 200)])⟩
  (.op false ⟨(some 202), none, (.mv (.tmp 18))⟩
  (.op false ⟨(some 203), none, (.mv (.tmp 19))⟩
  (.op false ⟨(some 204), none, (.len (.tmp 203))⟩
  (.op false ⟨(some 205), none, (.bin .add (.tmp 202) (.tmp 204))⟩
  (.op false ⟨(some 206), none, (.bin .neq (.tmp 201) (.tmp 205))⟩ .done))))))))))) (.cond (.tmp 206)
 (.seq
 (.reg false (.op false ⟨(some 4), none, (.mv (.const (.bool false)))⟩ .done)) .ret) .skip))
 (.seq (.seq
 (.reg false (.op false ⟨(some 207), none, (.mv (.tmp 6))⟩
  (.op false ⟨(some 208), none, (.len (.tmp 207))⟩
  (.op false ⟨(some 209), none, (.mv (.const (.int .i64 0)))⟩ .done)))) (.block 4 (.loop
 (.seq
 (.reg false (.op false ⟨(some 210), none, (.bin .lss (.tmp 209) (.tmp 208))⟩ .done))
 (.seq (.cond (.tmp 210) .skip (.exit 4))
 (.seq (.block 5
 (.seq
 (.reg false (.op false ⟨(some 211), none, (.mv (.tmp 209))⟩
  (.op false ⟨(some 212), none, (.idx 1 (.tmp 207) (.tmp 209))⟩
  (.op false ⟨(some 213), none, (.ld none (.tmp 212))⟩
  (.op false ⟨(some 21), none, (.mv (.tmp 211))⟩
  (.op false ⟨(some 22), none, (.mv (.tmp 213))⟩ .done))))))
 (.seq
 (.reg true (.op true ⟨(some 215), none, (.mv (.tmp 5))⟩
  (.op true ⟨(some 216), none, (.nilc (.tmp 215))⟩
  (.op true ⟨(some 217), none, (.fld 0 (.tmp 216))⟩
  (.op true ⟨(some 218), none, (.ld none (.tmp 217))⟩
  (.op true ⟨(some 219), none, (.mv (.tmp 22))⟩
  (.op true ⟨(some 220), none, (.mv (.tmp 7))⟩
  (.op true ⟨(some 221), none, (.mv (.tmp 21))⟩
  (.op true ⟨(some 222), none, (.idx 1 (.tmp 220) (.tmp 221))⟩
  (.op true ⟨(some 223), none, (.ld none (.tmp 222))⟩
  (.op true ⟨(some 224), none, (.len (.tmp 223))⟩
  (.op false ⟨(some 225), none, (.call f_chain_Get [(.tmp 218), (.tmp 219), (.tmp 224)])⟩
  (.op true ⟨(some 214), none, (.mv (.tmp 225))⟩
  (.op true ⟨(some 226), none, (.ext (.tmp 214) 0)⟩
  (.op true ⟨(some 227), none, (.ext (.tmp 214) 1)⟩
  (.op true ⟨(some 23), none, (.mv (.tmp 226))⟩
  (.op true ⟨(some 24), none, (.mv (.tmp 227))⟩ .done)))))))))))))))))
 (.seq
 (.reg true (.op true ⟨(some 228), none, (.mv (.tmp 21))⟩
  (.op true ⟨(some 229), none, (.mv (.tmp 17))⟩
  (.op true ⟨(some 230), none, (.bin .neq (.tmp 228) (.tmp 229))⟩
  (.op true ⟨(some 231), none, (.mv (.tmp 230))⟩
  (.op true ⟨(some 232), (some (231, true)), (.mv (.tmp 24))⟩
  (.op true ⟨(some 233), (some (231, true)), (.bin .neq (.tmp 232) (.const (.int .i64 0)))⟩
  (.op true ⟨(some 234), (some (231, true)), (.mv (.tmp 233))⟩
  (.op true ⟨(some 235), (some (234, false)), (.mv (.tmp 23))⟩
  (.op true ⟨(some 236), (some (234, false)), (.b2s (.tmp 235))⟩
  (.op true ⟨(some 237), (some (234, false)), (.mv (.tmp 7))⟩
  (.op true ⟨(some 238), (some (234, false)), (.mv (.tmp 21))⟩
  (.op true ⟨(some 239), (some (234, false)), (.idx 1 (.tmp 237) (.tmp 238))⟩
  (.op true ⟨(some 240), (some (234, false)), (.ld none (.tmp 239))⟩
  (.op true ⟨(some 241), (some (234, false)), (.b2s (.tmp 240))⟩
  (.op true ⟨(some 242), (some (234, false)), (.bin .neq (.tmp 236) (.tmp 241))⟩
  (.op true ⟨(some 243), (some (231, true)), (.pick (.tmp 234) (.const (.bool true)) (.tmp 242))⟩
  (.op true ⟨(some 244), none, (.pick (.tmp 231) (.tmp 243) (.const (.bool false)))⟩
  (.op true ⟨(some 245), none, (.mv (.tmp 244))⟩
  (.op true ⟨(some 246), (some (245, false)), (.mv (.tmp 21))⟩
  (.op true ⟨(some 247), (some (245, false)), (.mv (.tmp 17))⟩
  (.op true ⟨(some 248), (some (245, false)), (.bin .eql (.tmp 246) (.tmp 247))⟩
  (.op true ⟨(some 249), (some (245, false)), (.mv (.tmp 248))⟩
  (.op true ⟨(some 250), (some (249, true)), (.mv (.tmp 24))⟩
  (.op true ⟨(some 251), (some (249, true)), (.bin .neq (.tmp 250) (.const (.int .i64 240)))⟩
  (.op true ⟨(some 252), (some (245, false)), (.pick (.tmp 249) (.tmp 251) (.const (.bool false)))⟩
  (.op true ⟨(some 253), none, (.pick (.tmp 245) (.const (.bool true)) (.tmp 252))⟩ .done))))))))))))))))))))))))))) (.cond (.tmp 253)
 (.seq
 (.reg false (.op false ⟨(some 4), none, (.mv (.const (.bool false)))⟩ .done)) .ret) .skip)))))
 (.reg false (.op false ⟨(some 254), none, (.bin .add (.tmp 209) (.const (.int .i64 1)))⟩
  (.op false ⟨(some 209), none, (.mv (.tmp 254))⟩ .done)))))))))
 (.seq
 (.reg false (.op false ⟨(some 4), none, (.mv (.const (.bool true)))⟩ .done)) .ret))))))))))))))))⟩

set_option maxRecDepth 4000 in
set_option maxHeartbeats 1000000 in
theorem chainBack {P : Program} {f f1 f2 f3 f4 f5 f6 f7 f8 : FuncId} (hd : dec P f = some (g_thimblelaw21_ChainBack f1 f2 f3 f4 f5 f6 f7 f8)) (h1 : CWks P f1) (h2 : Made21Ok P f2) (h3 : FreeOk P f3) (h4 : CPutOk P f4) (h5 : PagesOk P f5) (h6 : CGetsOk P f6) (h7 : CListOk P f7) (h8 : CDropOk P f8)
    {d : PHeap} {wh : Int} {tv : Value} {ts : List (List UInt8)} (ht : RBss d tv ts) : GCall P f [tv, .int .i64 wh] d [] (Ret fun r _ _ => r = .bool true) := by
  obtain ⟨ta, tc0, rfl⟩ := RSl.val ht
  refine GCall_of hd (Nat.le_of_ble_eq_true rfl) ?_
  show gwp P _ _ _ _ _
  (apply w_sq; apply w_reg; apply w_mvb; rfl; apply w_done0; apply w_sq; apply w_sq; apply w_reg)
  refine w_callA (A := []) (B := []) rfl rfl h1 (fun u d1 L1 hl1 ⟨e1, e2⟩ => ?_)
  subst e1; subst e2
  (apply w_not; rfl; apply w_done0; apply w_ifF; rfl; apply w_skip; apply w_sq; apply w_reg)
  refine w_callO (L := []) (h2 (n := 60) (by omega) (by omega)) rfl (fun u d2 L2 hl2 ⟨bb, bd, bp, q1, q2, hp⟩ => ?_)
  subst q1
  have ht2 : RBss d2 (.slice ta ts.length tc0) ts := RSl.mono (R := RBs) mono_bs ht (hl1.trans hl2)
  refine w_vs d2 (emp :: emp :: L2) (Vs.emp.trans Vs.emp) ?_
  (apply w_mvp; rfl; apply w_done0; apply w_sq; apply w_sq; apply w_reg; apply w_mvp; rfl; apply w_eqpS; rfl; rfl; apply w_done0; apply w_ifF; rfl; apply w_skip; apply w_sq; apply w_reg; apply w_mvs; rfl; apply w_done0; apply w_sq; apply w_reg; apply w_mvs; rfl; apply w_done0; apply w_sq; apply w_sq; apply w_reg; apply w_mvi; rfl; apply w_done0; apply w_block)
  have hS0 : Shelf (pdN 60) [] [] := Shelf.nil _
  refine w_loopS (α := Nat × PD × List (List UInt8) × List (List Int) × Value × Value) (fun x => [(0, .slice ta ts.length tc0), (1, .int .i64 wh), (5, .pointer (some ⟨bb, 0, none⟩)), (6, x.2.2.2.2.1), (7, x.2.2.2.2.2), (8, .int .i64 x.1)])
    (fun x d' L' => Le d2 d' ∧ x.1 ≤ ts.length ∧ x.1 ≤ 8 ∧ x.2.2.1.length = x.1 ∧ Shelf x.2.1 x.2.2.1 x.2.2.2.1 ∧ (∀ b ∈ x.2.2.1, b.length ≤ 1500) ∧ 60 ≤ x.2.1.free + 6 * x.1 ∧ ∃ hh hb L3, L' = hh :: hb :: L3 ∧
      GRow 1 RInt d' x.2.2.2.2.1 (headsOf x.2.2.2.1) hh ∧ GRow 1 RBs d' x.2.2.2.2.2 x.2.2.1 hb ∧ Pg d' x.2.1 (.pointer (some ⟨bd, 0, none⟩)) (.pointer (some ⟨bp, 0, none⟩)) L3)
    (fun x => 8 - x.1) (0, pdN 60, [], [], .slice none 0 0, .slice none 0 0) ⟨rfl, rfl, rfl, rfl, rfl, rfl, trivial⟩
    ⟨Le.refl _, Nat.zero_le _, by decide, rfl, hS0, (fun b hb => by cases hb), by simp only [free_pdN]; omega, emp, emp, L2, rfl, GRow.nil, GRow.nil, hp⟩ ?_
  rintro ⟨i, s, bs, ls, hv, bv⟩ ρ d' L' ⟨hle, hit, hi8, hbl, hS, hbb, hfr, hh, hb, L3, rfl, hH, hB, hp'⟩
  simp only at hit hi8 hbl hS hbb hfr hH hB hp' ⊢
  have hq2 := q2.mono hle
  have hts : RBss d' (.slice ta ts.length tc0) ts := RSl.mono (R := RBs) mono_bs ht2 hle
  have hG := hp'.good
  by_cases hgo : i < ts.length ∧ i < 8
  · obtain ⟨g1, g2⟩ := hgo
    (apply w_sq; apply w_sq; apply w_reg; apply w_mvi; rfl; apply w_mvs; rfl; apply w_len; rfl; apply w_lss; rfl; rfl; apply w_mvb; rfl; refine w_gdT rfl (by omega) ?_; apply w_gT; rfl; apply w_mvi; rfl; apply w_gT; rfl; apply w_lss; rfl; rfl; apply w_pickTb; rfl; rfl; apply w_done0; refine w_ifdT rfl (by omega) ?_; apply w_skip; apply w_sq; apply w_block; apply w_sq; apply w_reg; apply w_mvs; rfl; apply w_mvi; rfl; refine w_idxR (sz := 1) (R := RBs) (by rfl) (by assumption) (by rfl) rfl (by omega) ?_; rintro _ _ _ _ _ ⟨_, rfl, _⟩; apply w_ld; rfl; exact hc_ds0 (by assumption) rfl; apply w_mv; apply w_done0; apply w_sq; apply w_sq; apply w_reg; apply w_mv; apply w_lenR; rfl; assumption; apply w_gtr; rfl; rfl; apply w_done0)
    refine w_joint (fun ρ' d'' L'' => d'' = d' ∧ L'' = hh :: hb :: L3 ∧ ∃ w B, SlotsAre ρ' [(0, .slice ta ts.length tc0), (1, .int .i64 wh), (5, .pointer (some ⟨bb, 0, none⟩)), (6, hv), (7, bv), (8, .int .i64 i), (9, w)] ∧ RBytes d' w B ∧ B.length ≤ 1500) ?_ ?_
    · rename_i vw hvw _ _
      by_cases hbig : 1500 < ts[i].length
      · (refine w_ifdT rfl (by omega) ?_; apply w_reg; apply w_mv)
        refine w_slR (n := 1500) rfl hvw rfl (by omega) (fun bv' hb' => ?_)
        (apply w_mv; apply w_done0)
        exact ⟨rfl, rfl, bv', ts[i].take 1500, ⟨rfl, rfl, rfl, rfl, rfl, rfl, rfl, trivial⟩, hb', by rw [List.length_take]; omega⟩
      · (refine w_ifdF rfl (by omega) ?_; apply w_skip)
        exact ⟨rfl, rfl, vw, ts[i], ⟨rfl, rfl, rfl, rfl, rfl, rfl, rfl, trivial⟩, hvw, by omega⟩
    · rintro ρ' d'' L'' ⟨rfl, rfl, w, B, hsl, hw, hBl⟩
      show gwp P _ _ _ _ _
      refine gwp_slots _ hsl ?_
      obtain ⟨wa, wc, rfl⟩ := RSl.val hw
      (apply w_sq; apply w_reg; apply w_mvp; rfl; apply w_nilc; rfl; apply w_fld; rfl; apply w_ld; rfl; exact hc_d (by assumption))
      refine w_readP (A := L3) (B := [hh, hb]) (List.perm_append_comm (l₁ := [hh, hb])) rfl (h3 hp') ?_
      (apply w_mvi; rfl; apply w_done0; apply w_sq; apply w_reg; apply w_mvp; rfl; apply w_nilc; rfl; apply w_fld; rfl; apply w_ld; rfl; exact hc_d (by assumption); apply w_mvs; rfl)
      refine w_callQ (h4 hp' hw (by omega)) (List.perm_append_comm (l₁ := [hh, hb])) rfl (fun u d3 L4 hl3 ⟨_, q3, hp3⟩ => ?_)
      have hpB : pagesN B.length ≤ 6 := by unfold pagesN; omega
      obtain ⟨t, l, e, hC, hK, hF, hL, hO, hN⟩ := cput_room hG (b := B) (by omega)
      rw [e] at q3 hp3
      replace q3 : u = .tuple #[.int .i64 (l.getD 0 0), .int .i64 0] := q3
      subst q3
      replace hp3 : Pg d3 t (.pointer (some ⟨bd, 0, none⟩)) (.pointer (some ⟨bp, 0, none⟩)) L4 := hp3
      refine ⟨d3, hh :: hb :: L4, Vs.perm (List.perm_append_comm (l₂ := [hh, hb])), ?_⟩
      have hq3 := hq2.mono hl3
      (apply w_mvu; rfl; apply w_ext; rfl; rfl; apply w_ext; rfl; rfl; apply w_mvi; rfl; apply w_mvi; rfl; apply w_done0; apply w_sq; apply w_sq; apply w_reg; apply w_mvi; rfl; apply w_neq; rfl; rfl; apply w_mvb; rfl; refine w_gdF rfl (by omega) ?_; apply w_gT; rfl; apply w_mvp; rfl; apply w_gT; rfl; apply w_nilc; rfl; apply w_gT; rfl; apply w_fld; rfl; apply w_gT; rfl; apply w_ld; rfl; exact hc_d (by assumption); apply w_gT; rfl)
      refine w_readP (A := L4) (B := [hh, hb]) (List.perm_append_comm (l₁ := [hh, hb])) rfl (h3 hp3) ?_
      (apply w_gT; rfl; apply w_mvi; rfl; apply w_gT; rfl; apply w_mvs; rfl; apply w_gT; rfl; apply w_len; rfl; apply w_gT; rfl)
      refine w_pure rfl (h5 (n := B.length) (by omega)) ?_
      have hpo := pages_one (n := B.length)
      have hfl : s.free ≤ 8192 := Nat.le_trans List.countP_le_length hG.len
      (apply w_gT; rfl; apply w_sub; rfl; rfl; omega; omega; apply w_gT; rfl; apply w_neq; rfl; rfl; apply w_pickFb; rfl; rfl; apply w_done0; refine w_ifdF rfl (by omega) ?_; apply w_skip; apply w_reg; apply w_mv; apply w_mvi; rfl)
      have hl0 : l.getD 0 0 ∈ l := by rw [getD_at (show 0 < l.length by omega)]; exact List.getElem_mem _
      have hrg := hC.rng _ hl0
      have hll := hS.len
      refine w_bs1 (v0 := .int .i64 (l.getD 0 0)) rfl rfl (fun b3 T3 => ?_)
      refine w_appL (R := RInt) 0 rfl rfl (GRow.monoI hH hl3) rfl (GRow.lit1 (x := l.getD 0 0) rfl ⟨rfl, by omega, by omega⟩) cell1_int (by omega) (by simp; omega) (by simp; omega) (fun hv' hh' hH' => ?_)
      (apply w_mv; apply w_mvs; rfl)
      refine w_bs1 (v0 := .slice wa B.length wc) rfl rfl (fun b4 T4 => ?_)
      refine w_appL (R := RBs) 1 rfl rfl (GRow.monoBs hB hl3) rfl (GRow.lit1 (R := RBs) (x := B) rfl ⟨_, rfl, RSl.mono (R := RByte) mono_byte hw hl3⟩) cell1_bs (by omega) (by simp; omega) (by simp; omega) (fun bv' hb' hB' => ?_)
      (apply w_mv; apply w_mv; apply w_done0; apply w_reg; apply w_mvi; rfl; apply w_add; rfl; rfl; omega; omega; apply w_mvi; rfl; apply w_done0)
      refine ⟨(i + 1, t, bs ++ [B], ls ++ [l], hv', bv'), by simp only; omega, ⟨rfl, rfl, rfl, rfl, rfl, rfl, trivial⟩, hle.trans hl3, by simp only; omega, by simp only; omega, by simp [hbl], hS.put hC hK hO hN, ?_, by simp only; omega, hh', hb', L4, rfl, ?_, hB', hp3⟩
      · intro b hb2
        rcases List.mem_append.1 hb2 with q | q
        · exact hbb b q
        · rw [List.mem_singleton.1 q]; exact hBl
      · simp only [headsOf, List.map_append, List.map_cons, List.map_nil]; exact hH'
  · have hll := hS.len
    have hfl : s.free ≤ 8192 := Nat.le_trans List.countP_le_length hG.len
    refine w_jointX 0 (fun ρ' d'' L'' => d'' = d' ∧ L'' = hh :: hb :: L3 ∧ SlotsAre ρ' [(0, .slice ta ts.length tc0), (1, .int .i64 wh), (5, .pointer (some ⟨bb, 0, none⟩)), (6, hv), (7, bv), (8, .int .i64 i)]) ?_ ?_
    · by_cases h1' : i < ts.length
      · have h2' : ¬ i < 8 := fun q => hgo ⟨h1', q⟩
        (apply w_sq; apply w_sq; apply w_reg; apply w_mvi; rfl; apply w_mvs; rfl; apply w_len; rfl; apply w_lss; rfl; rfl; apply w_mvb; rfl; refine w_gdT rfl (by omega) ?_; apply w_gT; rfl; apply w_mvi; rfl; apply w_gT; rfl; apply w_lss; rfl; rfl; apply w_pickTb; rfl; rfl; apply w_done0; refine w_ifdF rfl (by omega) ?_; apply w_exit)
        exact ⟨rfl, rfl, rfl, rfl, rfl, rfl, rfl, rfl, rfl, trivial⟩
      · (apply w_sq; apply w_sq; apply w_reg; apply w_mvi; rfl; apply w_mvs; rfl; apply w_len; rfl; apply w_lss; rfl; rfl; apply w_mvb; rfl; refine w_gdF rfl (by omega) ?_; apply w_gF; rfl; apply w_gF; rfl; apply w_pickFb; rfl; rfl; apply w_done0; apply w_ifF; rfl; apply w_exit)
        exact ⟨rfl, rfl, rfl, rfl, rfl, rfl, rfl, rfl, rfl, trivial⟩
    · rintro ρ' d'' L'' ⟨rfl, rfl, hsl⟩
      show gwp P _ _ _ _ _
      refine gwp_slots _ hsl ?_
      (apply w_sq; apply w_sq; apply w_reg)
      refine w_frz (fun d3 hl3 hh3 => ?_)
      refine w_frz (fun d4 hl4 hb4 => ?_)
      have hHd : RInts d4 hv (headsOf ls) := GRow.rsl (R := RInt) (sz := 1) hH mono_int (by omega) (hl3.trans hl4) (hh3.trans hl4)
      have hBd : RBss d4 bv bs := GRow.rsl (R := RBs) (sz := 1) hB mono_bs (by omega) (hl3.trans hl4) hb4
      obtain ⟨ha, hc, rfl⟩ := RSl.val hHd
      obtain ⟨ba, bc, rfl⟩ := RSl.val hBd
      have hp4 := hp'.mono (hl3.trans hl4)
      have hq4 := hq2.mono (hl3.trans hl4)
      have hhl : (headsOf ls).length = bs.length := by simp [hll]
      have hbs16 : ∀ b ∈ bs, b.length ≤ 16384 := fun b hb => Nat.le_trans (hbb b hb) (by decide)
      (apply w_mvs; rfl; apply w_len; rfl; apply w_mvi; rfl; apply w_done0; apply w_block)
      refine w_loopS (α := Nat × Nat) (fun x => [(1, .int .i64 wh), (5, .pointer (some ⟨bb, 0, none⟩)), (6, .slice ha (headsOf ls).length hc), (7, .slice ba bs.length bc), (86, .slice ha (headsOf ls).length hc), (87, .int .i64 (headsOf ls).length), (88, .int .i64 x.1)])
        (fun x d' L' => Le d4 d' ∧ x.1 ≤ bs.length ∧ Pg d' { s with tc := x.2 } (.pointer (some ⟨bd, 0, none⟩)) (.pointer (some ⟨bp, 0, none⟩)) L')
        (fun x => bs.length - x.1) (0, s.tc) ⟨rfl, rfl, rfl, rfl, rfl, rfl, rfl, trivial⟩ ⟨Le.refl _, Nat.zero_le _, hp4⟩ ?_
      rintro ⟨i, tc⟩ ρ d' L' ⟨hle4, hi, hp'⟩
      simp only at hi hp' ⊢
      have hH' := RSl.mono (R := RInt) mono_int hHd hle4
      have hB' := RSl.mono (R := RBs) mono_bs hBd hle4
      have hq' := hq4.mono hle4
      by_cases e : i < bs.length
      · have hrd := readF_chain (hS.ch i e) (hbs16 _ (List.getElem_mem e))
        have hhd : (headsOf ls)[i]'(by omega) = (ls.getD i []).getD 0 0 := heads_at (by omega)
        (apply w_sq; apply w_reg; apply w_lss; rfl; rfl; apply w_done0; apply w_sq; refine w_ifdT rfl (by omega) ?_; apply w_skip; apply w_sq; apply w_block; apply w_sq; apply w_reg; apply w_mvi; rfl; refine w_idxR (sz := 1) (R := RInt) (by rfl) (by assumption) (by rfl) rfl (by omega) ?_; rintro _ _ _ _ _ ⟨rfl, _, _⟩; apply w_ld; rfl; exact hc_ds0 (by assumption) rfl; apply w_mvi; rfl; apply w_mvi; rfl; apply w_done0; apply w_sq)
        rw [hhd]
        skip
        refine w_drawnA [] L' rfl ?_
        (apply w_mvp; rfl; apply w_nilc; rfl; apply w_fld; rfl; apply w_ld; rfl; exact hc_d (by assumption); apply w_mvi; rfl; apply w_mvs; rfl; apply w_mvi; rfl; refine w_idxR (sz := 1) (R := RBs) (by rfl) (by assumption) (by rfl) rfl (by omega) ?_; rintro _ _ _ _ _ ⟨_, rfl, _⟩; apply w_ld; rfl; exact hc_ds0 (by assumption) rfl; apply w_lenR; rfl; assumption)
        rename_i w hw _ _
        obtain ⟨wa, wc, rfl⟩ := RSl.val hw
        skip
        refine w_callO (h6 (k := (ls.getD i []).getD 0 0) (size := bs[i].length) hp') rfl (fun u d5 L5 hl5 ⟨_, v, tc', q3, hv, hp5, _⟩ => ?_)
        rw [readF_tc, hrd] at q3 hv
        obtain ⟨va, vc, rfl⟩ := RSl.val hv
        replace q3 : u = .tuple #[.slice va bs[i].length vc, .int .i64 0] := q3
        subst q3
        replace hv : RBytes d5 (.slice va bs[i].length vc) bs[i] := hv
        have hB5 := RSl.mono (R := RBs) mono_bs hB' hl5
        (apply w_mvu; rfl; apply w_ext; rfl; rfl; apply w_ext; rfl; rfl; apply w_mvs; rfl; apply w_mvi; rfl; apply w_done0; apply w_sq; apply w_drawn; apply w_mvi; rfl; apply w_neq; rfl; rfl; apply w_mvb; rfl; refine w_gdF rfl (by omega) ?_; apply w_gT; rfl; apply w_mvs; rfl; apply w_gT; rfl; apply w_b2sR; rfl; assumption; apply w_gT; rfl; apply w_mvs; rfl; apply w_gT; rfl; apply w_mvi; rfl; apply w_gT; rfl; refine w_idxR (sz := 1) (R := RBs) (by rfl) (by assumption) (by rfl) rfl (by omega) ?_; rintro _ _ _ _ _ ⟨_, rfl, _⟩; apply w_gT; rfl; apply w_ld; rfl; exact hc_ds0 (by assumption) rfl; apply w_gT; rfl; apply w_b2sR; rfl; assumption; apply w_gT; rfl; apply w_sne; rfl; rfl; apply w_pickFb; rfl; rfl; apply w_done)
        show gwp P _ _ _ _ _
        skip
        refine w_ifF (congrArg Value.bool (by simp)) ?_
        (apply w_skip; apply w_reg; apply w_add; rfl; rfl; omega; omega; apply w_mvi; rfl; apply w_done0)
        exact ⟨(i + 1, tc'), by simp only; omega, ⟨rfl, rfl, rfl, rfl, rfl, rfl, rfl, trivial⟩, hle4.trans hl5, e, by rw [List.append_nil]; exact hp5⟩
      · have : i = bs.length := by omega
        subst this
        by_cases hz : bs.length = 0
        · (apply w_sq; apply w_reg; apply w_lss; rfl; rfl; apply w_done0; apply w_sq; refine w_ifdF rfl (by omega) ?_; apply w_exit; apply w_sq; apply w_sq; apply w_reg; apply w_mvs; rfl; apply w_len; rfl; apply w_eql; rfl; rfl; apply w_done0; refine w_ifdT rfl (by omega) ?_; apply w_sq; apply w_reg; apply w_mvb; rfl; apply w_done0; apply w_ret)
          exact fin1n rfl rfl
        · obtain ⟨k, hk, hkl⟩ := nat_rem wh bs.length (by omega)
          replace hk : wh % 18446744073709551616 % ((bs.length : Nat) : Int) = (k : Int) := hk
          have hk' : wh % 18446744073709551616 % (((headsOf ls).length : Int) % 18446744073709551616) = (k : Int) := by rw [show ((headsOf ls).length : Int) % 18446744073709551616 = ((bs.length : Nat) : Int) by omega]; exact hk
          have hkd := heads_at (ls := ls) (i := k) (by omega)
          have hrd := readF_chain (hS.ch k hkl) (hbs16 _ (List.getElem_mem hkl))
          obtain ⟨d1', d2', d3'⟩ := hS.drop hbs16 hkl
          have hne := hS.heads hkl
          have hlen := (hS.ch k hkl).len
          have hpo := pages_one (n := bs[k].length)
          have hb15 := hbb _ (List.getElem_mem hkl)
          have hp6 : pagesN bs[k].length ≤ 6 := by unfold pagesN; omega
          (apply w_sq; apply w_reg; apply w_lss; rfl; rfl; apply w_done0; apply w_sq; refine w_ifdF rfl (by omega) ?_; apply w_exit; apply w_sq; apply w_sq; apply w_reg; apply w_mvs; rfl; apply w_len; rfl; apply w_eql; rfl; rfl; apply w_done0; refine w_ifdF rfl (by omega) ?_; apply w_skip; apply w_sq; apply w_reg; apply w_mvi; rfl; apply w_cviu; rfl; apply w_mvs; rfl; apply w_len; rfl; apply w_cviu; rfl; apply w_rem; rfl; rfl; omega; omega; apply w_cvi64; rfl; omega; omega; apply w_mvi; rfl; apply w_done0; apply w_sq; apply w_reg; apply w_mvp; rfl; apply w_nilc; rfl; apply w_fld; rfl; apply w_ld; rfl; exact hc_d (by assumption))
          refine gws_env (g := 17) (congrArg (Value.int .i64) hk') ?_
          have hfr : GRead P f3 [.pointer (some ⟨bp, 0, none⟩)] d' L' (.int .i64 (s.free : Nat)) := by have q := h3 hp'; exact q
          have hfl : s.free ≤ 8192 := Nat.le_trans List.countP_le_length hG.len
          refine w_read (A := L') (B := []) (List.append_nil _).symm rfl hfr ?_
          (apply w_mvi; rfl; apply w_done0; apply w_sq)
          refine w_drawnA [] L' rfl ?_
          (apply w_mvp; rfl; apply w_nilc; rfl; apply w_fld; rfl; apply w_ld; rfl; exact hc_d (by assumption); apply w_mvs; rfl; apply w_mvi; rfl; refine w_idxR (sz := 1) (R := RInt) (by rfl) (by assumption) (by rfl) rfl (by omega) ?_; rintro _ _ _ _ _ ⟨rfl, _, _⟩; apply w_ld; rfl; exact hc_ds0 (by assumption) rfl; apply w_mvs; rfl; apply w_mvi; rfl; refine w_idxR (sz := 1) (R := RBs) (by rfl) (by assumption) (by rfl) rfl (by omega) ?_; rintro _ _ _ _ _ ⟨_, rfl, _⟩; apply w_ld; rfl; exact hc_ds0 (by assumption) rfl; apply w_lenR; rfl; assumption)
          rw [hkd]
          skip
          refine w_callO (h7 (k := (ls.getD k []).getD 0 0) (size := bs[k].length) hp') rfl (fun u d5 L5 hl5 ⟨_, v, tc', q3, hv, hp5⟩ => ?_)
          rw [readF_tc, hrd] at q3 hv
          obtain ⟨va, vc, rfl⟩ := RSl.val hv
          replace q3 : u = .tuple #[.slice va (ls.getD k []).length vc, .int .i64 0] := q3
          subst q3
          replace hv : RInts d5 (.slice va (ls.getD k []).length vc) (ls.getD k []) := hv
          replace hp5 : Pg d5 { s with tc := tc' } (.pointer (some ⟨bd, 0, none⟩)) (.pointer (some ⟨bp, 0, none⟩)) L5 := hp5
          have hB5 := RSl.mono (R := RBs) mono_bs hB' hl5
          have hH5 := RSl.mono (R := RInt) mono_int hH' hl5
          have hq5 := hq'.mono hl5
          (apply w_mvu; rfl; apply w_ext; rfl; rfl; apply w_ext; rfl; rfl; apply w_mvs; rfl; apply w_mvi; rfl; apply w_done0; apply w_sq; apply w_sq)
          refine w_drawnA [] L5 rfl ?_
          have hz0 : (ls.getD k [])[0]'(by omega) = (ls.getD k []).getD 0 0 := (getD_at (by omega)).symm
          (apply w_mvi; rfl; apply w_neq; rfl; rfl; apply w_mvb; rfl; refine w_gdF rfl (by omega) ?_; apply w_gT; rfl; apply w_mvs; rfl; apply w_gT; rfl; apply w_len; rfl; apply w_gT; rfl; apply w_eql; rfl; rfl; apply w_pickFb; rfl; rfl; apply w_mvb; rfl; refine w_gdF rfl (by omega) ?_; apply w_gT; rfl; apply w_mvs; rfl; apply w_gT; rfl; apply w_len; rfl; apply w_gT; rfl; apply w_mvs; rfl; apply w_gT; rfl; apply w_mvi; rfl; apply w_gT; rfl; refine w_idxR (sz := 1) (R := RBs) (by rfl) (by assumption) (by rfl) rfl (by omega) ?_; rintro _ _ _ _ _ ⟨_, rfl, _⟩; apply w_gT; rfl; apply w_ld; rfl; exact hc_ds0 (by assumption) rfl; apply w_gT; rfl; apply w_lenR; rfl; assumption; apply w_gT; rfl)
          refine w_pure rfl (h5 (n := bs[k].length) (by omega)) ?_
          (apply w_gT; rfl; apply w_neq; rfl; rfl; apply w_pickFb; rfl; rfl; apply w_mvb; rfl; refine w_gdF rfl (by omega) ?_; apply w_gT; rfl; apply w_mvs; rfl; apply w_gT; rfl; refine w_idxR (m := 0) (sz := 1) (R := RInt) (by rfl) (by assumption) (by rfl) rfl (by omega) ?_; rintro _ _ _ _ _ ⟨rfl, _, _⟩; apply w_gT; rfl; apply w_ld; rfl; exact hc_ds0 (by assumption) rfl; apply w_gT; rfl; apply w_mvs; rfl; apply w_gT; rfl; apply w_mvi; rfl; apply w_gT; rfl; refine w_idxR (sz := 1) (R := RInt) (by rfl) (by assumption) (by rfl) rfl (by omega) ?_; rintro _ _ _ _ _ ⟨rfl, _, _⟩; apply w_gT; rfl; apply w_ld; rfl; exact hc_ds0 (by assumption) rfl; apply w_gT; rfl; apply w_neq; rfl; rfl; apply w_pickFb; rfl; rfl; apply w_mvb; rfl; refine w_gdF rfl (by omega) ?_; apply w_gT; rfl; apply w_mvp; rfl; apply w_gT; rfl; apply w_nilc; rfl; apply w_gT; rfl; apply w_fld; rfl; apply w_gT; rfl; apply w_ld; rfl; exact hc_d (by assumption); apply w_gT; rfl; apply w_mvs; rfl; apply w_gT; rfl; apply w_mvi; rfl; apply w_gT; rfl; refine w_idxR (sz := 1) (R := RInt) (by rfl) (by assumption) (by rfl) rfl (by omega) ?_; rintro _ _ _ _ _ ⟨rfl, _, _⟩; apply w_gT; rfl; apply w_ld; rfl; exact hc_ds0 (by assumption) rfl; apply w_gT; rfl; apply w_mvs; rfl; apply w_gT; rfl; apply w_mvi; rfl; apply w_gT; rfl; refine w_idxR (sz := 1) (R := RBs) (by rfl) (by assumption) (by rfl) rfl (by omega) ?_; rintro _ _ _ _ _ ⟨_, rfl, _⟩; apply w_gT; rfl; apply w_ld; rfl; exact hc_ds0 (by assumption) rfl; apply w_gT; rfl; apply w_lenR; rfl; assumption; apply w_gT; rfl)
          rw [hkd]
          skip
          refine w_callO (h8 (k := (ls.getD k []).getD 0 0) (size := bs[k].length) hp5) rfl (fun u d6 L6 hl6 ⟨_, q4, tc6, hp6'⟩ => ?_)
          rw [cdropF_tc, d1'] at q4 hp6'
          replace q4 : u = .int .i64 0 := q4
          subst q4
          replace hp6' : Pg d6 { dropL s (ls.getD k []) with tc := tc6 } (.pointer (some ⟨bd, 0, none⟩)) (.pointer (some ⟨bp, 0, none⟩)) L6 := hp6'
          have hB6 := RSl.mono (R := RBs) mono_bs hB5 hl6
          have hH6 := RSl.mono (R := RInt) mono_int hH5 hl6
          have hq6 := hq5.mono hl6
          have hfr6 : GRead P f3 [.pointer (some ⟨bp, 0, none⟩)] d6 L6 (.int .i64 (s.free + pagesN bs[k].length : Nat)) := by have q := h3 hp6'; rw [← d2']; exact q
          (apply w_gT; rfl; apply w_neq; rfl; rfl; apply w_pickFb; rfl; rfl; apply w_done0; refine w_ifdF rfl (by omega) ?_; apply w_skip; apply w_sq; apply w_sq; apply w_reg; apply w_mvp; rfl; apply w_nilc; rfl; apply w_fld; rfl; apply w_ld; rfl; exact hc_d (by assumption))
          refine w_read (A := L6) (B := []) (List.append_nil _).symm rfl hfr6 ?_
          (apply w_mvi; rfl; apply w_mvs; rfl; apply w_len; rfl; apply w_add; rfl; rfl; omega; omega; apply w_neq; rfl; rfl; apply w_done0; refine w_ifdF rfl (by omega) ?_; apply w_skip; apply w_sq; apply w_sq; apply w_reg; apply w_mvs; rfl; apply w_len; rfl; apply w_mvi; rfl; apply w_done0; apply w_block)
          refine w_loopS (α := Nat × Nat) (fun x => [(5, .pointer (some ⟨bb, 0, none⟩)), (7, .slice ba bs.length bc), (17, .int .i64 k), (207, .slice ha (headsOf ls).length hc), (208, .int .i64 (headsOf ls).length), (209, .int .i64 x.1)])
            (fun x d' L' => Le d6 d' ∧ x.1 ≤ bs.length ∧ Pg d' { dropL s (ls.getD k []) with tc := x.2 } (.pointer (some ⟨bd, 0, none⟩)) (.pointer (some ⟨bp, 0, none⟩)) L')
            (fun x => bs.length - x.1) (0, tc6) ⟨rfl, rfl, rfl, rfl, rfl, rfl, trivial⟩ ⟨Le.refl _, Nat.zero_le _, hp6'⟩ ?_
          rintro ⟨i, tc⟩ ρ d' L' ⟨hle7, hi, hp'⟩
          simp only at hi hp' ⊢
          have hH' := RSl.mono (R := RInt) mono_int hH6 hle7
          have hB' := RSl.mono (R := RBs) mono_bs hB6 hle7
          have hq' := hq6.mono hle7
          by_cases e : i < bs.length
          · have hrd := d3' i e
            have hhd : (headsOf ls)[i]'(by omega) = (ls.getD i []).getD 0 0 := heads_at (by omega)
            (apply w_sq; apply w_reg; apply w_lss; rfl; rfl; apply w_done0; apply w_sq; refine w_ifdT rfl (by omega) ?_; apply w_skip; apply w_sq; apply w_block; apply w_sq; apply w_reg; apply w_mvi; rfl; refine w_idxR (sz := 1) (R := RInt) (by rfl) (by assumption) (by rfl) rfl (by omega) ?_; rintro _ _ _ _ _ ⟨rfl, _, _⟩; apply w_ld; rfl; exact hc_ds0 (by assumption) rfl; apply w_mvi; rfl; apply w_mvi; rfl; apply w_done0; apply w_sq)
            rw [hhd]
            skip
            refine w_drawnA [] L' rfl ?_
            (apply w_mvp; rfl; apply w_nilc; rfl; apply w_fld; rfl; apply w_ld; rfl; exact hc_d (by assumption); apply w_mvi; rfl; apply w_mvs; rfl; apply w_mvi; rfl; refine w_idxR (sz := 1) (R := RBs) (by rfl) (by assumption) (by rfl) rfl (by omega) ?_; rintro _ _ _ _ _ ⟨_, rfl, _⟩; apply w_ld; rfl; exact hc_ds0 (by assumption) rfl; apply w_lenR; rfl; assumption)
            rename_i w hw _ _
            obtain ⟨wa, wc, rfl⟩ := RSl.val hw
            skip
            refine w_callO (h6 (k := (ls.getD i []).getD 0 0) (size := bs[i].length) hp') rfl (fun u d8 L8 hl8 ⟨_, v, tc', q3, hv, hp8, _⟩ => ?_)
            rw [readF_tc, hrd] at q3 hv
            have hB8 := RSl.mono (R := RBs) mono_bs hB' hl8
            replace hp8 : Pg d8 { dropL s (ls.getD k []) with tc := tc' } (.pointer (some ⟨bd, 0, none⟩)) (.pointer (some ⟨bp, 0, none⟩)) L8 := hp8
            by_cases hik : i = k
            · rw [if_pos hik] at q3 hv
              obtain ⟨va, vc, rfl⟩ := RSl.val hv
              replace q3 : u = .tuple #[.slice va 0 vc, .int .i64 240] := q3
              subst q3
              (apply w_mvu; rfl; apply w_ext; rfl; rfl; apply w_ext; rfl; rfl; apply w_mvs; rfl; apply w_mvi; rfl; apply w_done0; apply w_sq; apply w_drawn; apply w_mvi; rfl; apply w_mvi; rfl; apply w_neq; rfl; rfl; apply w_mvb; rfl; refine w_gdF rfl (by omega) ?_; apply w_gF; rfl; apply w_gF; rfl; apply w_gF; rfl; apply w_gU; rfl; apply w_gU; rfl; apply w_gU; rfl; apply w_gU; rfl; apply w_gU; rfl; apply w_gU; rfl; apply w_gU; rfl; apply w_gU; rfl; apply w_gF; rfl; apply w_pickFb; rfl; rfl; apply w_mvb; rfl; apply w_gT; rfl; apply w_mvi; rfl; apply w_gT; rfl; apply w_mvi; rfl; apply w_gT; rfl; apply w_eql; rfl; rfl; apply w_gT; rfl; apply w_mvb; rfl; refine w_gdT rfl (by omega) ?_; apply w_gT; rfl; apply w_mvi; rfl; apply w_gT; rfl; apply w_neq; rfl; rfl; apply w_gT; rfl; apply w_pickTb; rfl; rfl; apply w_pickFb; rfl; rfl; apply w_done; refine w_ifdF rfl (by omega) ?_; apply w_skip; apply w_reg; apply w_add; rfl; rfl; omega; omega; apply w_mvi; rfl; apply w_done0)
              exact ⟨(i + 1, tc'), by simp only; omega, ⟨rfl, rfl, rfl, rfl, rfl, rfl, trivial⟩, hle7.trans hl8, e, by rw [List.append_nil]; exact hp8⟩
            · rw [if_neg hik] at q3 hv
              obtain ⟨va, vc, rfl⟩ := RSl.val hv
              replace q3 : u = .tuple #[.slice va bs[i].length vc, .int .i64 0] := q3
              subst q3
              replace hv : RBytes d8 (.slice va bs[i].length vc) bs[i] := hv
              have hbb' : ¬ (bs[i] ≠ bs[i]) := fun h => h rfl
              (apply w_mvu; rfl; apply w_ext; rfl; rfl; apply w_ext; rfl; rfl; apply w_mvs; rfl; apply w_mvi; rfl; apply w_done0; apply w_sq; apply w_drawn; apply w_mvi; rfl; apply w_mvi; rfl; apply w_neq; rfl; rfl; apply w_mvb; rfl; refine w_gdT rfl (by omega) ?_; apply w_gT; rfl; apply w_mvi; rfl; apply w_gT; rfl; apply w_neq; rfl; rfl; apply w_gT; rfl; apply w_mvb; rfl; refine w_gdF rfl (by omega) ?_; apply w_gT; rfl; apply w_mvs; rfl; apply w_gT; rfl; apply w_b2sR; rfl; assumption; apply w_gT; rfl; apply w_mvs; rfl; apply w_gT; rfl; apply w_mvi; rfl; apply w_gT; rfl; refine w_idxR (sz := 1) (R := RBs) (by rfl) (by assumption) (by rfl) rfl (by omega) ?_; rintro _ _ _ _ _ ⟨_, rfl, _⟩; apply w_gT; rfl; apply w_ld; rfl; exact hc_ds0 (by assumption) rfl; apply w_gT; rfl; apply w_b2sR; rfl; assumption; apply w_gT; rfl; apply w_sne; rfl; rfl; apply w_gT; rfl; apply w_pickFb; rfl; rfl; apply w_pickTb; rfl; rfl; apply w_mvb; rfl; refine w_gdF rfl (by omega) ?_; apply w_gT; rfl; apply w_mvi; rfl; apply w_gT; rfl; apply w_mvi; rfl; apply w_gT; rfl; apply w_eql; rfl; rfl; apply w_gT; rfl; apply w_mvb; rfl; refine w_gdF rfl (by omega) ?_; apply w_gF; rfl; apply w_gF; rfl; apply w_gT; rfl; apply w_pickFb; rfl; rfl; apply w_pickFb; rfl; rfl; apply w_done; apply w_ifF; rfl; apply w_skip; apply w_reg; apply w_add; rfl; rfl; omega; omega; apply w_mvi; rfl; apply w_done0)
              exact ⟨(i + 1, tc'), by simp only; omega, ⟨rfl, rfl, rfl, rfl, rfl, rfl, trivial⟩, hle7.trans hl8, e, by rw [List.append_nil]; exact hp8⟩
          · have : i = bs.length := by omega
            subst this
            (apply w_sq; apply w_reg; apply w_lss; rfl; rfl; apply w_done0; apply w_sq; refine w_ifdF rfl (by omega) ?_; apply w_exit; apply w_sq; apply w_reg; apply w_mvb; rfl; apply w_done0; apply w_ret)
            exact fin1n rfl rfl
end Go.Gk.Chn
end
