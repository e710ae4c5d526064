/-
  Nodes: what is handed out is marked over.
-/
import Derived.Test.YtjbpdhljjhpeeaaGkNodeE
namespace Go.Gk.Node
open Go Go.Gk
attribute [local irreducible] gwp gws

def SpoilOk (P : Program) (f : FuncId) : Prop := ∀ {d : PHeap} {cs : List Value} {n : NodeD} {L : List PHeap}, ONode d cs n L → GCall P f [.agg cs.toArray] d L (Ret fun _ d' L' => d' = d ∧ L' = [])
theorem drop_cons {α : Type} {l : List α} {i : Nat} {x : α} (h : l[i]? = some x) : l.drop i = x :: l.drop (i + 1) := by
  obtain ⟨h1, h2⟩ := List.getElem?_eq_some_iff.1 h
  rw [List.drop_eq_getElem_cons h1, h2]
def g_thimblelaw20_spoil : GFun :=
 ⟨56, [],
 (.seq
 (.reg false (.op false ⟨(some 1), none, (.box (.tmp 0))⟩ .done))
 (.seq (.seq
 (.reg false (.op false ⟨(some 7), none, (.fld 1 (.tmp 1))⟩
  (.op false ⟨(some 8), none, (.ld none (.tmp 7))⟩
  (.op false ⟨(some 9), none, (.fld 2 (.tmp 1))⟩
  (.op false ⟨(some 10), none, (.ld none (.tmp 9))⟩
  (.op false ⟨(some 11), none, (.bsl 2 1 [(.slice none 0 0)] [(0, (.tmp 8)), (1, (.tmp 10))])⟩
  (.op false ⟨(some 12), none, (.len (.tmp 11))⟩
  (.op false ⟨(some 13), none, (.mv (.const (.int .i64 0)))⟩ .done)))))))) (.block 0 (.loop
 (.seq
 (.reg false (.op false ⟨(some 14), none, (.bin .lss (.tmp 13) (.tmp 12))⟩ .done))
 (.seq (.cond (.tmp 14) .skip (.exit 0))
 (.seq (.block 1
 (.seq
 (.reg false (.op false ⟨(some 15), none, (.idx 1 (.tmp 11) (.tmp 13))⟩
  (.op false ⟨(some 16), none, (.ld none (.tmp 15))⟩
  (.op false ⟨(some 3), none, (.mv (.tmp 16))⟩ .done))))
 (.seq
 (.reg false (.op false ⟨(some 17), none, (.mv (.tmp 3))⟩
  (.op false ⟨(some 18), none, (.len (.tmp 17))⟩
  (.op false ⟨(some 19), none, (.mv (.const (.int .i64 0)))⟩ .done)))) (.block 2 (.loop
 (.seq
 (.reg false (.op false ⟨(some 20), none, (.bin .lss (.tmp 19) (.tmp 18))⟩ .done))
 (.seq (.cond (.tmp 20) .skip (.exit 2))
 (.seq (.block 3
 (.seq
 (.reg false (.op false ⟨(some 21), none, (.mv (.tmp 19))⟩
  (.op false ⟨(some 4), none, (.mv (.tmp 21))⟩ .done)))
 (.seq (.seq
 (.reg false (.op false ⟨(some 22), none, (.mv (.tmp 3))⟩
  (.op false ⟨(some 23), none, (.mv (.tmp 4))⟩
  (.op false ⟨(some 24), none, (.idx 1 (.tmp 22) (.tmp 23))⟩
  (.op false ⟨(some 25), none, (.ld none (.tmp 24))⟩
  (.op false ⟨(some 26), none, (.len (.tmp 25))⟩
  (.op false ⟨(some 27), none, (.mv (.const (.int .i64 0)))⟩ .done))))))) (.block 4 (.loop
 (.seq
 (.reg false (.op false ⟨(some 28), none, (.bin .lss (.tmp 27) (.tmp 26))⟩ .done))
 (.seq (.cond (.tmp 28) .skip (.exit 4))
 (.seq (.block 5
 (.seq
 (.reg false (.op false ⟨(some 29), none, (.mv (.tmp 27))⟩
  (.op false ⟨(some 5), none, (.mv (.tmp 29))⟩ .done)))
 (.reg false (.op false ⟨(some 30), none, (.mv (.tmp 3))⟩
  (.op false ⟨(some 31), none, (.mv (.tmp 4))⟩
  (.op false ⟨(some 32), none, (.idx 1 (.tmp 30) (.tmp 31))⟩
  (.op false ⟨(some 33), none, (.ld none (.tmp 32))⟩
  (.op false ⟨(some 34), none, (.mv (.tmp 5))⟩
  (.op false ⟨(some 35), none, (.idx 1 (.tmp 33) (.tmp 34))⟩
  (.op false ⟨(some 36), none, (.ld none (.tmp 35))⟩
  (.op false ⟨(some 37), none, (.bin .add (.tmp 36) (.const (.int .u8 1)))⟩
  (.op false ⟨(some 38), none, (.idx 1 (.tmp 33) (.tmp 34))⟩
  (.op false ⟨none, none, (.st 1 (.tmp 38) (.tmp 37))⟩ .done)))))))))))))
 (.reg false (.op false ⟨(some 39), none, (.bin .add (.tmp 27) (.const (.int .i64 1)))⟩
  (.op false ⟨(some 27), none, (.mv (.tmp 39))⟩ .done)))))))))
 (.reg false (.op false ⟨(some 40), none, (.mv (.tmp 3))⟩
  (.op false ⟨(some 41), none, (.mv (.tmp 4))⟩
  (.op false ⟨(some 42), none, (.idx 1 (.tmp 40) (.tmp 41))⟩
  (.op false ⟨none, none, (.st 1 (.tmp 42) (.const (.slice none 0 0)))⟩ .done))))))))
 (.reg false (.op false ⟨(some 43), none, (.bin .add (.tmp 19) (.const (.int .i64 1)))⟩
  (.op false ⟨(some 19), none, (.mv (.tmp 43))⟩ .done)))))))))))
 (.reg false (.op false ⟨(some 44), none, (.bin .add (.tmp 13) (.const (.int .i64 1)))⟩
  (.op false ⟨(some 13), none, (.mv (.tmp 44))⟩ .done)))))))))
 (.seq
 (.reg false (.op false ⟨(some 45), none, (.fld 3 (.tmp 1))⟩
  (.op false ⟨(some 46), none, (.ld none (.tmp 45))⟩
  (.op false ⟨(some 47), none, (.len (.tmp 46))⟩
  (.op false ⟨(some 48), none, (.mv (.const (.int .i64 0)))⟩ .done))))) (.block 6 (.loop
 (.seq
 (.reg false (.op false ⟨(some 49), none, (.bin .lss (.tmp 48) (.tmp 47))⟩ .done))
 (.seq (.cond (.tmp 49) .skip (.exit 6))
 (.seq (.block 7
 (.seq
 (.reg false (.op false ⟨(some 50), none, (.mv (.tmp 48))⟩
  (.op false ⟨(some 6), none, (.mv (.tmp 50))⟩ .done)))
 (.reg false (.op false ⟨(some 51), none, (.fld 3 (.tmp 1))⟩
  (.op false ⟨(some 52), none, (.ld none (.tmp 51))⟩
  (.op false ⟨(some 53), none, (.mv (.tmp 6))⟩
  (.op false ⟨(some 54), none, (.idx 1 (.tmp 52) (.tmp 53))⟩
  (.op false ⟨none, none, (.st 1 (.tmp 54) (.const (.int .i64 (-9))))⟩ .done))))))))
 (.reg false (.op false ⟨(some 55), none, (.bin .add (.tmp 48) (.const (.int .i64 1)))⟩
  (.op false ⟨(some 48), none, (.mv (.tmp 55))⟩ .done)))))))))))⟩

set_option maxHeartbeats 400000 in
theorem spoil_ok {P : Program} {f : FuncId} (hd : dec P f = some g_thimblelaw20_spoil) : SpoilOk P f := by
  intro d cs n L hn
  obtain ⟨kv, vv, iv, Lk, Lv, hi, rfl, ok, ov, oi, rfl⟩ := hn
  have hkl : n.keys.length ≤ 140737488355328 := by obtain ⟨_, _, _, o, _⟩ := ok; exact o.2.1
  have hvl : n.vals.length ≤ 140737488355328 := by obtain ⟨_, _, _, o, _⟩ := ov; exact o.2.1
  have hil : n.kids.length ≤ 140737488355328 := oi.len_le
  obtain ⟨ka, kc, rfl⟩ := ok.val
  obtain ⟨va, vc, rfl⟩ := ov.val
  obtain ⟨ia, ic, rfl⟩ := oi.val
  refine GCall_of hd (Nat.le_of_ble_eq_true rfl) ?_
  show gwp P _ _ _ _ _
  (apply w_sq; apply w_reg; apply w_boxa; rfl; intro _ _; apply w_done0; apply w_sq; apply w_sq; apply w_reg; apply w_fld; rfl; apply w_ld; rfl; exact hc_i 0 rfl rfl; apply w_fld; rfl; apply w_ld; rfl; exact hc_i 0 rfl rfl)
  rename_i b T
  refine w_bsl (cs := [.slice ka n.keys.length kc, .slice va n.vals.length vc]) (by omega) rfl (fun b2 T2 => ?_)
  (apply w_len; rfl; apply w_mvi; rfl; apply w_done0; apply w_block)
  refine w_loopS (α := Nat) (fun j => [(1, .pointer (some ⟨b, 0, none⟩)), (11, .slice (some ⟨b2, 0, none⟩) 2 2), (12, .int .i64 2), (13, .int .i64 j)])
    (fun j d' L' => d = d' ∧ (j = 0 ∧ L' = bx b2 T2 [.slice ka n.keys.length kc, .slice va n.vals.length vc] :: bx b T [.bool n.leaf, .slice ka n.keys.length kc, .slice va n.vals.length vc, .slice ia n.kids.length ic] :: (Lk ++ (Lv ++ [hi])) ∨ j = 1 ∧ L' = bx b2 T2 [.slice ka n.keys.length kc, .slice va n.vals.length vc] :: bx b T [.bool n.leaf, .slice ka n.keys.length kc, .slice va n.vals.length vc, .slice ia n.kids.length ic] :: (Lv ++ [hi]) ∨ j = 2 ∧ L' = bx b2 T2 [.slice ka n.keys.length kc, .slice va n.vals.length vc] :: bx b T [.bool n.leaf, .slice ka n.keys.length kc, .slice va n.vals.length vc, .slice ia n.kids.length ic] :: [hi])) (fun j => 2 - j) 0 ⟨rfl, rfl, rfl, rfl, trivial⟩ ⟨rfl, .inl ⟨rfl, by simp⟩⟩ ?_
  rintro j ρ d' L' ⟨hdd, hj⟩
  subst hdd
  by_cases hj2 : j = 2
  · subst hj2
    obtain rfl : L' = bx b2 T2 [.slice ka n.keys.length kc, .slice va n.vals.length vc] :: bx b T [.bool n.leaf, .slice ka n.keys.length kc, .slice va n.vals.length vc, .slice ia n.kids.length ic] :: [hi] := by
      rcases hj with ⟨h, _⟩ | ⟨h, _⟩ | ⟨_, h⟩
      · omega
      · omega
      · exact h
    (apply w_sq; apply w_reg; apply w_lss; rfl; rfl; apply w_done0; apply w_sq; refine w_ifdF rfl (by omega) ?_; apply w_exit; apply w_sq; apply w_reg; apply w_fld; rfl; apply w_ld; rfl; exact hc_i 1 rfl rfl; apply w_len; rfl; apply w_mvi; rfl; apply w_done0; apply w_block)
    refine w_loopS (α := Nat × List Int × PHeap) (fun x => [(1, .pointer (some ⟨b, 0, none⟩)), (47, .int .i64 n.kids.length), (48, .int .i64 x.1)])
      (fun x d' L' => d = d' ∧ x.1 ≤ n.kids.length ∧ x.2.1.length = n.kids.length ∧ GRow 1 RInt d (.slice ia n.kids.length ic) x.2.1 x.2.2 ∧ L' = bx b2 T2 [.slice ka n.keys.length kc, .slice va n.vals.length vc] :: bx b T [.bool n.leaf, .slice ka n.keys.length kc, .slice va n.vals.length vc, .slice ia n.kids.length ic] :: [x.2.2]) (fun x => n.kids.length - x.1) (0, n.kids, hi) ⟨rfl, rfl, rfl, trivial⟩ ⟨rfl, Nat.zero_le _, rfl, oi, rfl⟩ ?_
    rintro ⟨k, ys, g⟩ ρ d' L' ⟨hdd, hk, hyl, hg, hL⟩
    simp only at hk hyl hg hL
    subst hdd; subst hL
    (apply w_sq; apply w_reg; apply w_lss; rfl; rfl; apply w_done0; apply w_sq)
    first | refine w_ifd rfl (fun hc => ?_) (fun hc => ?_) | refine w_if rfl (fun hc => ?_) (fun hc => ?_)
    · have hk1 : k < ys.length := by first | omega | (simp only at hc; omega)
      obtain ⟨gb, gT, gl, gc, e1, rfl, hml, hmg, hset⟩ := hg.openI hk1
      rw [hyl] at e1
      cases e1
      (apply w_skip; apply w_sq; apply w_block; apply w_sq; apply w_reg; apply w_mvi; rfl; apply w_mvi; rfl; apply w_done0; apply w_reg; apply w_fld; rfl; apply w_ld; rfl; exact hc_i 1 rfl rfl; apply w_mvi; rfl)
      refine w_idx1 k rfl rfl rfl (by omega) ?_
      refine w_st 2 rfl rfl rfl rfl (by first | omega | (simp [Value.cells]; omega)) rfl ?_
      (apply w_done0; apply w_reg; apply w_add; rfl; rfl; omega; omega; apply w_mvi; rfl; apply w_done0)
      refine ⟨(k + 1, ys.set k (-9), _), by first | omega | (simp only; omega), ⟨rfl, rfl, int_eq (by simp), trivial⟩, rfl, by first | omega | (simp only; omega), by simpa using hyl, hset (-9) (by omega) (by omega), rfl⟩
    · (apply w_exit)
      exact finS [] trivial (List.nil_sublist _) ⟨rfl, rfl⟩
  · have hgen : ∃ (w : Value) (a : Option Addr) (c : Nat) (xs : List (List UInt8)) (Lx Tl : List PHeap), w = .slice a xs.length c ∧ OBss d w xs Lx ∧ L' = bx b2 T2 [.slice ka n.keys.length kc, .slice va n.vals.length vc] :: bx b T [.bool n.leaf, .slice ka n.keys.length kc, .slice va n.vals.length vc, .slice ia n.kids.length ic] :: (Lx ++ Tl) ∧ j < 2 ∧ [Value.slice ka n.keys.length kc, .slice va n.vals.length vc][j]? = some w ∧ xs.length ≤ 140737488355328 ∧
        (j + 1 = 0 ∧ bx b2 T2 [.slice ka n.keys.length kc, .slice va n.vals.length vc] :: bx b T [.bool n.leaf, .slice ka n.keys.length kc, .slice va n.vals.length vc, .slice ia n.kids.length ic] :: Tl = bx b2 T2 [.slice ka n.keys.length kc, .slice va n.vals.length vc] :: bx b T [.bool n.leaf, .slice ka n.keys.length kc, .slice va n.vals.length vc, .slice ia n.kids.length ic] :: (Lk ++ (Lv ++ [hi])) ∨ j + 1 = 1 ∧ bx b2 T2 [.slice ka n.keys.length kc, .slice va n.vals.length vc] :: bx b T [.bool n.leaf, .slice ka n.keys.length kc, .slice va n.vals.length vc, .slice ia n.kids.length ic] :: Tl = bx b2 T2 [.slice ka n.keys.length kc, .slice va n.vals.length vc] :: bx b T [.bool n.leaf, .slice ka n.keys.length kc, .slice va n.vals.length vc, .slice ia n.kids.length ic] :: (Lv ++ [hi]) ∨ j + 1 = 2 ∧ bx b2 T2 [.slice ka n.keys.length kc, .slice va n.vals.length vc] :: bx b T [.bool n.leaf, .slice ka n.keys.length kc, .slice va n.vals.length vc, .slice ia n.kids.length ic] :: Tl = bx b2 T2 [.slice ka n.keys.length kc, .slice va n.vals.length vc] :: bx b T [.bool n.leaf, .slice ka n.keys.length kc, .slice va n.vals.length vc, .slice ia n.kids.length ic] :: [hi]) := by
      rcases hj with ⟨rfl, h⟩ | ⟨rfl, h⟩ | ⟨h, _⟩
      · exact ⟨_, ka, kc, n.keys, Lk, Lv ++ [hi], rfl, ok, h, by omega, rfl, hkl, .inr (.inl ⟨rfl, rfl⟩)⟩
      · exact ⟨_, va, vc, n.vals, Lv, [hi], rfl, ov, h, by omega, rfl, hvl, .inr (.inr ⟨rfl, rfl⟩)⟩
      · exact absurd h hj2
    obtain ⟨w, a, c, xs, Lx, Tl, rfl, ox, hL, hj3, hw, hxl, hnext⟩ := hgen
    subst hL
    obtain ⟨us, h0, hs, o0, hhl, hel, rfl⟩ := ox
    have hul : us.length = xs.length := by have := o0.1; omega
    (apply w_sq; apply w_reg; apply w_lss; rfl; rfl; apply w_done0; apply w_sq; refine w_ifdT rfl (by omega) ?_; apply w_skip; apply w_sq; apply w_block; apply w_sq; apply w_reg)
    refine w_idx (a := some ⟨b2, 0, none⟩) j rfl rfl rfl (by omega) (SAd.some 2 b2 0) ?_
    (apply w_ld; rfl; exact hc_i 0 rfl (by simpa using hw))
    (apply w_mvs; rfl; apply w_done0; apply w_sq; apply w_reg; apply w_mvs; rfl; apply w_len; rfl; apply w_mvi; rfl; apply w_done0; apply w_block)
    refine w_loopS (α := Nat × List Value × PHeap) (fun x => [(1, .pointer (some ⟨b, 0, none⟩)), (3, .slice a xs.length c), (11, .slice (some ⟨b2, 0, none⟩) 2 2), (12, .int .i64 2), (13, .int .i64 j), (18, .int .i64 xs.length), (19, .int .i64 x.1)])
      (fun x d' L' => d = d' ∧ x.1 ≤ xs.length ∧ x.2.1.length = xs.length ∧ (∀ m, x.1 ≤ m → x.2.1[m]? = us[m]?) ∧ ORow 1 (.slice a xs.length c) xs.length x.2.1 x.2.2 ∧ L' = bx b2 T2 [.slice ka n.keys.length kc, .slice va n.vals.length vc] :: bx b T [.bool n.leaf, .slice ka n.keys.length kc, .slice va n.vals.length vc, .slice ia n.kids.length ic] :: x.2.2 :: (hs.drop x.1 ++ Tl)) (fun x => xs.length - x.1) (0, us, h0) ⟨rfl, rfl, rfl, rfl, rfl, rfl, rfl, trivial⟩ ⟨rfl, Nat.zero_le _, hul, fun _ _ => rfl, o0, by simp⟩ ?_
    rintro ⟨i, us', h0'⟩ ρ d' L' ⟨hdd, hi1, hul', hsame, o0', hL⟩
    simp only at hi1 hul' hsame o0' hL
    subst hdd
    (apply w_sq; apply w_reg; apply w_lss; rfl; rfl; apply w_done0; apply w_sq)
    first | refine w_ifd rfl (fun hc => ?_) (fun hc => ?_) | refine w_if rfl (fun hc => ?_) (fun hc => ?_)
    · have hi2 : i < xs.length := by first | omega | (simp only at hc; omega)
      obtain ⟨u, g, hu, hg, og⟩ := hel i hi2
      rw [drop_cons hg] at hL
      subst hL
      have hyl := og.len_le
      obtain ⟨gb, gT, gl, gc, e1, rfl, hml, hmg, hset⟩ := o0'.open1 hi2
      cases e1
      obtain ⟨ua, uc, rfl⟩ := og.val
      have hlu : gl[i]? = some (.slice ua xs[i].length uc) := hmg _ (by rw [hsame i (Nat.le_refl _)]; exact hu)
      (apply w_skip; apply w_sq; apply w_block; apply w_sq; apply w_reg; apply w_mvi; rfl; apply w_mvi; rfl; apply w_done0; apply w_sq; apply w_sq; apply w_reg; apply w_mvs; rfl; apply w_mvi; rfl)
      refine w_idx1 i rfl rfl rfl (by omega) ?_
      (apply w_ld; rfl; exact hc_i 2 rfl (by simpa using hlu))
      (apply w_len; rfl; apply w_mvi; rfl; apply w_done0; apply w_block)
      refine w_loopS (α := Nat × List UInt8 × PHeap) (fun x => [(1, .pointer (some ⟨b, 0, none⟩)), (3, .slice (some ⟨gb, 0, none⟩) xs.length c), (4, .int .i64 i), (11, .slice (some ⟨b2, 0, none⟩) 2 2), (12, .int .i64 2), (13, .int .i64 j), (18, .int .i64 xs.length), (19, .int .i64 i), (26, .int .i64 xs[i].length), (27, .int .i64 x.1)])
        (fun x d' L' => d = d' ∧ x.1 ≤ xs[i].length ∧ x.2.1.length = xs[i].length ∧ GRow 1 RByte d (.slice ua xs[i].length uc) x.2.1 x.2.2 ∧ L' = bx b2 T2 [.slice ka n.keys.length kc, .slice va n.vals.length vc] :: bx b T [.bool n.leaf, .slice ka n.keys.length kc, .slice va n.vals.length vc, .slice ia n.kids.length ic] :: bx gb gT gl :: x.2.2 :: (hs.drop (i + 1) ++ Tl)) (fun x => xs[i].length - x.1) (0, xs[i], g) ⟨rfl, rfl, rfl, rfl, rfl, rfl, rfl, rfl, rfl, rfl, trivial⟩ ⟨rfl, Nat.zero_le _, rfl, og, rfl⟩ ?_
      rintro ⟨k, ys, g'⟩ ρ d' L' ⟨hdd, hk, hyl', og', hL⟩
      simp only at hk hyl' og' hL
      subst hdd; subst hL
      (apply w_sq; apply w_reg; apply w_lss; rfl; rfl; apply w_done0; apply w_sq)
      first | refine w_ifd rfl (fun hc2 => ?_) (fun hc2 => ?_) | refine w_if rfl (fun hc2 => ?_) (fun hc2 => ?_)
      · have hk1 : k < ys.length := by first | omega | (simp only at hc2; omega)
        have hop := og'.openB hk1
        obtain ⟨yb, yT, yl, yc, e2, rfl, hop⟩ := hop
        have hyml := hop.1
        have hyg := hop.2.1
        have hyset := hop.2.2
        clear hop
        rw [hyl'] at e2
        simp only [Value.slice.injEq, true_and] at e2
        obtain ⟨rfl, rfl⟩ := e2
        (apply w_skip; apply w_sq; apply w_block; apply w_sq; apply w_reg; apply w_mvi; rfl; apply w_mvi; rfl; apply w_done0; apply w_reg; apply w_mvs; rfl; apply w_mvi; rfl)
        refine w_idx1 i rfl rfl rfl (by omega) ?_
        (apply w_ld; rfl; exact hc_i 2 rfl (by simpa using hlu))
        (apply w_mvi; rfl)
        refine w_idx1 k rfl rfl rfl (by omega) ?_
        (apply w_ld; rfl; exact hc_i 3 rfl (by simpa using hyg))
        refine w_addB rfl rfl ?_
        skip
        refine w_idx1 k rfl rfl rfl (by omega) ?_
        refine w_st 3 rfl rfl rfl rfl (by first | omega | (simp [Value.cells, byteV]; omega)) rfl ?_
        (apply w_done0; apply w_reg; apply w_add; rfl; rfl; omega; omega; apply w_mvi; rfl; apply w_done0)
        exact ⟨(k + 1, ys.set k _, _), by first | omega | (simp only; omega), ⟨rfl, rfl, rfl, rfl, rfl, rfl, rfl, rfl, rfl, int_eq (by simp), trivial⟩, rfl, by first | omega | (simp only; omega), by simpa using hyl', hyset _, rfl⟩
      · (apply w_exit; apply w_reg; apply w_mvs; rfl; apply w_mvi; rfl)
        refine w_idx1 i rfl rfl rfl (by omega) ?_
        refine w_st 2 rfl rfl rfl rfl (by first | omega | (simp [Value.cells]; omega)) rfl ?_
        refine w_vsd _ (bx b2 T2 [.slice ka n.keys.length kc, .slice va n.vals.length vc] :: bx b T [.bool n.leaf, .slice ka n.keys.length kc, .slice va n.vals.length vc, .slice ia n.kids.length ic] :: bx gb gT (patch gl i [.slice none 0 0]) :: (hs.drop (i + 1) ++ Tl)) (Vs.drop ((((List.sublist_cons_self _ _).cons_cons _).cons_cons _).cons_cons _)) ?_
        (apply w_reg; apply w_add; rfl; rfl; omega; omega; apply w_mvi; rfl; apply w_done0)
        exact ⟨(i + 1, us'.set i (.slice none 0 0), _), by first | omega | (simp only; omega), ⟨rfl, rfl, rfl, rfl, rfl, rfl, int_eq (by simp), trivial⟩, rfl, by first | omega | (simp only; omega), by simpa using hul', fun m hm => by rw [List.getElem?_set_ne (by simp only at hm; omega)]; exact hsame m (by simp only at hm; omega), hset _, rfl⟩
    · have hie : i = xs.length := by first | omega | (simp only at hc; omega)
      subst hie
      rw [← hhl, List.drop_length, List.nil_append] at hL
      subst hL
      (apply w_exit; apply w_reg)
      refine w_vs _ (bx b2 T2 [.slice ka n.keys.length kc, .slice va n.vals.length vc] :: bx b T [.bool n.leaf, .slice ka n.keys.length kc, .slice va n.vals.length vc, .slice ia n.kids.length ic] :: Tl) (Vs.drop (((List.sublist_cons_self _ _).cons_cons _).cons_cons _)) ?_
      (apply w_add; rfl; rfl; omega; omega; apply w_mvi; rfl; apply w_done0)
      exact ⟨j + 1, by omega, ⟨rfl, rfl, rfl, int_eq (by omega), trivial⟩, rfl, hnext⟩
end Go.Gk.Node
