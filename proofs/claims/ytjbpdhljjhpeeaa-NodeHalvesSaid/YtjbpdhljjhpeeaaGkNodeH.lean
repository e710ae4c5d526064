/-
  Nodes: one is read of bytes: the program's parts.
-/
import Derived.Test.YtjbpdhljjhpeeaaGkNodeF
import Derived.Test.YtjbpdhljjhpeeaaGk15
namespace Go.Gk.Node
open Go Go.Gk
attribute [local irreducible] gwp gws

def TakeOk (P : Program) (f : FuncId) : Prop := ∀ {d : PHeap} {b : Nat} {T : TypeId} {v : Value} {l : List UInt8}, RBytes d v l → ∀ n : Nat, n ≤ 255 →
  GCall P f [.pointer (some ⟨b, 0, none⟩), .int .i64 n] d [bx b T [v]] (Ret fun r d' L' => d' = d ∧ ((l.length < n ∧ r = .tuple #[.slice none 0 0, .bool false] ∧ L' = [bx b T [v]]) ∨
    (n ≤ l.length ∧ ∃ u v' g, r = .tuple #[u, .bool true] ∧ L' = [g, bx b T [v']] ∧ GRow 1 RByte d u (l.take n) g ∧ RBytes d v' (l.drop n))))
def g_node_take (f_slices_Clone_byte_byte : Nat) : GFun :=
 ⟨27, [(.tmp 4), (.tmp 5)],
 (.seq
 (.reg false (.op false ⟨(some 4), none, (.mv (.const (.slice none 0 0)))⟩
  (.op false ⟨(some 5), none, (.mv (.const (.bool false)))⟩ .done)))
 (.seq (.seq
 (.reg false (.op false ⟨(some 7), none, (.mv (.tmp 1))⟩
  (.op false ⟨(some 8), none, (.mv (.tmp 0))⟩
  (.op false ⟨(some 9), none, (.nilc (.tmp 8))⟩
  (.op false ⟨(some 10), none, (.ld none (.tmp 9))⟩
  (.op false ⟨(some 11), none, (.len (.tmp 10))⟩
  (.op false ⟨(some 12), none, (.bin .gtr (.tmp 7) (.tmp 11))⟩ .done))))))) (.cond (.tmp 12)
 (.seq
 (.reg false (.op false ⟨(some 4), none, (.mv (.const (.slice none 0 0)))⟩
  (.op false ⟨(some 5), none, (.mv (.const (.bool false)))⟩ .done))) .ret) .skip))
 (.seq
 (.reg false (.op false ⟨(some 13), none, (.mv (.tmp 0))⟩
  (.op false ⟨(some 14), none, (.nilc (.tmp 13))⟩
  (.op false ⟨(some 15), none, (.ld none (.tmp 14))⟩
  (.op false ⟨(some 16), none, (.mv (.tmp 1))⟩
  (.op false ⟨(some 17), none, (.sl 1 (.tmp 15) none (some (.tmp 16)) none)⟩
  (.op false ⟨(some 18), none, (.call f_slices_Clone_byte_byte [(.tmp 17)])⟩
  (.op false ⟨(some 6), none, (.mv (.tmp 18))⟩ .done))))))))
 (.seq
 (.reg false (.op false ⟨(some 19), none, (.mv (.tmp 0))⟩
  (.op false ⟨(some 20), none, (.mv (.tmp 0))⟩
  (.op false ⟨(some 21), none, (.nilc (.tmp 20))⟩
  (.op false ⟨(some 22), none, (.ld none (.tmp 21))⟩
  (.op false ⟨(some 23), none, (.mv (.tmp 1))⟩
  (.op false ⟨(some 24), none, (.sl 1 (.tmp 22) (some (.tmp 23)) none none)⟩
  (.op false ⟨(some 25), none, (.nilc (.tmp 19))⟩
  (.op false ⟨none, none, (.st 1 (.tmp 25) (.tmp 24))⟩ .done)))))))))
 (.seq
 (.reg false (.op false ⟨(some 26), none, (.mv (.tmp 6))⟩
  (.op false ⟨(some 4), none, (.mv (.tmp 26))⟩
  (.op false ⟨(some 5), none, (.mv (.const (.bool true)))⟩ .done)))) .ret)))))⟩

theorem take_ok {P : Program} {f f1 : FuncId} (hd : dec P f = some (g_node_take f1)) (h1 : CloneOk RByte 1 P f1) : TakeOk P f := by
  intro d b T v l hv n hn
  have hll := RBytes.len_le hv
  refine GCall_of hd (Nat.le_of_ble_eq_true rfl) ?_
  show gwp P _ _ _ _ _
  (apply w_sq; apply w_reg; apply w_mvs; rfl; apply w_mvb; rfl; apply w_done0; apply w_sq; apply w_sq; apply w_reg; apply w_mvi; rfl; apply w_mvp; rfl; apply w_nilc; rfl; apply w_ld; rfl; exact hc_i 0 rfl rfl; apply w_lenR; rfl; assumption; apply w_gtr; rfl; rfl; apply w_done0)
  first | refine w_ifd rfl (fun hc => ?_) (fun hc => ?_) | refine w_if rfl (fun hc => ?_) (fun hc => ?_)
  · (apply w_sq; apply w_reg; apply w_mvs; rfl; apply w_mvb; rfl; apply w_done0; apply w_ret)
    exact fin2 (L' := [bx b T [v]]) rfl rfl (List.Sublist.refl _) ⟨rfl, .inl ⟨by omega, rfl, rfl⟩⟩
  · (apply w_skip; apply w_sq; apply w_reg; apply w_mvp; rfl; apply w_nilc; rfl; apply w_ld; rfl; exact hc_i 0 rfl rfl; apply w_mvi; rfl)
    refine w_slTo rfl hv rfl rfl (show n ≤ l.length by omega) (fun v1 hv1 => ?_)
    refine w_call0 rfl (h1 hv1 (by simp; omega)) (fun u d1 L1 _ ⟨hdd, g, hL, hg⟩ => ?_)
    subst hdd; subst hL
    (apply w_mv; apply w_done0; apply w_sq; apply w_reg; apply w_mvp; rfl; apply w_mvp; rfl; apply w_nilc; rfl; apply w_ld; rfl; exact hc_i 1 rfl rfl; apply w_mvi; rfl)
    refine w_slFrom rfl hv rfl rfl (show n ≤ l.length by omega) (fun v2 hv2 => ?_)
    obtain ⟨a2, c2, rfl⟩ := RSl.val hv2
    (apply w_nilc; rfl)
    refine w_st 1 rfl rfl rfl rfl (by simp [Value.cells]) rfl ?_
    (apply w_done0; apply w_sq; apply w_reg; apply w_mv; apply w_mv; apply w_mvb; rfl; apply w_done0; apply w_ret)
    exact fin2 (L' := [g, bx b T [.slice a2 (l.drop n).length c2]]) rfl rfl (List.Sublist.refl _) ⟨rfl, .inr ⟨by omega, _, _, _, rfl, rfl, hg, hv2⟩⟩

def pieceF : List UInt8 → Option (List UInt8 × List UInt8)
  | [] => none
  | x :: r => if r.length < x.toNat then none else some (r.take x.toNat, r.drop x.toNat)
def PieceOk (P : Program) (f : FuncId) : Prop := ∀ {d : PHeap} {b : Nat} {T : TypeId} {v : Value} {l : List UInt8}, RBytes d v l →
  GCall P f [.pointer (some ⟨b, 0, none⟩)] d [bx b T [v]] (Ret fun r d' L' => d' = d ∧ ((pieceF l = none ∧ r = .tuple #[.slice none 0 0, .bool false] ∧ ∃ v', L' = [bx b T [v']]) ∨
    (∃ x rest u v' g, pieceF l = some (x, rest) ∧ r = .tuple #[u, .bool true] ∧ L' = [g, bx b T [v']] ∧ GRow 1 RByte d u x g ∧ RBytes d v' rest)))
def g_node_piece (f_node_take : Nat) : GFun :=
 ⟨21, [(.tmp 2), (.tmp 3)],
 (.seq
 (.reg false (.op false ⟨(some 2), none, (.mv (.const (.slice none 0 0)))⟩
  (.op false ⟨(some 3), none, (.mv (.const (.bool false)))⟩ .done)))
 (.seq
 (.reg false (.op false ⟨(some 7), none, (.mv (.tmp 0))⟩
  (.op false ⟨(some 8), none, (.call f_node_take [(.tmp 7), (.const (.int .i64 1))])⟩
  (.op false ⟨(some 6), none, (.mv (.tmp 8))⟩
  (.op false ⟨(some 9), none, (.ext (.tmp 6) 0)⟩
  (.op false ⟨(some 10), none, (.ext (.tmp 6) 1)⟩
  (.op false ⟨(some 4), none, (.mv (.tmp 9))⟩
  (.op false ⟨(some 5), none, (.mv (.tmp 10))⟩ .done))))))))
 (.seq (.seq
 (.reg false (.op false ⟨(some 11), none, (.mv (.tmp 5))⟩
  (.op false ⟨(some 12), none, (.un .not (.tmp 11))⟩ .done))) (.cond (.tmp 12)
 (.seq
 (.reg false (.op false ⟨(some 2), none, (.mv (.const (.slice none 0 0)))⟩
  (.op false ⟨(some 3), none, (.mv (.const (.bool false)))⟩ .done))) .ret) .skip))
 (.seq
 (.reg false (.op false ⟨(some 13), none, (.mv (.tmp 0))⟩
  (.op false ⟨(some 14), none, (.mv (.tmp 4))⟩
  (.op false ⟨(some 15), none, (.idx 1 (.tmp 14) (.const (.int .i64 0)))⟩
  (.op false ⟨(some 16), none, (.ld none (.tmp 15))⟩
  (.op false ⟨(some 17), none, (.cvi .i64 (.tmp 16))⟩
  (.op false ⟨(some 18), none, (.call f_node_take [(.tmp 13), (.tmp 17)])⟩
  (.op false ⟨(some 19), none, (.ext (.tmp 18) 0)⟩
  (.op false ⟨(some 20), none, (.ext (.tmp 18) 1)⟩
  (.op false ⟨(some 2), none, (.mv (.tmp 19))⟩
  (.op false ⟨(some 3), none, (.mv (.tmp 20))⟩ .done))))))))))) .ret))))⟩

theorem piece_ok {P : Program} {f f1 : FuncId} (hd : dec P f = some (g_node_piece f1)) (h1 : TakeOk P f1) : PieceOk P f := by
  intro d b T v l hv
  refine GCall_of hd (Nat.le_of_ble_eq_true rfl) ?_
  show gwp P _ _ _ _ _
  (apply w_sq; apply w_reg; apply w_mvs; rfl; apply w_mvb; rfl; apply w_done0; apply w_sq; apply w_reg; apply w_mvp; rfl)
  refine w_calln 1 rfl (h1 hv 1 (by omega)) (fun r d1 L1 _ ⟨hdd, hr⟩ => ?_)
  subst hdd
  rcases hr with ⟨hl, hr, hL⟩ | ⟨hl, u, v', g, hr, hL, hg, hv'⟩
  · subst hr; subst hL
    obtain rfl : l = [] := List.eq_nil_of_length_eq_zero (by omega)
    (apply w_mvu; rfl; apply w_ext; rfl; rfl; apply w_ext; rfl; rfl; apply w_mvs; rfl; apply w_mvb; rfl; apply w_done0; apply w_sq; apply w_sq; apply w_reg; apply w_mvb; rfl; apply w_not; rfl; apply w_done0; apply w_ifT; rfl; apply w_sq; apply w_reg; apply w_mvs; rfl; apply w_mvb; rfl; apply w_done0; apply w_ret)
    exact fin2 (L' := [bx b T [v]]) rfl rfl (List.Sublist.refl _) ⟨rfl, .inl ⟨rfl, rfl, v, rfl⟩⟩
  · subst hr; subst hL
    cases l with
    | nil => simp at hl
    | cons x l =>
      have hx : x.toNat < 256 := UInt8.toNat_lt x
      obtain ⟨gb, gT, gl, gc, e1, rfl, hop⟩ := hg.openB (m := 0) (by simp)
      subst e1
      have hg0 : gl[0]? = some (byteV x) := by simpa using hop.2.1
      (apply w_mvu; rfl; apply w_ext; rfl; rfl; apply w_ext; rfl; rfl; apply w_mvs; rfl; apply w_mvb; rfl; apply w_done0; apply w_sq; apply w_sq; apply w_reg; apply w_mvb; rfl; apply w_not; rfl; apply w_done0; apply w_ifF; rfl; apply w_skip; apply w_sq; apply w_reg; apply w_mvp; rfl; apply w_mvs; rfl)
      refine w_idx1 0 rfl rfl rfl (by simp) ?_
      (apply w_ld; rfl; exact hc_i 0 rfl hg0)
      (apply w_cvi64; rfl; omega; omega)
      refine w_vs _ [bx b T [v']] (Vs.drop (List.sublist_cons_self _ _)) ?_
      refine w_calln 1 rfl (h1 hv' x.toNat (by omega)) (fun r d2 L2 _ ⟨hdd, hr⟩ => ?_)
      subst hdd
      have hv2 : (List.drop 1 (x :: l)) = l := rfl
      rw [hv2] at hr
      rcases hr with ⟨hl2, hr, hL⟩ | ⟨hl2, u2, v2, g2, hr, hL, hg2, hv2'⟩
      · subst hr; subst hL
        (apply w_ext; rfl; rfl; apply w_ext; rfl; rfl; apply w_mvs; rfl; apply w_mvb; rfl; apply w_done0; apply w_ret)
        exact fin2 (L' := [bx b T [v']]) rfl rfl (List.Sublist.refl _) ⟨rfl, .inl ⟨by simp [pieceF, hl2], rfl, v', rfl⟩⟩
      · subst hr; subst hL
        (apply w_ext; rfl; rfl; apply w_ext; rfl; rfl; apply w_mv; apply w_mvb; rfl; apply w_done0; apply w_ret)
        exact fin2 (L' := [g2, bx b T [v2]]) rfl rfl (List.Sublist.refl _) ⟨rfl, .inr ⟨l.take x.toNat, l.drop x.toNat, u2, v2, g2, by simp [pieceF]; omega, rfl, rfl, hg2, hv2'⟩⟩

def kidF : List UInt8 → Option (Nat × List UInt8)
  | a :: b :: r => some (a.toNat * 256 + b.toNat, r)
  | _ => none
def KidOk (P : Program) (f : FuncId) : Prop := ∀ {d : PHeap} {b : Nat} {T : TypeId} {v : Value} {l : List UInt8}, RBytes d v l →
  GCall P f [.pointer (some ⟨b, 0, none⟩)] d [bx b T [v]] (Ret fun r d' L' => d' = d ∧ ((kidF l = none ∧ r = .tuple #[.int .i64 0, .bool false] ∧ ∃ v', L' = [bx b T [v']]) ∨
    (∃ x rest v', kidF l = some (x, rest) ∧ r = .tuple #[.int .i64 (x : Nat), .bool true] ∧ L' = [bx b T [v']] ∧ RBytes d v' rest)))
def g_node_kid (f_node_take : Nat) : GFun :=
 ⟨23, [(.tmp 2), (.tmp 3)],
 (.seq
 (.reg false (.op false ⟨(some 2), none, (.mv (.const (.int .i64 0)))⟩
  (.op false ⟨(some 3), none, (.mv (.const (.bool false)))⟩ .done)))
 (.seq
 (.reg false (.op false ⟨(some 7), none, (.mv (.tmp 0))⟩
  (.op false ⟨(some 8), none, (.call f_node_take [(.tmp 7), (.const (.int .i64 2))])⟩
  (.op false ⟨(some 6), none, (.mv (.tmp 8))⟩
  (.op false ⟨(some 9), none, (.ext (.tmp 6) 0)⟩
  (.op false ⟨(some 10), none, (.ext (.tmp 6) 1)⟩
  (.op false ⟨(some 4), none, (.mv (.tmp 9))⟩
  (.op false ⟨(some 5), none, (.mv (.tmp 10))⟩ .done))))))))
 (.seq (.seq
 (.reg false (.op false ⟨(some 11), none, (.mv (.tmp 5))⟩
  (.op false ⟨(some 12), none, (.un .not (.tmp 11))⟩ .done))) (.cond (.tmp 12)
 (.seq
 (.reg false (.op false ⟨(some 2), none, (.mv (.const (.int .i64 0)))⟩
  (.op false ⟨(some 3), none, (.mv (.const (.bool false)))⟩ .done))) .ret) .skip))
 (.seq
 (.reg true (.op true ⟨(some 13), none, (.mv (.tmp 4))⟩
  (.op true ⟨(some 14), none, (.idx 1 (.tmp 13) (.const (.int .i64 0)))⟩
  (.op true ⟨(some 15), none, (.ld none (.tmp 14))⟩
  (.op true ⟨(some 16), none, (.cvi .i64 (.tmp 15))⟩
  (.op true ⟨(some 17), none, (.bin .shl (.tmp 16) (.const (.int .u64 8)))⟩
  (.op true ⟨(some 18), none, (.mv (.tmp 4))⟩
  (.op true ⟨(some 19), none, (.idx 1 (.tmp 18) (.const (.int .i64 1)))⟩
  (.op true ⟨(some 20), none, (.ld none (.tmp 19))⟩
  (.op true ⟨(some 21), none, (.cvi .i64 (.tmp 20))⟩
  (.op true ⟨(some 22), none, (.bin .or (.tmp 17) (.tmp 21))⟩
  (.bar (.op true ⟨(some 2), none, (.mv (.tmp 22))⟩
  (.op true ⟨(some 3), none, (.mv (.const (.bool true)))⟩ .done)))))))))))))) .ret))))⟩

theorem kid_ok {P : Program} {f f1 : FuncId} (hd : dec P f = some (g_node_kid f1)) (h1 : TakeOk P f1) : KidOk P f := by
  intro d b T v l hv
  refine GCall_of hd (Nat.le_of_ble_eq_true rfl) ?_
  show gwp P _ _ _ _ _
  (apply w_sq; apply w_reg; apply w_mvi; rfl; apply w_mvb; rfl; apply w_done0; apply w_sq; apply w_reg; apply w_mvp; rfl)
  refine w_calln 1 rfl (h1 hv 2 (by omega)) (fun r d1 L1 _ ⟨hdd, hr⟩ => ?_)
  subst hdd
  rcases hr with ⟨hl, hr, hL⟩ | ⟨hl, u, v', g, hr, hL, hg, hv'⟩
  · subst hr; subst hL
    have hk : kidF l = none := by
      match l, hl with
      | [], _ => rfl
      | [a], _ => rfl
    (apply w_mvu; rfl; apply w_ext; rfl; rfl; apply w_ext; rfl; rfl; apply w_mvs; rfl; apply w_mvb; rfl; apply w_done0; apply w_sq; apply w_sq; apply w_reg; apply w_mvb; rfl; apply w_not; rfl; apply w_done0; apply w_ifT; rfl; apply w_sq; apply w_reg; apply w_mvi; rfl; apply w_mvb; rfl; apply w_done0; apply w_ret)
    exact fin2 (L' := [bx b T [v]]) rfl rfl (List.Sublist.refl _) ⟨rfl, .inl ⟨hk, rfl, v, rfl⟩⟩
  · subst hr; subst hL
    match l, hl, hg, hv' with
    | x :: y :: l, hl, hg, hv' =>
      have hx : x.toNat < 256 := UInt8.toNat_lt x
      have hy : y.toNat < 256 := UInt8.toNat_lt y
      have hop1 := hg.openB (m := 1) (by simp)
      obtain ⟨gb, gT, gl, gc, e1, rfl, hop⟩ := hg.openB (m := 0) (by simp)
      subst e1
      have hg0 : gl[0]? = some (byteV x) := by simpa using hop.2.1
      have hg1 : gl[1]? = some (byteV y) := by
        obtain ⟨gb1, gT1, gl1, gc1, e2, e3, hop1⟩ := hop1
        have h4 := congrFun (congrFun e3 gb1) (.cells gl1.toArray gT1 (0, 0))
        have h5 : bx gb1 gT1 gl1 gb1 (.cells gl1.toArray gT1 (0, 0)) := sg_self _ _
        rw [← h4] at h5
        have h6 := (sg_some h5).2
        simp only [Obj.cells.injEq] at h6
        have h7 : gl1 = gl := by have := congrArg Array.toList h6.1; simpa using this
        rw [← h7]; simpa using hop1.2.1
      (apply w_mvu; rfl; apply w_ext; rfl; rfl; apply w_ext; rfl; rfl; apply w_mvs; rfl; apply w_mvb; rfl; apply w_done0; apply w_sq; apply w_sq; apply w_reg; apply w_mvb; rfl; apply w_not; rfl; apply w_done0; apply w_ifF; rfl; apply w_skip; apply w_sq; apply w_drawn; apply w_mvs; rfl)
      refine w_idx1 0 rfl rfl rfl (by simp) ?_
      (apply w_ld; rfl; exact hc_i 0 rfl hg0)
      (apply w_cvi64; rfl; omega; omega)
      refine w_shl8 (a := x.toNat) rfl rfl (by omega) ?_
      (apply w_mvs; rfl)
      refine w_idx1 1 rfl rfl rfl (by simp) ?_
      (apply w_ld; rfl; exact hc_i 0 rfl hg1)
      (apply w_cvi64; rfl; omega; omega)
      refine w_or8 (a := x.toNat) (b := y.toNat) rfl rfl (by omega) hy ?_
      (apply w_bar; apply w_mvi; rfl; apply w_mvb; rfl; apply w_done0; apply w_ret)
      exact fin2 (L' := [bx b T [v']]) rfl rfl (List.sublist_cons_self _ _) ⟨rfl, .inr ⟨_, l, v', rfl, rfl, rfl, hv'⟩⟩
end Go.Gk.Node
