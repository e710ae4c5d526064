/-
  Nodes: one is read of bytes: the program.
-/
import Derived.Test.YtjbpdhljjhpeeaaGkNodeH
namespace Go.Gk.Node
open Go Go.Gk
attribute [local irreducible] gwp gws

/-- What stands behind k keys. -/
def itemsF (lf : Bool) (l0 : List UInt8) (is0 : List Int) : Nat → Option (List (List UInt8) × List (List UInt8) × List Int × List UInt8)
  | 0 => some ([], [], is0, l0)
  | k + 1 => match itemsF lf l0 is0 k with
    | none => none
    | some (ks, vs, is, l) => match pieceF l with
      | none => none
      | some (x, l1) => match lf with
        | true => match pieceF l1 with
          | none => none
          | some (y, l2) => some (ks ++ [x], vs ++ [y], is, l2)
        | false => match kidF l1 with
          | none => none
          | some (m, l2) => some (ks ++ [x], vs, is ++ [(m : Int)], l2)
theorem itemsF_none {lf : Bool} {l0 : List UInt8} {is0 : List Int} {k : Nat} (h : itemsF lf l0 is0 k = none) : ∀ {m : Nat}, k ≤ m → itemsF lf l0 is0 m = none := by
  intro m hm
  induction hm with
  | refl => exact h
  | step _ ih => simp [itemsF, ih]
def startF (lf : Bool) (l : List UInt8) : Option (List Int × List UInt8) := match lf with
  | true => some ([], l)
  | false => match kidF l with
    | none => none
    | some (m, r) => some ([(m : Int)], r)
def parseF (b : List UInt8) : Option NodeD :=
  match startF (b.getD 0 0 == 1) (b.drop 2) with
  | none => none
  | some (is0, l0) => match itemsF (b.getD 0 0 == 1) l0 is0 (b.getD 1 0).toNat with
    | none => none
    | some (ks, vs, is, _) => some ⟨b.getD 0 0 == 1, ks, vs, is⟩
theorem itemsF_len {lf : Bool} {l0 : List UInt8} {is0 : List Int} : ∀ {k : Nat} {ks vs is l}, itemsF lf l0 is0 k = some (ks, vs, is, l) → ks.length = k ∧ vs.length ≤ k ∧ is.length ≤ is0.length + k := by
  intro k
  induction k with
  | zero => intro ks vs is l h; simp only [itemsF, Option.some.injEq, Prod.mk.injEq] at h; obtain ⟨rfl, rfl, rfl, rfl⟩ := h; simp
  | succ k ih =>
    intro ks vs is l h
    simp only [itemsF] at h
    split at h
    · cases h
    · rename_i ks' vs' is' l' e
      have := ih e
      split at h
      · cases h
      · split at h
        · split at h
          · cases h
          · simp only [Option.some.injEq, Prod.mk.injEq] at h; obtain ⟨rfl, rfl, rfl, rfl⟩ := h; simp; omega
        · split at h
          · cases h
          · simp only [Option.some.injEq, Prod.mk.injEq] at h; obtain ⟨rfl, rfl, rfl, rfl⟩ := h; simp; omega

/-- The same as OBss, the outer block apart. -/
def OB (d : PHeap) (v : Value) (xs : List (List UInt8)) (h0 : PHeap) (hs : List PHeap) : Prop := ∃ us, ORow 1 v xs.length us h0 ∧ hs.length = xs.length ∧ ∀ i (hi : i < xs.length), ∃ u g, us[i]? = some u ∧ hs[i]? = some g ∧ GRow 1 RByte d u xs[i] g
theorem OB.nil {d : PHeap} : OB d (.slice none 0 0) [] emp [] := ⟨[], ORow.nil 1, rfl, fun i hi => absurd hi (Nat.not_lt_zero i)⟩
theorem OB.obss {d : PHeap} {v : Value} {xs : List (List UInt8)} {h0 : PHeap} {hs : List PHeap} (o : OB d v xs h0 hs) : OBss d v xs (h0 :: hs) := let ⟨us, a, b, c⟩ := o; ⟨us, h0, hs, a, b, c, rfl⟩
theorem OB.val {d : PHeap} {v : Value} {xs : List (List UInt8)} {h0 : PHeap} {hs : List PHeap} (o : OB d v xs h0 hs) : ∃ a c, v = .slice a xs.length c := o.obss.val
section
variable {P : Program} {pan : List PanicEntry → Post} {Qn : Env → Post} {Ls L : List PHeap} {ρ : Env} {d : PHeap} {s : GS} {t : Nat}
theorem w_appOB {by_ : Nat} {z : List Value} {x y : Operand} (i : Nat) {v : Value} {xs : List (List UInt8)} {h0 : PHeap} {hs : List PHeap} {b : Nat} {T : TypeId} {u : Value} {g : PHeap} {l : List UInt8} (ex : ev ρ x = v) (hi : L[i]? = some h0) (o : OB d v xs h0 hs)
    (ey : ev ρ y = .slice (some ⟨b, 0, none⟩) 1 1) (og : GRow 1 RByte d u l g) (hm : xs.length + 1 ≤ 140737488355328) (hb : (xs.length + 1) * by_ ≤ 140737488355328)
    (k : ∀ v' h', OB d v' (xs ++ [l]) h' (hs ++ [g]) → gws P pan Qn s Ls (upd ρ t v') d (L.set i h')) : gws P pan Qn (.op false ⟨some t, none, .app 1 by_ z x y⟩ s) Ls ρ d (bx b T [u] :: L) := by
  obtain ⟨us, o1, o2, o3⟩ := o
  have hul := o1.1
  obtain ⟨a, c, rfl⟩ := og.val
  refine w_appLO i ex hi o1 ey rfl rfl (by omega) hm hb (fun v' h' o' => k v' h' ⟨us ++ [.slice a l.length c], by simpa using o', by simp [o2], fun j hj => ?_⟩)
  by_cases e : j < xs.length
  · obtain ⟨u', g', e1, e2, e3⟩ := o3 j e
    exact ⟨u', g', by rw [List.getElem?_append_left (by omega)]; exact e1, by rw [List.getElem?_append_left (by omega)]; exact e2, by rw [List.getElem_append_left e]; exact e3⟩
  · obtain rfl : j = xs.length := by simp at hj; omega
    exact ⟨.slice a l.length c, g, by rw [List.getElem?_append_right (by omega), hul, Nat.mul_one, Nat.sub_self]; rfl, by rw [List.getElem?_append_right (by omega), o2, Nat.sub_self]; rfl, by rw [List.getElem_append_right (Nat.le_refl _)]; simpa using og⟩
end

theorem kidF_le {l r : List UInt8} {x : Nat} (h : kidF l = some (x, r)) : x ≤ 65535 := by
  match l, h with
  | a :: b :: l, h =>
    simp only [kidF, Option.some.injEq, Prod.mk.injEq] at h
    have := a.toNat_lt
    have := b.toNat_lt
    omega
def ParseOk (P : Program) (f : FuncId) : Prop := ∀ {d : PHeap} {v : Value} {l : List UInt8}, RBytes d v l → 2 ≤ l.length →
  GCall P f [v] d [] (Ret fun r d' L' => d' = d ∧ ((∃ cs : List Value, parseF l = none ∧ r = .tuple #[.agg cs.toArray, .bool false] ∧ cs.length = 4 ∧ (cs.all (·.oneCell')) = true ∧ L' = []) ∨
    (∃ (cs : List Value) (n : NodeD), parseF l = some n ∧ r = .tuple #[.agg cs.toArray, .bool true] ∧ ONode d cs n L')))
def g_node_parse (f_node_kid f_node_piece : Nat) : GFun :=
 ⟨85, [(.cell 2 (some 4)), (.tmp 3)],
 (.seq
 (.reg false (.op false ⟨(some 2), none, (.alo (.agg #[(.bool false), (.slice none 0 0), (.slice none 0 0), (.slice none 0 0)]))⟩
  (.op false ⟨(some 3), none, (.mv (.const (.bool false)))⟩ .done)))
 (.seq
 (.reg false (.op false ⟨(some 14), none, (.mv (.tmp 0))⟩
  (.op false ⟨(some 15), none, (.idx 1 (.tmp 14) (.const (.int .i64 0)))⟩
  (.op false ⟨(some 16), none, (.ld none (.tmp 15))⟩
  (.op false ⟨(some 17), none, (.bin .eql (.tmp 16) (.const (.int .u8 1)))⟩
  (.op false ⟨(some 18), none, (.bld [(0, 1), (1, 1), (2, 1), (3, 1)] [(.bool false), (.slice none 0 0), (.slice none 0 0), (.slice none 0 0)] [(0, (.tmp 17))])⟩
  (.op false ⟨(some 4), none, (.alo (.agg #[(.bool false), (.slice none 0 0), (.slice none 0 0), (.slice none 0 0)]))⟩
  (.op false ⟨none, none, (.st 4 (.tmp 4) (.tmp 18))⟩ .done))))))))
 (.seq
 (.reg false (.op false ⟨(some 19), none, (.mv (.tmp 0))⟩
  (.op false ⟨(some 20), none, (.sl 1 (.tmp 19) (some (.const (.int .i64 2))) none none)⟩
  (.op false ⟨(some 5), none, (.alo (.slice none 0 0))⟩
  (.op false ⟨none, none, (.st 1 (.tmp 5) (.tmp 20))⟩ .done)))))
 (.seq (.seq
 (.reg false (.op false ⟨(some 21), none, (.fld 0 (.tmp 4))⟩
  (.op false ⟨(some 22), none, (.ld none (.tmp 21))⟩
  (.op false ⟨(some 23), none, (.un .not (.tmp 22))⟩ .done)))) (.cond (.tmp 23)
 (.seq
 (.reg false (.op false ⟨(some 25), none, (.call f_node_kid [(.tmp 5)])⟩
  (.op false ⟨(some 24), none, (.mv (.tmp 25))⟩
  (.op false ⟨(some 26), none, (.ext (.tmp 24) 0)⟩
  (.op false ⟨(some 27), none, (.ext (.tmp 24) 1)⟩
  (.op false ⟨(some 6), none, (.mv (.tmp 26))⟩
  (.op false ⟨(some 7), none, (.mv (.tmp 27))⟩ .done)))))))
 (.seq (.seq
 (.reg false (.op false ⟨(some 28), none, (.mv (.tmp 7))⟩
  (.op false ⟨(some 29), none, (.un .not (.tmp 28))⟩ .done))) (.cond (.tmp 29)
 (.seq
 (.reg false (.op false ⟨(some 30), none, (.ld (some 4) (.tmp 4))⟩
  (.op false ⟨none, none, (.st 4 (.tmp 2) (.tmp 30))⟩
  (.op false ⟨(some 3), none, (.mv (.const (.bool false)))⟩ .done)))) .ret) .skip))
 (.reg false (.op false ⟨(some 31), none, (.fld 3 (.tmp 4))⟩
  (.op false ⟨(some 32), none, (.ld none (.tmp 31))⟩
  (.op false ⟨(some 33), none, (.mv (.tmp 6))⟩
  (.op false ⟨(some 34), none, (.bsl 1 1 [(.int .i64 0)] [(0, (.tmp 33))])⟩
  (.op false ⟨(some 35), none, (.app 1 8 [(.int .i64 0)] (.tmp 32) (.tmp 34))⟩
  (.op false ⟨(some 36), none, (.fld 3 (.tmp 4))⟩
  (.op false ⟨none, none, (.st 1 (.tmp 36) (.tmp 35))⟩ .done)))))))))) .skip))
 (.seq (.seq
 (.reg false (.op false ⟨(some 37), none, (.mv (.tmp 0))⟩
  (.op false ⟨(some 38), none, (.idx 1 (.tmp 37) (.const (.int .i64 1)))⟩
  (.op false ⟨(some 39), none, (.ld none (.tmp 38))⟩
  (.op false ⟨(some 40), none, (.mv (.const (.int .u8 0)))⟩ .done))))) (.block 0 (.loop
 (.seq
 (.reg false (.op false ⟨(some 41), none, (.bin .lss (.tmp 40) (.tmp 39))⟩ .done))
 (.seq (.cond (.tmp 41) .skip (.exit 0))
 (.seq (.block 1
 (.seq
 (.reg false (.op false ⟨(some 43), none, (.call f_node_piece [(.tmp 5)])⟩
  (.op false ⟨(some 42), none, (.mv (.tmp 43))⟩
  (.op false ⟨(some 44), none, (.ext (.tmp 42) 0)⟩
  (.op false ⟨(some 45), none, (.ext (.tmp 42) 1)⟩
  (.op false ⟨(some 8), none, (.mv (.tmp 44))⟩
  (.op false ⟨(some 9), none, (.mv (.tmp 45))⟩ .done)))))))
 (.seq (.seq
 (.reg false (.op false ⟨(some 46), none, (.mv (.tmp 9))⟩
  (.op false ⟨(some 47), none, (.un .not (.tmp 46))⟩ .done))) (.cond (.tmp 47)
 (.seq
 (.reg false (.op false ⟨(some 48), none, (.ld (some 4) (.tmp 4))⟩
  (.op false ⟨none, none, (.st 4 (.tmp 2) (.tmp 48))⟩
  (.op false ⟨(some 3), none, (.mv (.const (.bool false)))⟩ .done)))) .ret) .skip))
 (.seq
 (.reg false (.op false ⟨(some 49), none, (.fld 1 (.tmp 4))⟩
  (.op false ⟨(some 50), none, (.ld none (.tmp 49))⟩
  (.op false ⟨(some 51), none, (.mv (.tmp 8))⟩
  (.op false ⟨(some 52), none, (.bsl 1 1 [(.slice none 0 0)] [(0, (.tmp 51))])⟩
  (.op false ⟨(some 53), none, (.app 1 24 [(.slice none 0 0)] (.tmp 50) (.tmp 52))⟩
  (.op false ⟨(some 54), none, (.fld 1 (.tmp 4))⟩
  (.op false ⟨none, none, (.st 1 (.tmp 54) (.tmp 53))⟩ .done))))))))
 (.seq
 (.reg false (.op false ⟨(some 55), none, (.fld 0 (.tmp 4))⟩
  (.op false ⟨(some 56), none, (.ld none (.tmp 55))⟩ .done))) (.cond (.tmp 56)
 (.seq
 (.reg false (.op false ⟨(some 58), none, (.call f_node_piece [(.tmp 5)])⟩
  (.op false ⟨(some 57), none, (.mv (.tmp 58))⟩
  (.op false ⟨(some 59), none, (.ext (.tmp 57) 0)⟩
  (.op false ⟨(some 60), none, (.ext (.tmp 57) 1)⟩
  (.op false ⟨(some 10), none, (.mv (.tmp 59))⟩
  (.op false ⟨(some 11), none, (.mv (.tmp 60))⟩ .done)))))))
 (.seq (.seq
 (.reg false (.op false ⟨(some 61), none, (.mv (.tmp 11))⟩
  (.op false ⟨(some 62), none, (.un .not (.tmp 61))⟩ .done))) (.cond (.tmp 62)
 (.seq
 (.reg false (.op false ⟨(some 63), none, (.ld (some 4) (.tmp 4))⟩
  (.op false ⟨none, none, (.st 4 (.tmp 2) (.tmp 63))⟩
  (.op false ⟨(some 3), none, (.mv (.const (.bool false)))⟩ .done)))) .ret) .skip))
 (.reg false (.op false ⟨(some 64), none, (.fld 2 (.tmp 4))⟩
  (.op false ⟨(some 65), none, (.ld none (.tmp 64))⟩
  (.op false ⟨(some 66), none, (.mv (.tmp 10))⟩
  (.op false ⟨(some 67), none, (.bsl 1 1 [(.slice none 0 0)] [(0, (.tmp 66))])⟩
  (.op false ⟨(some 68), none, (.app 1 24 [(.slice none 0 0)] (.tmp 65) (.tmp 67))⟩
  (.op false ⟨(some 69), none, (.fld 2 (.tmp 4))⟩
  (.op false ⟨none, none, (.st 1 (.tmp 69) (.tmp 68))⟩ .done))))))))))
 (.seq
 (.reg false (.op false ⟨(some 71), none, (.call f_node_kid [(.tmp 5)])⟩
  (.op false ⟨(some 70), none, (.mv (.tmp 71))⟩
  (.op false ⟨(some 72), none, (.ext (.tmp 70) 0)⟩
  (.op false ⟨(some 73), none, (.ext (.tmp 70) 1)⟩
  (.op false ⟨(some 12), none, (.mv (.tmp 72))⟩
  (.op false ⟨(some 13), none, (.mv (.tmp 73))⟩ .done)))))))
 (.seq (.seq
 (.reg false (.op false ⟨(some 74), none, (.mv (.tmp 13))⟩
  (.op false ⟨(some 75), none, (.un .not (.tmp 74))⟩ .done))) (.cond (.tmp 75)
 (.seq
 (.reg false (.op false ⟨(some 76), none, (.ld (some 4) (.tmp 4))⟩
  (.op false ⟨none, none, (.st 4 (.tmp 2) (.tmp 76))⟩
  (.op false ⟨(some 3), none, (.mv (.const (.bool false)))⟩ .done)))) .ret) .skip))
 (.reg false (.op false ⟨(some 77), none, (.fld 3 (.tmp 4))⟩
  (.op false ⟨(some 78), none, (.ld none (.tmp 77))⟩
  (.op false ⟨(some 79), none, (.mv (.tmp 12))⟩
  (.op false ⟨(some 80), none, (.bsl 1 1 [(.int .i64 0)] [(0, (.tmp 79))])⟩
  (.op false ⟨(some 81), none, (.app 1 8 [(.int .i64 0)] (.tmp 78) (.tmp 80))⟩
  (.op false ⟨(some 82), none, (.fld 3 (.tmp 4))⟩
  (.op false ⟨none, none, (.st 1 (.tmp 82) (.tmp 81))⟩ .done))))))))))))))))
 (.reg false (.op false ⟨(some 83), none, (.bin .add (.tmp 40) (.const (.int .u8 1)))⟩
  (.op false ⟨(some 40), none, (.mv (.tmp 83))⟩ .done)))))))))
 (.seq
 (.reg false (.op false ⟨(some 84), none, (.ld (some 4) (.tmp 4))⟩
  (.op false ⟨none, none, (.st 4 (.tmp 2) (.tmp 84))⟩
  (.op false ⟨(some 3), none, (.mv (.const (.bool true)))⟩ .done)))) .ret))))))⟩

set_option maxHeartbeats 1000000 in
theorem parse_ok {P : Program} {f f1 f2 : FuncId} (hd : dec P f = some (g_node_parse f1 f2)) (h1 : KidOk P f1) (h2 : PieceOk P f2) : ParseOk P f := by
  intro d v l hv hl
  refine GCall_of hd (Nat.le_of_ble_eq_true rfl) ?_
  have hll := RBytes.len_le hv
  obtain ⟨lf, hlf⟩ : ∃ lf : Bool, lf = (l.getD 0 0 == 1) := ⟨_, rfl⟩
  have hlf' : decide (((l[0]'(by omega)).toNat : Int) = 1) = lf := by
    rw [hlf]
    have : l.getD 0 0 = l[0]'(by omega) := by simp [show 0 < l.length by omega]
    rw [this, Bool.eq_iff_iff]
    simp only [decide_eq_true_eq, beq_iff_eq]
    constructor
    · intro h; exact UInt8.toNat_inj.1 (by simpa using (by omega : (l[0]'(by omega)).toNat = 1))
    · intro h; rw [h]; rfl
  show gwp P _ _ _ _ _
  (apply w_sq; apply w_reg; apply w_alo; intro _ _; apply w_mvb; rfl; apply w_done0; apply w_sq; apply w_reg; apply w_mv; refine w_idxR (m := 0) (sz := 1) (R := RByte) (by rfl) (by assumption) (by rfl) rfl (by omega) ?_; rintro _ _ _ _ _ rfl; apply w_ld; rfl; exact hc_ds0 (by assumption) rfl; apply w_eql; rfl; rfl; apply w_bld; rfl; apply w_alo; intro _ _)
  rw [hlf']
  skip
  rename_i b2 T2 _ _ _ _ b4 T4
  refine w_st 0 rfl rfl rfl rfl (by simp [Value.cells]) rfl ?_
  (apply w_done0; apply w_sq; apply w_reg; apply w_mv)
  refine w_slFrom rfl hv rfl rfl hl (fun lv hlv => ?_)
  obtain ⟨la, lc, rfl⟩ := RSl.val hlv
  (apply w_alo; intro _ _)
  rename_i b5 T5
  refine w_st 0 rfl rfl rfl rfl (by simp [Value.cells]) rfl ?_
  refine w_vsd d [bx b5 T5 [.slice la (l.drop 2).length lc], bx b4 T4 [.bool lf, .slice none 0 0, .slice none 0 0, .slice none 0 0], bx b2 T2 [.bool false, .slice none 0 0, .slice none 0 0, .slice none 0 0], emp, emp, emp] ((Vs.emp.trans (Vs.emp.trans Vs.emp)).trans (Vs.pick [3, 4, 5, 0, 1, 2] rfl)) ?_
  refine w_mid (fun ρ d' L' => d' = d ∧ SlotsAre ρ [(0, v), (2, .pointer (some ⟨b2, 0, none⟩)), (4, .pointer (some ⟨b4, 0, none⟩)), (5, .pointer (some ⟨b5, 0, none⟩))] ∧ ∃ is0 l0 ia ic lv hi, startF lf (l.drop 2) = some (is0, l0) ∧ is0.length ≤ 1 ∧ GRow 1 RInt d (.slice ia is0.length ic) is0 hi ∧ RBytes d lv l0 ∧ L' = [bx b5 T5 [lv], bx b4 T4 [.bool lf, .slice none 0 0, .slice none 0 0, .slice ia is0.length ic], bx b2 T2 [.bool false, .slice none 0 0, .slice none 0 0, .slice none 0 0], emp, emp, hi]) ?_ ?_
  · cases lf with
    | true =>
      (apply w_sq; apply w_reg; apply w_fld; rfl; apply w_ld; rfl; exact hc_i 1 rfl rfl; apply w_not; rfl; apply w_done0; apply w_ifF; rfl; apply w_skip)
      exact ⟨rfl, ⟨rfl, rfl, rfl, rfl, trivial⟩, [], l.drop 2, none, 0, _, emp, rfl, by simp, GRow.nil, hlv, rfl⟩
    | false =>
      (apply w_sq; apply w_reg; apply w_fld; rfl; apply w_ld; rfl; exact hc_i 1 rfl rfl; apply w_not; rfl; apply w_done0; apply w_ifT; rfl; apply w_sq; apply w_reg)
      refine w_calln 1 rfl (h1 hlv) (fun r d1 L1 _ ⟨hdd, hr⟩ => ?_)
      subst hdd
      rcases hr with ⟨hk, hr, v', hL⟩ | ⟨x, rest, v', hk, hr, hL, hv'⟩
      · subst hr; subst hL
        (apply w_mvu; rfl; apply w_ext; rfl; rfl; apply w_ext; rfl; rfl; apply w_mvi; rfl; apply w_mvb; rfl; apply w_done0; apply w_sq; apply w_sq; apply w_reg; apply w_mvb; rfl; apply w_not; rfl; apply w_done0; apply w_ifT; rfl; apply w_sq; apply w_reg; apply w_ldb 1; rfl; rfl; rfl)
        refine w_st 2 rfl rfl rfl rfl (by simp [Value.cells]) rfl ?_
        (apply w_mvb; rfl; apply w_done0; apply w_ret)
        exact finS [.agg [.bool false, .slice none 0 0, .slice none 0 0, .slice none 0 0].toArray, .bool false] ⟨res_cell 2 rfl rfl rfl, res_tmp rfl, trivial⟩ (List.nil_sublist _) ⟨rfl, .inl ⟨_, by simp only [parseF, ← hlf]; simp [startF, hk], rfl, rfl, rfl, rfl⟩⟩
      · subst hr; subst hL
        (apply w_mvu; rfl; apply w_ext; rfl; rfl; apply w_ext; rfl; rfl; apply w_mvi; rfl; apply w_mvb; rfl; apply w_done0; apply w_sq; apply w_sq; apply w_reg; apply w_mvb; rfl; apply w_not; rfl; apply w_done0; apply w_ifF; rfl; apply w_skip; apply w_reg; apply w_fld; rfl; apply w_ld; rfl; exact hc_i 1 rfl rfl; apply w_mvi; rfl)
        refine w_bsl (cs := [.int .i64 (x : Nat)]) (by omega) rfl (fun b8 T8 => ?_)
        have hx := kidF_le hk
        refine w_appL (R := RInt) (xs := []) 5 rfl rfl GRow.nil rfl (GRow.lit1 rfl ⟨rfl, by omega, by omega⟩) cell1_int (by omega) (by simp) (by simp) (fun v8 h8 o8 => ?_)
        obtain ⟨a8, c8, rfl⟩ := o8.val
        (apply w_fld; rfl)
        refine w_st 1 rfl rfl rfl rfl (by simp [Value.cells]) rfl ?_
        (apply w_done0)
        exact ⟨rfl, ⟨rfl, rfl, rfl, rfl, trivial⟩, [(x : Int)], rest, a8, c8, v', h8, by simp [startF, hk], by simp, o8, hv', rfl⟩
  · rintro ρ d' L' ⟨hdd, hsl, is0, l0, ia, ic, lv, hi, hst, his, oi, hlv, hL⟩
    subst hdd; subst hL
    refine gwp_slots _ hsl ?_
    (apply w_sq; apply w_sq; apply w_reg; apply w_mv; refine w_idxR (sz := 1) (R := RByte) (by rfl) (by assumption) (by rfl) (Int.natCast_add _ 1).symm (by omega) ?_; rintro _ _ _ _ _ rfl; apply w_ld; rfl; exact hc_ds0 (by assumption) rfl; apply w_mvi; rfl; apply w_done0; apply w_block)
    have hm := UInt8.toNat_lt (l[1]'hl)
    have hg1 : l.getD 1 0 = l[1]'hl := by simp [show 1 < l.length by omega]
    have hpn : ∀ k, k ≤ (l[1]'hl).toNat → itemsF lf l0 is0 k = none → parseF l = none := by
      intro k hk h
      simp only [parseF, ← hlf, hst, hg1, itemsF_none h hk]
    refine w_loopS (α := Nat) (fun k => [(2, .pointer (some ⟨b2, 0, none⟩)), (4, .pointer (some ⟨b4, 0, none⟩)), (5, .pointer (some ⟨b5, 0, none⟩)), (39, byteV (l[1]'hl)), (40, .int .u8 k)])
      (fun k d1 L' => d' = d1 ∧ k ≤ (l[1]'hl).toNat ∧ ∃ ks vs is l' ka kc va vc ia ic lv hk hks hv hvs hi, itemsF lf l0 is0 k = some (ks, vs, is, l') ∧ OB d' (.slice ka ks.length kc) ks hk hks ∧ OB d' (.slice va vs.length vc) vs hv hvs ∧ GRow 1 RInt d' (.slice ia is.length ic) is hi ∧ RBytes d' lv l' ∧
        L' = [bx b5 T5 [lv], bx b4 T4 [.bool lf, .slice ka ks.length kc, .slice va vs.length vc, .slice ia is.length ic], bx b2 T2 [.bool false, .slice none 0 0, .slice none 0 0, .slice none 0 0], hk, hv, hi] ++ (hks ++ hvs)) (fun k => (l[1]'hl).toNat - k) 0
      ⟨rfl, rfl, rfl, rfl, rfl, trivial⟩ ⟨rfl, Nat.zero_le _, [], [], is0, l0, none, 0, none, 0, ia, ic, lv, emp, [], emp, [], hi, rfl, OB.nil, OB.nil, oi, hlv, rfl⟩ ?_
    clear hlv oi
    rintro k ρ d1 L' ⟨hdd, hk, ks, vs, is, l', ka, kc, va, vc, ia, ic, lv, hkb, hks, hvb, hvs, hi, hit, ok, ov, oi, hlv, hL⟩
    subst hdd; subst hL
    have hlen := itemsF_len hit
    (apply w_sq; apply w_reg; apply w_lss; rfl; rfl; apply w_done0; apply w_sq)
    first | refine w_ifd rfl (fun hc => ?_) (fun hc => ?_) | refine w_if rfl (fun hc => ?_) (fun hc => ?_)
    · have hk1 : k < (l[1]'hl).toNat := by omega
      (apply w_skip; apply w_sq; apply w_block; apply w_sq; apply w_reg)
      refine w_calln 1 rfl (h2 hlv) (fun r d1 L1 _ ⟨hdd, hr⟩ => ?_)
      subst hdd
      rcases hr with ⟨hp, hr, v', hL⟩ | ⟨x, l1, u, v', g, hp, hr, hL, og, hlv1⟩
      · subst hr; subst hL
        (apply w_mvu; rfl; apply w_ext; rfl; rfl; apply w_ext; rfl; rfl; apply w_mvs; rfl; apply w_mvb; rfl; apply w_done0; apply w_sq; apply w_sq; apply w_reg; apply w_mvb; rfl; apply w_not; rfl; apply w_done0; apply w_ifT; rfl; apply w_sq; apply w_reg; apply w_ldb 1; rfl; rfl; rfl)
        refine w_st 2 rfl rfl rfl rfl (by simp [Value.cells]) rfl ?_
        (apply w_mvb; rfl; apply w_done0; apply w_ret)
        exact finS [.agg [.bool lf, .slice ka ks.length kc, .slice va vs.length vc, .slice ia is.length ic].toArray, .bool false] ⟨res_cell 2 rfl rfl rfl, res_tmp rfl, trivial⟩ (List.nil_sublist _) ⟨rfl, .inl ⟨_, hpn (k + 1) (by omega) (by simp [itemsF, hit, hp]), rfl, rfl, rfl, rfl⟩⟩
      · subst hr; subst hL
        obtain ⟨ua, uc, rfl⟩ := og.val
        (apply w_mvu; rfl; apply w_ext; rfl; rfl; apply w_ext; rfl; rfl; apply w_mvs; rfl; apply w_mvb; rfl; apply w_done0; apply w_sq; apply w_sq; apply w_reg; apply w_mvb; rfl; apply w_not; rfl; apply w_done0; apply w_ifF; rfl; apply w_skip; apply w_sq; apply w_reg; apply w_fld; rfl; apply w_ld; rfl; exact hc_i 2 rfl rfl; apply w_mvs; rfl)
        refine w_bsl (cs := [.slice ua x.length uc]) (by omega) rfl (fun b8 T8 => ?_)
        refine w_appOB 4 rfl rfl ok rfl og (by omega) (by omega) (fun v8 h8 ok' => ?_)
        obtain ⟨a8, c8, rfl⟩ := ok'.val
        (apply w_fld; rfl)
        refine w_st 2 rfl rfl rfl rfl (by simp [Value.cells]) rfl ?_
        refine w_vsd _ ([bx b5 T5 [v'], bx b4 T4 [.bool lf, .slice a8 (ks ++ [x]).length c8, .slice va vs.length vc, .slice ia is.length ic], bx b2 T2 [.bool false, .slice none 0 0, .slice none 0 0, .slice none 0 0], h8, hvb, hi] ++ ((hks ++ [g]) ++ hvs)) (Vs.picksE [[g], [bx b5 T5 [v']], [bx b4 T4 [.bool lf, .slice a8 (ks ++ [x]).length c8, .slice va vs.length vc, .slice ia is.length ic]], [bx b2 T2 [.bool false, .slice none 0 0, .slice none 0 0, .slice none 0 0]], [h8], [hvb], [hi], hks, hvs] [1, 2, 3, 4, 5, 6, 7, 0, 8] [] rfl rfl (by simp)) ?_
        cases lf with
        | true =>
          (apply w_sq; apply w_reg; apply w_fld; rfl; apply w_ld; rfl; exact hc_i 1 rfl rfl; apply w_done0; apply w_ifT; rfl; apply w_sq; apply w_reg)
          refine w_calln 1 rfl (h2 hlv1) (fun r d1 L1 _ ⟨hdd, hr⟩ => ?_)
          subst hdd
          rcases hr with ⟨hp2, hr, v2, hL⟩ | ⟨y, l2, u2, v2, g2, hp2, hr, hL, og2, hlv2⟩
          · subst hr; subst hL
            (apply w_mvu; rfl; apply w_ext; rfl; rfl; apply w_ext; rfl; rfl; apply w_mvs; rfl; apply w_mvb; rfl; apply w_done0; apply w_sq; apply w_sq; apply w_reg; apply w_mvb; rfl; apply w_not; rfl; apply w_done0; apply w_ifT; rfl; apply w_sq; apply w_reg; apply w_ldb 1; rfl; rfl; rfl)
            refine w_st 2 rfl rfl rfl rfl (by simp [Value.cells]) rfl ?_
            (apply w_mvb; rfl; apply w_done0; apply w_ret)
            exact finS [.agg [.bool true, .slice a8 (ks ++ [x]).length c8, .slice va vs.length vc, .slice ia is.length ic].toArray, .bool false] ⟨res_cell 2 rfl rfl rfl, res_tmp rfl, trivial⟩ (List.nil_sublist _) ⟨rfl, .inl ⟨_, hpn (k + 1) (by omega) (by simp [itemsF, hit, hp, hp2]), rfl, rfl, rfl, rfl⟩⟩
          · subst hr; subst hL
            obtain ⟨ua2, uc2, rfl⟩ := og2.val
            (apply w_mvu; rfl; apply w_ext; rfl; rfl; apply w_ext; rfl; rfl; apply w_mvs; rfl; apply w_mvb; rfl; apply w_done0; apply w_sq; apply w_sq; apply w_reg; apply w_mvb; rfl; apply w_not; rfl; apply w_done0; apply w_ifF; rfl; apply w_skip; apply w_reg; apply w_fld; rfl; apply w_ld; rfl; exact hc_i 2 rfl rfl; apply w_mvs; rfl)
            refine w_bsl (cs := [.slice ua2 y.length uc2]) (by omega) rfl (fun b9 T9 => ?_)
            refine w_appOB 5 rfl rfl ov rfl og2 (by omega) (by omega) (fun v9 h9 ov' => ?_)
            obtain ⟨a9, c9, rfl⟩ := ov'.val
            (apply w_fld; rfl)
            refine w_st 2 rfl rfl rfl rfl (by simp [Value.cells]) rfl ?_
            refine w_vsd _ ([bx b5 T5 [v2], bx b4 T4 [.bool true, .slice a8 (ks ++ [x]).length c8, .slice a9 (vs ++ [y]).length c9, .slice ia is.length ic], bx b2 T2 [.bool false, .slice none 0 0, .slice none 0 0, .slice none 0 0], h8, h9, hi] ++ ((hks ++ [g]) ++ (hvs ++ [g2]))) (Vs.picksE [[g2], [bx b5 T5 [v2]], [bx b4 T4 [.bool true, .slice a8 (ks ++ [x]).length c8, .slice a9 (vs ++ [y]).length c9, .slice ia is.length ic]], [bx b2 T2 [.bool false, .slice none 0 0, .slice none 0 0, .slice none 0 0]], [h8], [h9], [hi], hks ++ [g], hvs] [1, 2, 3, 4, 5, 6, 7, 8, 0] [] rfl rfl (by simp)) ?_
            (apply w_reg)
            refine w_add8 rfl rfl (by omega) (by omega) ?_
            (apply w_mvi; rfl; apply w_done0)
            exact ⟨k + 1, by omega, ⟨rfl, rfl, rfl, rfl, int_eq (by omega), trivial⟩, rfl, hk1, ks ++ [x], vs ++ [y], is, l2, a8, c8, a9, c9, ia, ic, v2, h8, hks ++ [g], h9, hvs ++ [g2], hi, by simp [itemsF, hit, hp, hp2], ok', ov', oi, hlv2, rfl⟩
        | false =>
          (apply w_sq; apply w_reg; apply w_fld; rfl; apply w_ld; rfl; exact hc_i 1 rfl rfl; apply w_done0; apply w_ifF; rfl; apply w_sq; apply w_reg)
          refine w_calln 1 rfl (h1 hlv1) (fun r d1 L1 _ ⟨hdd, hr⟩ => ?_)
          subst hdd
          rcases hr with ⟨hp2, hr, v2, hL⟩ | ⟨y, l2, v2, hp2, hr, hL, hlv2⟩
          · subst hr; subst hL
            (apply w_mvu; rfl; apply w_ext; rfl; rfl; apply w_ext; rfl; rfl; apply w_mvi; rfl; apply w_mvb; rfl; apply w_done0; apply w_sq; apply w_sq; apply w_reg; apply w_mvb; rfl; apply w_not; rfl; apply w_done0; apply w_ifT; rfl; apply w_sq; apply w_reg; apply w_ldb 1; rfl; rfl; rfl)
            refine w_st 2 rfl rfl rfl rfl (by simp [Value.cells]) rfl ?_
            (apply w_mvb; rfl; apply w_done0; apply w_ret)
            exact finS [.agg [.bool false, .slice a8 (ks ++ [x]).length c8, .slice va vs.length vc, .slice ia is.length ic].toArray, .bool false] ⟨res_cell 2 rfl rfl rfl, res_tmp rfl, trivial⟩ (List.nil_sublist _) ⟨rfl, .inl ⟨_, hpn (k + 1) (by omega) (by simp [itemsF, hit, hp, hp2]), rfl, rfl, rfl, rfl⟩⟩
          · subst hr; subst hL
            have hy := kidF_le hp2
            (apply w_mvu; rfl; apply w_ext; rfl; rfl; apply w_ext; rfl; rfl; apply w_mvi; rfl; apply w_mvb; rfl; apply w_done0; apply w_sq; apply w_sq; apply w_reg; apply w_mvb; rfl; apply w_not; rfl; apply w_done0; apply w_ifF; rfl; apply w_skip; apply w_reg; apply w_fld; rfl; apply w_ld; rfl; exact hc_i 1 rfl rfl; apply w_mvi; rfl)
            refine w_bsl (cs := [.int .i64 (y : Nat)]) (by omega) rfl (fun b9 T9 => ?_)
            refine w_appL (R := RInt) 5 rfl rfl oi rfl (GRow.lit1 rfl ⟨rfl, by omega, by omega⟩) cell1_int (by omega) (by simp; omega) (by simp; omega) (fun v9 h9 oi' => ?_)
            obtain ⟨a9, c9, rfl⟩ := oi'.val
            (apply w_fld; rfl)
            refine w_st 1 rfl rfl rfl rfl (by simp [Value.cells]) rfl ?_
            (apply w_done0; apply w_reg)
            refine w_add8 rfl rfl (by omega) (by omega) ?_
            (apply w_mvi; rfl; apply w_done0)
            exact ⟨k + 1, by omega, ⟨rfl, rfl, rfl, rfl, int_eq (by omega), trivial⟩, rfl, hk1, ks ++ [x], vs, is ++ [(y : Int)], l2, a8, c8, va, vc, a9, c9, v2, h8, hks ++ [g], hvb, hvs, h9, by simp [itemsF, hit, hp, hp2], ok', ov, oi', hlv2, rfl⟩
    · obtain rfl : k = (l[1]'hl).toNat := by omega
      (apply w_exit; apply w_sq; apply w_reg; apply w_ldb 1; rfl; rfl; rfl)
      refine w_st 2 rfl rfl rfl rfl (by simp [Value.cells]) rfl ?_
      (apply w_mvb; rfl; apply w_done0; apply w_ret)
      refine finV [.agg [.bool lf, .slice ka ks.length kc, .slice va vs.length vc, .slice ia is.length ic].toArray, .bool true] (L' := (hkb :: hks) ++ (hvb :: hvs) ++ [hi]) ⟨res_cell 2 rfl rfl rfl, res_tmp rfl, trivial⟩ (Vs.picksE [[bx b5 T5 [lv]], [bx b4 T4 [.bool lf, .slice ka ks.length kc, .slice va vs.length vc, .slice ia is.length ic]], [bx b2 T2 [.bool lf, .slice ka ks.length kc, .slice va vs.length vc, .slice ia is.length ic]], [hkb], [hvb], [hi], hks, hvs] [3, 6, 4, 7, 5] [0, 1, 2] rfl rfl (by simp)) ⟨rfl, .inr ⟨_, ⟨lf, ks, vs, is⟩, ?_, rfl, _, _, _, _, _, _, rfl, ok.obss, ov.obss, oi, rfl⟩⟩
      simp only [parseF, ← hlf, hst, hg1, hit]
end Go.Gk.Node
