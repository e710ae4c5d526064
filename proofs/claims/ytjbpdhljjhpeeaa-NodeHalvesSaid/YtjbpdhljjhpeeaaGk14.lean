/-
  Many blocks as one; data that is only lent; parts of slices.
-/
import Derived.Test.YtjbpdhljjhpeeaaGk13
namespace Go.Gk
open Go

def joinL : List PHeap → PHeap
  | [] => emp
  | h :: L => join h (joinL L)
theorem joinL_le : ∀ {L : List PHeap} {h : PHeap}, h ∈ L → Le h (joinL L)
  | k :: L, h, hm => by
    rcases List.mem_cons.1 hm with rfl | hm
    · exact Le.join_left _ _
    · exact (joinL_le hm).trans (Le.join_right _ _)
theorem joinL_disj {k : PHeap} : ∀ {L : List PHeap}, (∀ h ∈ L, Disj k h) → Disj k (joinL L)
  | [], _ => fun _ _ _ _ e => e.elim
  | h :: L, hd => fun b o o' e e' => e'.elim (hd h (List.mem_cons_self ..) b o o' e) (joinL_disj (fun h' hm => hd h' (List.mem_cons_of_mem _ hm)) b o o' e)
theorem Vs.cons {d d' h : PHeap} {L L' : List PHeap} (v : Vs d L d' L') : Vs d (h :: L) d' (h :: L') :=
  ⟨v.1, fun F W x => (v.2 (h :: F) W (x.perm (List.perm_middle.symm.cons d))).perm (List.perm_middle.cons d')⟩
theorem Vs.openL {d : PHeap} {L0 : List PHeap} : ∀ {L : List PHeap}, L.Pairwise Disj → Vs d (joinL L :: L0) d (L ++ L0)
  | [], _ => Vs.drop (List.sublist_cons_self _ _)
  | h :: L, hp => by
    rw [List.pairwise_cons] at hp
    exact (Vs.split (joinL_disj hp.1)).trans (Vs.cons (Vs.openL hp.2))
theorem Vs.packL {d : PHeap} {L0 : List PHeap} : ∀ {L : List PHeap}, Vs d (L ++ L0) d (joinL L :: L0)
  | [] => Vs.emp
  | h :: L => (Vs.cons (Vs.packL (L := L))).trans Vs.join
theorem Vs.pack {d : PHeap} (L : List PHeap) : Vs d L d [joinL L] := by
  have := Vs.packL (d := d) (L0 := []) (L := L)
  rwa [List.append_nil] at this

theorem Ok.pw {d : PHeap} {L F : List PHeap} {W : World} (x : Ok (d :: (L ++ F)) W) : (d :: L).Pairwise Disj := x.1.sublist ((List.sublist_append_left L F).cons_cons d)
theorem Ok.disj {P : Program} {f : FuncId} {args : List Value} {d : PHeap} {L : List PHeap} {R : Value → PHeap → List PHeap → Prop} (h : GCall P f args d L (Ret R)) : GCall P f args d L (Ret fun v d' L' => R v d' L' ∧ (d' :: L').Pairwise Disj) :=
  ⟨h.1, fun F W x => (h.2 F W x).mono fun e W' ⟨d', L', a, b, c, r⟩ => ⟨d', L', a, b, c, by
    cases e with
    | returned v => exact ⟨r, a.pw⟩
    | panicked c => exact r
    | outgrown => exact r⟩⟩
/-- What is owned may be read as data while a call that only computes runs. -/
theorem GPure.borrow {P : Program} {f : FuncId} {vs : List Value} {d : PHeap} {L : List PHeap} {v : Value} (h : ∀ d1, Le d d1 → (∀ k ∈ L, Le k d1) → GPure P f vs d1 v) :
    GCall P f vs d L (Ret fun r d' L' => r = v ∧ d' = d ∧ L' = L) := by
  have h := h (joinL (d :: L)) (joinL_le (List.mem_cons_self ..)) (fun k hk => joinL_le (List.mem_cons_of_mem _ hk))
  refine ⟨h.1, fun F W x => ?_⟩
  have hp := x.pw
  have y : Ok (joinL (d :: L) :: ([] ++ F)) W := by
    have := (Vs.packL (d := emp) (L0 := F) (L := d :: L)).2 [] W (by simpa using x.emp)
    simpa using this.tail
  refine (h.2 F W y).mono fun e W' ⟨d', L', a, b, c, r⟩ => ?_
  cases e with
  | panicked c => exact r.elim
  | outgrown => exact r.elim
  | returned u =>
    obtain ⟨rfl, rfl, rfl⟩ := r
    refine ⟨d, L, ?_, Le.refl d, c, rfl, rfl, rfl⟩
    have := (Vs.openL (d := emp) (L0 := F) hp).2 [] W' (by simpa using a.emp)
    simpa using this.tail

section
variable {P : Program} {pan : List PanicEntry → Post} {Qn : Env → Post} {Ls L : List PHeap} {ρ : Env} {d : PHeap} {s : GS} {t : Nat} {tk : Bool}
theorem w_pureB {f : FuncId} {args : List Operand} {vs : List Value} {v : Value} (ea : args.map (ev ρ) = vs) (hc : ∀ d1, Le d d1 → (∀ k ∈ L, Le k d1) → GPure P f vs d1 v)
    (h : gws P pan Qn s Ls (upd ρ t v) d L) : gws P pan Qn (.op false ⟨some t, none, .call f args⟩ s) Ls ρ d L := by
  refine w_calln (R := fun r d' L' => r = v ∧ d' = d ∧ L' = L) L.length ea (by rw [List.take_length]; exact GPure.borrow hc) (fun r d' L' _ ⟨h1, h2, h3⟩ => ?_)
  subst h1; subst h2; subst h3
  rw [List.drop_length, List.append_nil]; exact h
/-- A callee that takes the blocks A. -/
theorem w_callA {f : FuncId} {args : List Operand} {R : Value → PHeap → List PHeap → Prop} {vs : List Value} {A B : List PHeap} (hL : L = A ++ B) (ea : args.map (ev ρ) = vs) (hc : GCall P f vs d A (Ret R))
    (h : ∀ v d' L', Le d d' → R v d' L' → gws P pan Qn s Ls (upd ρ t v) d' (L' ++ B)) : gws P pan Qn (.op false ⟨some t, none, .call f args⟩ s) Ls ρ d L := by
  subst hL
  refine w_calln A.length ea (by rw [List.take_left]; exact hc) (fun v d' L' hl hr => ?_)
  rw [List.drop_left]; exact h v d' L' hl hr
end

/-! ### parts of slices -/
theorem RSl.cut {α : Type} {sz : Nat} {R : PHeap → List Value → α → Prop} {d : PHeap} {a : Option Addr} {n c : Nat} {xs : List α} (hr : RSl sz R d (.slice a n c) xs) {l h m : Nat} (h1 : l ≤ h) (h2 : h ≤ m) (h3 : m ≤ c) (h4 : h ≤ xs.length) :
    RSl sz R d (.slice (if m = l then a else a.map fun a => ⟨a.block, a.off + l * sz, none⟩) (h - l) (m - l)) ((xs.drop l).take (h - l)) := by
  obtain ⟨a', c', b, o, e, k2, k3, k4, k5, k6, k7, k8⟩ := hr
  cases e
  have hl : ((xs.drop l).take (h - l)).length = h - l := by simp; omega
  refine ⟨_, m - l, b, o + l * sz, by rw [hl], fun h0 => ?_, fun h0 a' ha => ?_, fun h0 => ?_, by omega, by omega, by omega, fun i hi => ?_⟩
  · rw [hl] at h0
    rw [if_neg (by omega), k2 (by omega)]; rfl
  · rw [if_neg (by omega)] at ha
    cases a with
    | none => cases ha
    | some a => cases ha; rfl
  · split at h0
    · omega
    · cases a with
      | none => have := k4 rfl; omega
      | some a => cases h0
  · rw [hl] at hi
    obtain ⟨cs, j1, j2, j3⟩ := k8 (l + i) (by omega)
    refine ⟨cs, j1, ?_, ?_⟩
    · rw [Nat.add_mul, ← Nat.add_assoc] at j2; exact j2
    · simpa using j3
section
variable {P : Program} {pan : List PanicEntry → Post} {Qn : Env → Post} {Ls L : List PHeap} {ρ : Env} {d : PHeap} {s : GS} {t : Nat} {tk : Bool} {α : Type} {sz : Nat} {R : PHeap → List Value → α → Prop} {x y z : Operand} {v : Value} {xs : List α} {kk kk' : IntKind} {n m : Nat}
theorem w_slTo {j : Int} (ex : ev ρ x = v) (hr : RSl sz R d v xs) (ey : ev ρ y = .int kk j) (hj : j = (n : Int)) (hn : n ≤ xs.length) (k : ∀ v', RSl sz R d v' (xs.take n) → gws P pan Qn s Ls (upd ρ t v') d L) :
    gws P pan Qn (.op tk ⟨some t, none, .sl sz x none (some y) none⟩ s) Ls ρ d L := by
  subst hj
  have hr' := hr
  obtain ⟨a, c, b, o, rfl, h2, h3, h4, h5, h6, h7, h8⟩ := hr
  have hc : cutV xs.length c none (some (ev ρ y)) none = some (0, n, c) := by
    simp only [cutV, cutM, cutH, cutL, Option.bind_some, Option.map_some, ey, bnd]
    rw [if_pos (by omega)]; simp
  refine w_q rfl ⟨a, xs.length, c, 0, n, c, ex, h3, hc, rfl⟩ (k _ ?_)
  simpa using hr'.cut (l := 0) (h := n) (m := c) (by omega) (by omega) (Nat.le_refl c) hn
theorem w_slTo3 {j j' : Int} (ex : ev ρ x = v) (hr : RSl sz R d v xs) (ey : ev ρ y = .int kk j) (ez : ev ρ z = .int kk' j') (hj : j = (n : Int)) (hj' : j' = (n : Int)) (hn : n ≤ xs.length) (k : ∀ v', RSl sz R d v' (xs.take n) → gws P pan Qn s Ls (upd ρ t v') d L) :
    gws P pan Qn (.op tk ⟨some t, none, .sl sz x none (some y) (some z)⟩ s) Ls ρ d L := by
  subst hj; subst hj'
  have hr' := hr
  obtain ⟨a, c, b, o, rfl, h2, h3, h4, h5, h6, h7, h8⟩ := hr
  have hc : cutV xs.length c none (some (ev ρ y)) (some (ev ρ z)) = some (0, n, n) := by
    simp only [cutV, cutM, cutH, cutL, Option.bind_some, Option.map_some, ey, ez, bnd]
    rw [if_pos (by omega)]
    simp
  refine w_q rfl ⟨a, xs.length, c, 0, n, n, ex, fun h0 => h3 (by omega), hc, rfl⟩ (k _ ?_)
  simpa using hr'.cut (l := 0) (h := n) (m := n) (by omega) (by omega) (by omega) hn
theorem w_slFrom {j : Int} (ex : ev ρ x = v) (hr : RSl sz R d v xs) (ey : ev ρ y = .int kk j) (hj : j = (n : Int)) (hn : n ≤ xs.length) (k : ∀ v', RSl sz R d v' (xs.drop n) → gws P pan Qn s Ls (upd ρ t v') d L) :
    gws P pan Qn (.op tk ⟨some t, none, .sl sz x (some y) none none⟩ s) Ls ρ d L := by
  subst hj
  have hr' := hr
  obtain ⟨a, c, b, o, rfl, h2, h3, h4, h5, h6, h7, h8⟩ := hr
  have hc : cutV xs.length c (some (ev ρ y)) none none = some (n, xs.length, c) := by
    simp only [cutV, cutM, cutH, cutL, Option.isSome_none, Bool.false_eq_true, if_false, Option.bind_some, Option.map_some, ey, bnd]
    rw [if_pos (by omega)]; simp
  refine w_q rfl ⟨a, xs.length, c, n, xs.length, c, ex, fun (h0 : c ≠ n) => h3 (by omega), hc, rfl⟩ (k _ ?_)
  have := hr'.cut (l := n) (h := xs.length) (m := c) (by omega) (by omega) (Nat.le_refl c) (Nat.le_refl _)
  rwa [List.take_of_length_le (by simp)] at this
theorem w_slMid {j j' : Int} (ex : ev ρ x = v) (hr : RSl sz R d v xs) (ey : ev ρ y = .int kk j) (ez : ev ρ z = .int kk' j') (hj : j = (n : Int)) (hj' : j' = (m : Int)) (hnm : n ≤ m) (hn : m ≤ xs.length) (k : ∀ v', RSl sz R d v' ((xs.drop n).take (m - n)) → gws P pan Qn s Ls (upd ρ t v') d L) :
    gws P pan Qn (.op tk ⟨some t, none, .sl sz x (some y) (some z) none⟩ s) Ls ρ d L := by
  subst hj; subst hj'
  have hr' := hr
  obtain ⟨a, c, b, o, rfl, h2, h3, h4, h5, h6, h7, h8⟩ := hr
  have hc : cutV xs.length c (some (ev ρ y)) (some (ev ρ z)) none = some (n, m, c) := by
    simp only [cutV, cutM, cutH, cutL, Option.bind_some, Option.map_some, ey, ez, bnd]
    rw [if_pos (by omega)]
    simp only [Option.map_some, Option.bind_some, Int.toNat_natCast]
    rw [if_pos (by omega)]; simp
  exact w_q rfl ⟨a, xs.length, c, n, m, c, ex, fun (h0 : c ≠ n) => h3 (by omega), hc, rfl⟩ (k _ (hr'.cut (l := n) (h := m) (m := c) hnm (by omega) (Nat.le_refl c) hn))
end
section
variable {P : Program} {pan : List PanicEntry → Post} {Qn : Env → Post} {Ls L : List PHeap} {ρ : Env} {d : PHeap} {s : GS} {t : Nat}
/-- A literal is appended, and goes. -/
theorem w_appLO {sz by_ : Nat} {z : List Value} {x y : Operand} (i : Nat) {v : Value} {n m b : Nat} {T : TypeId} {xs cs : List Value} {h : PHeap} (ex : ev ρ x = v) (hi : L[i]? = some h) (ho : ORow sz v n xs h)
    (ey : ev ρ y = .slice (some ⟨b, 0, none⟩) m m) (hl : cs.length = m * sz) (h1 : (cs.all (·.oneCell')) = true) (hsz : 0 < sz) (hm : n + m ≤ 140737488355328) (hb : (n + m) * by_ ≤ 140737488355328)
    (k : ∀ v' h', ORow sz v' (n + m) (xs ++ cs) h' → gws P pan Qn s Ls (upd ρ t v') d (L.set i h')) : gws P pan Qn (.op false ⟨some t, none, .app sz by_ z x y⟩ s) Ls ρ d (bx b T cs :: L) := by
  have hrd : RdX d (Ls ++ (bx b T cs :: L) ++ (bx b T cs :: L)) (.slice (some ⟨b, 0, none⟩) m m) m sz cs :=
    RdX.lit (T := T) (Ls.length) (by rw [List.append_assoc, List.getElem?_append_right (Nat.le_refl _)]; simp) hl
  refine w_appV (i + 1) ex (by simpa using hi) ho ey hrd h1 hsz hm hb (fun v' h' o => ⟨d, L.set i h', ?_, k v' h' o⟩)
  rw [List.set_cons_succ]
  exact Vs.drop (List.sublist_cons_self _ _)
end
/-- Rows of blocks, in another order; some go. -/
theorem Vs.picks {d : PHeap} (Ls : List (List PHeap)) (is js : List Nat) (hp : (is ++ js).isPerm (List.range Ls.length) = true) : Vs d Ls.flatten d ((is.map fun i => Ls.getD i []).flatten) := by
  have hp : (is ++ js).Perm (List.range Ls.length) := List.isPerm_iff.1 hp
  have h1 := hp.symm.map fun i => Ls.getD i []
  have h0 : (List.range Ls.length).map (fun i => Ls.getD i []) = Ls := by
    apply List.ext_getElem
    · simp
    · intro i h1 h2
      simp [List.getD, h2]
  rw [h0, List.map_append] at h1
  have h2 := h1.flatten
  rw [List.flatten_append] at h2
  exact (Vs.perm h2).trans (Vs.drop (List.sublist_append_left _ _))
section
variable {P : Program} {Q : GPost} {ρ : Env} {d : PHeap} {L : List PHeap}
theorem w_drawnA {s : GS} (Ls L1 : List PHeap) (hL : L = Ls ++ L1) (h : gws P Q.pan Q.n s Ls ρ d L1) : gwp P (.reg true s) Q ρ d L := ⟨d, Ls, L1, by rw [hL]; exact Vs.refl d _, h⟩
/-- The end: the blocks told otherwise. -/
theorem finV {res : List GRes} {R : Ending → PHeap → List PHeap → Prop} (vs : List Value) {d' : PHeap} {L' : List PHeap} (hr : resAll ρ (HC d L) res vs) (hs : Vs d L d' L') (h : R (.returned (resV vs)) d' L') : retPost res R ρ d L :=
  ⟨vs, hr, d', L', hs, h⟩
end
/-! ### writing an element of a slice of its own -/
theorem patch_set {l : List Value} {m : Nat} {x : Value} (h : m < l.length) : patch l m [x] = l.set m x := by
  rw [List.set_eq_take_append_cons_drop, if_pos h]; simp [patch]
theorem ORow.open1 {n : Nat} {v : Value} {us : List Value} {h : PHeap} (o : ORow 1 v n us h) {m : Nat} (hm : m < n) :
    ∃ b T l c, v = .slice (some ⟨b, 0, none⟩) n c ∧ h = bx b T l ∧ m < l.length ∧ (∀ u, us[m]? = some u → l[m]? = some u) ∧ ∀ x, ORow 1 v n (us.set m x) (bx b T (patch l m [x])) := by
  obtain ⟨h1, h2, ⟨rfl, rfl, rfl⟩ | ⟨b, T, l, c, rfl, rfl, h3, h4, h5, h6⟩⟩ := o
  · omega
  · have hml : m < l.length := by omega
    refine ⟨b, T, l, c, rfl, rfl, hml, fun u hu => ?_, fun x => ?_⟩
    · rw [← h6] at hu
      rw [List.getElem?_take_of_lt (by omega)] at hu
      exact hu
    · rw [patch_set hml]
      refine ⟨by simpa using h1, h2, .inr ⟨b, T, l.set m x, c, rfl, rfl, h3, h4, by simpa using h5, ?_⟩⟩
      rw [List.length_set, List.take_set, h6]
theorem GRow.openB {d : PHeap} {v : Value} {xs : List UInt8} {h : PHeap} (o : GRow 1 RByte d v xs h) {m : Nat} (hm : m < xs.length) :
    ∃ b T l c, v = .slice (some ⟨b, 0, none⟩) xs.length c ∧ h = bx b T l ∧ m < l.length ∧ l[m]? = some (byteV xs[m]) ∧ ∀ y, GRow 1 RByte d v (xs.set m y) (bx b T (patch l m [byteV y])) := by
  obtain ⟨b, T, l, c, h1, h2, h3, h4, h5⟩ := o.bytes.open1 hm
  refine ⟨b, T, l, c, h1, h2, h3, h4 _ (by simp [hm]), fun y => ?_⟩
  have := h5 (byteV y)
  rw [← List.map_set] at this
  refine ⟨(xs.set m y).map byteV, by rw [List.length_set]; exact this, fun i hi => ?_⟩
  simp only [RByte, chunk, Nat.mul_one, ← List.map_drop, ← List.map_take]
  rw [List.drop_eq_getElem_cons hi]; rfl
theorem GRow.openI {d : PHeap} {v : Value} {xs : List Int} {h : PHeap} (o : GRow 1 RInt d v xs h) {m : Nat} (hm : m < xs.length) :
    ∃ b T l c, v = .slice (some ⟨b, 0, none⟩) xs.length c ∧ h = bx b T l ∧ m < l.length ∧ l[m]? = some (.int .i64 xs[m]) ∧ ∀ y : Int, -9223372036854775808 ≤ y → y ≤ 9223372036854775807 → GRow 1 RInt d v (xs.set m y) (bx b T (patch l m [.int .i64 y])) := by
  obtain ⟨cs, ho, hr⟩ := o
  obtain ⟨b, T, l, c, h1, h2, h3, h4, h5⟩ := ho.open1 hm
  have hl := ho.1
  refine ⟨b, T, l, c, h1, h2, h3, h4 _ ?_, fun y hy1 hy2 => ⟨cs.set m (.int .i64 y), by rw [List.length_set]; exact h5 _, fun i hi => ?_⟩⟩
  · obtain ⟨e, _⟩ := hr m hm
    have e2 := congrArg (·[0]?) e
    simp only [chunk, Nat.mul_one, List.getElem?_take_of_lt (show 0 < 1 by omega), List.getElem?_drop, Nat.add_zero, List.getElem?_cons_zero] at e2
    exact e2
  · have hi' : i < xs.length := by simpa using hi
    have hic : i < cs.length := by omega
    by_cases e : m = i
    · subst e
      simp only [List.getElem_set_self]
      refine ⟨?_, hy1, hy2⟩
      simp only [chunk, Nat.mul_one]
      rw [List.drop_eq_getElem_cons (by simpa using hic)]
      simp
    · simp only [List.getElem_set_ne e]
      have := hr i hi'
      have e2 : chunk (cs.set m (.int .i64 y)) i 1 = chunk cs i 1 := by
        simp only [chunk, Nat.mul_one]
        rw [List.drop_eq_getElem_cons (by simpa using hic), List.getElem_set_ne e]
        have h0 : cs.drop i = cs[i] :: cs.drop (i + 1) := List.drop_eq_getElem_cons hic
        rw [h0]; rfl
      rw [e2]; exact this
section
variable {P : Program} {pan : List PanicEntry → Post} {Qn : Env → Post} {Ls L : List PHeap} {ρ : Env} {d : PHeap} {s : GS} {t : Nat} {tk : Bool}
theorem w_addB {x y : Operand} {a : UInt8} {c : Int} (ex : ev ρ x = byteV a) (ey : ev ρ y = .int .u8 c) (h : gws P pan Qn s Ls (upd ρ t (byteV (UInt8.ofNat ((a.toNat + c) % 256).toNat))) d L) :
    gws P pan Qn (.op tk ⟨some t, none, .bin .add x y⟩ s) Ls ρ d L :=
  w_bin (by rw [ex, ey]; simp only [byteV, binV]; rw [if_neg (by simp)]; simp only [byteV_wrap]; rfl) h
theorem w_idx1 {x i : Operand} {b n c : Nat} {k : IntKind} {j : Int} (m : Nat) (ex : ev ρ x = .slice (some ⟨b, 0, none⟩) n c) (ei : ev ρ i = .int k j) (hm : j = (m : Int)) (hl : m < n)
    (h : gws P pan Qn s Ls (upd ρ t (.pointer (some ⟨b, m, none⟩))) d L) : gws P pan Qn (.op tk ⟨some t, none, .idx 1 x i⟩ s) Ls ρ d L :=
  w_idx (o := 0) m ex ei hm hl (SAd.some n b 0) (by rw [Nat.zero_add, Nat.mul_one]; exact h)
end
end Go.Gk
