/-
  Worlds as partial heaps: the assertion language of our contracts. 'd' is data that never changes and only grows; 'L' is a list of blocks that are owned and may be written; every contract holds under every further frame 'F'.
-/
import Derived.WalkKit
import Derived.OrdersHeld
namespace Go.Gk
open Go

/-- A part of a heap: some blocks, each with what it holds. -/
abbrev PHeap := Nat → Obj → Prop

def Sub (h : PHeap) (W : World) : Prop := ∀ b o, h b o → W.heap[b]? = some o
def Disj (h k : PHeap) : Prop := ∀ b o o', h b o → k b o' → False
def Le (h k : PHeap) : Prop := ∀ b o, h b o → k b o
def join (h k : PHeap) : PHeap := fun b o => h b o ∨ k b o
def emp : PHeap := fun _ _ => False
/-- One block. -/
def sg (b : Nat) (o : Obj) : PHeap := fun b' o' => b' = b ∧ o' = o
/-- One block of cells, none of them frozen. -/
def bx (b : Nat) (T : TypeId) (l : List Value) : PHeap := sg b (.cells l.toArray T (0, 0))

def Ok (hs : List PHeap) (W : World) : Prop := hs.Pairwise Disj ∧ ∀ h ∈ hs, Sub h W

structure Keep (W W' : World) : Prop where
  os : W'.os = W.os
  tape : W'.tape = W.tape
  output : W'.output = W.output
  size : W.heap.size ≤ W'.heap.size

theorem Keep.refl (W : World) : Keep W W := ⟨rfl, rfl, rfl, Nat.le_refl _⟩
theorem Keep.trans {a b c : World} (h : Keep a b) (k : Keep b c) : Keep a c :=
  ⟨k.os.trans h.os, k.tape.trans h.tape, k.output.trans h.output, Nat.le_trans h.size k.size⟩
theorem Keep.of_heap {W W' : World} (h1 : W'.os = W.os) (h2 : W'.tape = W.tape) (h3 : W'.output = W.output) (h4 : W.heap.size ≤ W'.heap.size) : Keep W W' := ⟨h1, h2, h3, h4⟩

theorem Le.refl (h : PHeap) : Le h h := fun _ _ e => e
theorem Le.trans {a b c : PHeap} (h : Le a b) (k : Le b c) : Le a c := fun b o e => k b o (h b o e)
theorem Sub.le {h k : PHeap} {W : World} (hs : Sub k W) (hl : Le h k) : Sub h W := fun b o e => hs b o (hl b o e)
theorem Disj.symm {h k : PHeap} (x : Disj h k) : Disj k h := fun b o o' e e' => x b o' o e' e
theorem Disj.le {h h' k : PHeap} (x : Disj h k) (hl : Le h' h) : Disj h' k := fun b o o' e e' => x b o o' (hl b o e) e'
theorem Le.join_left (h k : PHeap) : Le h (join h k) := fun b o e => .inl e
theorem Le.join_right (h k : PHeap) : Le k (join h k) := fun b o e => .inr e
theorem Sub.join {h k : PHeap} {W : World} (hs : Sub h W) (ks : Sub k W) : Sub (join h k) W := fun b o e => e.elim (hs b o) (ks b o)
theorem Disj.join {h k l : PHeap} (x : Disj h l) (y : Disj k l) : Disj (join h k) l := fun b o o' e e' => e.elim (fun e => x b o o' e e') (fun e => y b o o' e e')
theorem Sub.lt {h : PHeap} {W : World} (hs : Sub h W) {b : Nat} {o : Obj} (e : h b o) : b < W.heap.size := by
  have := hs b o e
  rcases Nat.lt_or_ge b W.heap.size with h' | h'
  · exact h'
  · rw [Array.getElem?_eq_none h'] at this; cases this
theorem sg_self (b : Nat) (o : Obj) : sg b o b o := ⟨rfl, rfl⟩
theorem sg_some {b b' : Nat} {o o' : Obj} (h : sg b o b' o') : b' = b ∧ o' = o := h

/-! ### Ok -/
theorem Ok.perm {hs hs' : List PHeap} {W : World} (h : Ok hs W) (p : hs.Perm hs') : Ok hs' W :=
  ⟨(p.pairwise_iff (fun x => Disj.symm x)).1 h.1, fun x hx => h.2 x (p.mem_iff.2 hx)⟩
theorem Ok.sub {hs hs' : List PHeap} {W : World} (h : Ok hs W) (s : hs'.Sublist hs) : Ok hs' W :=
  ⟨h.1.sublist s, fun x hx => h.2 x (s.subset hx)⟩
theorem Ok.head {h : PHeap} {hs : List PHeap} {W : World} (x : Ok (h :: hs) W) : Sub h W := x.2 h (List.mem_cons_self ..)
theorem Ok.tail {h : PHeap} {hs : List PHeap} {W : World} (x : Ok (h :: hs) W) : Ok hs W := x.sub (List.sublist_cons_self ..)
theorem Ok.cons_iff {h : PHeap} {hs : List PHeap} {W : World} : Ok (h :: hs) W ↔ Sub h W ∧ (∀ k ∈ hs, Disj h k) ∧ Ok hs W := by
  simp only [Ok, List.pairwise_cons, List.mem_cons, forall_eq_or_imp]
  constructor
  · rintro ⟨⟨a, b⟩, c, d⟩; exact ⟨c, a, b, d⟩
  · rintro ⟨c, a, b, d⟩; exact ⟨⟨a, b⟩, c, d⟩
/-- Owned blocks become data. -/
theorem Ok.freeze {d h : PHeap} {hs : List PHeap} {W : World} (x : Ok (d :: h :: hs) W) : Ok (join d h :: hs) W := by
  rw [Ok.cons_iff, Ok.cons_iff] at x
  obtain ⟨sd, dd, sh, dh, ok⟩ := x
  rw [Ok.cons_iff]
  exact ⟨sd.join sh, fun k hk => (dd k (List.mem_cons_of_mem _ hk)).join (dh k hk), ok⟩
/-- The first part may be split. -/
theorem Ok.split {h k : PHeap} {hs : List PHeap} {W : World} (x : Ok (join h k :: hs) W) (hd : Disj h k) : Ok (h :: k :: hs) W := by
  rw [Ok.cons_iff] at x
  obtain ⟨s, dd, ok⟩ := x
  rw [Ok.cons_iff, Ok.cons_iff]
  refine ⟨s.le (Le.join_left h k), ?_, s.le (Le.join_right h k), fun l hl => (dd l hl).le (Le.join_right h k), ok⟩
  intro l hl
  rcases List.mem_cons.1 hl with rfl | hl
  · exact hd
  · exact (dd l hl).le (Le.join_left _ _)
theorem Ok.emp {hs : List PHeap} {W : World} (x : Ok hs W) : Ok (emp :: hs) W := by
  rw [Ok.cons_iff]; exact ⟨fun b o e => e.elim, fun k _ b _ _ e => e.elim, x⟩
/-- A world with the same heap. -/
theorem Ok.same {hs : List PHeap} {W W' : World} (x : Ok hs W) (e : W'.heap = W.heap) : Ok hs W' :=
  ⟨x.1, fun h hh b o eo => by rw [e]; exact x.2 h hh b o eo⟩
theorem Ok.drew {hs : List PHeap} {W : World} (x : Ok hs W) : Ok hs { W with drawn := W.drawn + 1 } := x.same rfl
/-- A new block. -/
theorem Ok.alloc {hs : List PHeap} {W : World} (x : Ok hs W) (o : Obj) : Ok (sg W.heap.size o :: hs) (W.alloc o) := by
  rw [Ok.cons_iff]
  refine ⟨fun b o' e => ?_, fun k hk b o1 o2 e1 e2 => ?_, x.1, fun h hh b o' e => ?_⟩
  · obtain ⟨rfl, rfl⟩ := sg_some e
    show (W.heap.push o')[W.heap.size]? = some o'
    simp
  · obtain ⟨rfl, rfl⟩ := sg_some e1
    exact absurd ((x.2 k hk).lt e2) (Nat.lt_irrefl _)
  · have := (x.2 h hh).lt e
    have h1 := x.2 h hh b o' e
    show (W.heap.push o)[b]? = _
    rw [Array.getElem?_push, if_neg (by omega)]; exact h1
/-- One owned block is written. -/
theorem Ok.write {hs : List PHeap} {W : World} {b : Nat} {o o' : Obj} (x : Ok (sg b o :: hs) W) (W' : World) (e : W'.heap = W.heap.setIfInBounds b o') : Ok (sg b o' :: hs) W' := by
  rw [Ok.cons_iff] at x ⊢
  obtain ⟨s, dd, ok⟩ := x
  have hlt := s.lt (sg_self b o)
  refine ⟨fun b1 o1 e1 => ?_, fun k hk b1 o1 o2 e1 e2 => ?_, ok.1, fun h hh b1 o1 e1 => ?_⟩
  · obtain ⟨rfl, rfl⟩ := sg_some e1
    rw [e, Array.getElem?_setIfInBounds, if_pos rfl, if_pos hlt]
  · obtain ⟨rfl, rfl⟩ := sg_some e1
    exact dd k hk b1 o o2 (sg_self b1 o) e2
  · have hne : b1 ≠ b := by
      rintro rfl
      exact dd h hh b1 o o1 (sg_self _ _) e1
    rw [e, Array.getElem?_setIfInBounds, if_neg (Ne.symm hne)]
    exact ok.2 h hh b1 o1 e1

/-! ### A view shift: the same world, told otherwise -/
def Vs (d : PHeap) (L : List PHeap) (d' : PHeap) (L' : List PHeap) : Prop :=
  Le d d' ∧ ∀ F W, Ok (d :: (L ++ F)) W → Ok (d' :: (L' ++ F)) W
theorem Vs.refl (d : PHeap) (L : List PHeap) : Vs d L d L := ⟨Le.refl d, fun _ _ h => h⟩
theorem Vs.trans {d d' d'' : PHeap} {L L' L'' : List PHeap} (h : Vs d L d' L') (k : Vs d' L' d'' L'') : Vs d L d'' L'' :=
  ⟨h.1.trans k.1, fun F W x => k.2 F W (h.2 F W x)⟩
theorem Vs.perm {d : PHeap} {L L' : List PHeap} (p : L.Perm L') : Vs d L d L' :=
  ⟨Le.refl d, fun F W x => x.perm ((p.append_right F).cons d)⟩
theorem Vs.drop {d : PHeap} {L L' : List PHeap} (s : L'.Sublist L) : Vs d L d L' :=
  ⟨Le.refl d, fun F W x => x.sub ((s.append_right F).cons_cons d)⟩
theorem Vs.freeze {d h : PHeap} {L : List PHeap} : Vs d (h :: L) (join d h) L :=
  ⟨Le.join_left d h, fun _ _ x => x.freeze⟩
theorem Vs.split {d h k : PHeap} {L : List PHeap} (hd : Disj h k) : Vs d (join h k :: L) d (h :: k :: L) :=
  ⟨Le.refl d, fun F W x => by
    have y : Ok (join h k :: d :: (L ++ F)) W := x.perm (List.Perm.swap _ _ _)
    have z := y.split hd
    exact z.perm ((List.Perm.cons h (List.Perm.swap d k _)).trans (List.Perm.swap d h _))⟩
theorem Vs.join {d h k : PHeap} {L : List PHeap} : Vs d (h :: k :: L) d (join h k :: L) :=
  ⟨Le.refl d, fun F W x => by
    have y : Ok (h :: k :: d :: (L ++ F)) W := x.perm ((List.Perm.swap h d _).trans (List.Perm.cons h (List.Perm.swap k d _)))
    exact (y.freeze).perm (List.Perm.swap _ _ _)⟩
theorem Vs.emp {d : PHeap} {L : List PHeap} : Vs d L d (emp :: L) :=
  ⟨Le.refl d, fun F W x => (x.emp).perm (List.Perm.swap _ _ _)⟩
/-- The blocks of 'L', in the order of the numbers. -/
def pick (L : List PHeap) (is : List Nat) : List PHeap := is.map fun i => L.getD i emp
theorem pick_range (L : List PHeap) : pick L (List.range L.length) = L := by
  apply List.ext_getElem
  · simp [pick]
  · intro i h1 h2
    simp [pick, List.getD, h2]
theorem Vs.pick {d : PHeap} {L : List PHeap} (is : List Nat) (h : is.isPerm (List.range L.length) = true) : Vs d L d (pick L is) := by
  have hp : is.Perm (List.range L.length) := List.isPerm_iff.1 h
  have := hp.symm.map fun i => L.getD i Gk.emp
  have h2 : (Gk.pick L (List.range L.length)).Perm (Gk.pick L is) := this
  rw [pick_range] at h2
  exact Vs.perm h2

/-! ### The contract -/
def Callable (P : Program) (f : FuncId) : Prop := ∃ fn, P.funcs[f]? = some fn ∧ fn.body.isSome = true ∧ (fn.name == "runtime.NumGoroutine") = false

/-- Called in whatever world that has the data 'd', the blocks 'L' and a frame, 'f' ends so that R holds of its ending, the data and the blocks; the frame is as it was. -/
def GCall (P : Program) (f : FuncId) (args : List Value) (d : PHeap) (L : List PHeap) (R : Ending → PHeap → List PHeap → Prop) : Prop :=
  Callable P f ∧ ∀ F W, Ok (d :: (L ++ F)) W → Calls P f args.toArray W fun e W' => ∃ d' L', Ok (d' :: (L' ++ F)) W' ∧ Le d d' ∧ Keep W W' ∧ R e d' L'

/-- It returns. -/
def Ret (R : Value → PHeap → List PHeap → Prop) : Ending → PHeap → List PHeap → Prop
  | .returned v, d, L => R v d L
  | _, _, _ => False

theorem GCall.mono {P : Program} {f : FuncId} {args : List Value} {d : PHeap} {L : List PHeap} {R R' : Ending → PHeap → List PHeap → Prop}
    (h : GCall P f args d L R) (hr : ∀ e d' L', Le d d' → R e d' L' → R' e d' L') : GCall P f args d L R' :=
  ⟨h.1, fun F W x => (h.2 F W x).mono fun e W' ⟨d', L', a, b, c, r⟩ => ⟨d', L', a, b, c, hr _ _ _ b r⟩⟩
/-- More blocks. -/
theorem GCall.frame {P : Program} {f : FuncId} {args : List Value} {d : PHeap} {L : List PHeap} {R : Ending → PHeap → List PHeap → Prop}
    (h : GCall P f args d L R) (M : List PHeap) : GCall P f args d (L ++ M) (fun e d' L' => ∃ L1, L' = L1 ++ M ∧ R e d' L1) :=
  ⟨h.1, fun F W x => (h.2 (M ++ F) W (by rwa [List.append_assoc] at x)).mono fun e W' ⟨d', L', a, b, c, r⟩ =>
    ⟨d', L' ++ M, by rw [List.append_assoc]; exact a, b, c, L', rfl, r⟩⟩
theorem GCall.vs {P : Program} {f : FuncId} {args : List Value} {d d1 : PHeap} {L L1 : List PHeap} {R : Ending → PHeap → List PHeap → Prop}
    (v : Vs d L d1 L1) (h : GCall P f args d1 L1 R) : GCall P f args d L R :=
  ⟨h.1, fun F W x => (h.2 F W (v.2 F W x)).mono fun _ _ ⟨d', L', a, b, c, r⟩ => ⟨d', L', a, v.1.trans b, c, r⟩⟩

end Go.Gk
