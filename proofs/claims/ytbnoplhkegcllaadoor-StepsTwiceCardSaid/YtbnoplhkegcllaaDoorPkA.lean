/-
  Our own texts, one behind the other: Gk1 Gk2 Gk3 Gk4 Gk5 Gk6 Gk7 Gk8.
-/
import Derived.WalkKit
import Derived.OrdersHeld
import Derived.Lib.Strings
import Derived.Lib.Bytealg
import Derived.Deep.LoopGhost
section
/-
  Worlds as partial heaps: the assertion language of our contracts. 'd' is data that never changes and only grows; 'L' is a list of blocks that are owned and may be written; every contract holds under every further frame 'F'.
-/
namespace Go.Gk
open Go

/-- A part of a heap: some blocks, each with what it holds. -/
abbrev PHeap := Nat → Obj → Prop

def Sub (h : PHeap) (W : World) : Prop := ∀ b o, h b o → W.heap[b]? = some o
def Disj (h k : PHeap) : Prop := ∀ b o o', h b o → k b o' → False
def Le (h k : PHeap) : Prop := ∀ b o, h b o → k b o
def join (h k : PHeap) : PHeap := fun b o => h b o ∨ k b o
def emp : PHeap := fun _ _ => False
/-- One block. -/
def sg (b : Nat) (o : Obj) : PHeap := fun b' o' => b' = b ∧ o' = o
/-- One block of cells, none of them frozen. -/
def bx (b : Nat) (T : TypeId) (l : List Value) : PHeap := sg b (.cells l.toArray T (0, 0))

def Ok (hs : List PHeap) (W : World) : Prop := hs.Pairwise Disj ∧ ∀ h ∈ hs, Sub h W

structure Keep (W W' : World) : Prop where
  os : W'.os = W.os
  tape : W'.tape = W.tape
  output : W'.output = W.output
  size : W.heap.size ≤ W'.heap.size

theorem Keep.refl (W : World) : Keep W W := ⟨rfl, rfl, rfl, Nat.le_refl _⟩
theorem Keep.trans {a b c : World} (h : Keep a b) (k : Keep b c) : Keep a c :=
  ⟨k.os.trans h.os, k.tape.trans h.tape, k.output.trans h.output, Nat.le_trans h.size k.size⟩
theorem Keep.of_heap {W W' : World} (h1 : W'.os = W.os) (h2 : W'.tape = W.tape) (h3 : W'.output = W.output) (h4 : W.heap.size ≤ W'.heap.size) : Keep W W' := ⟨h1, h2, h3, h4⟩

theorem Le.refl (h : PHeap) : Le h h := fun _ _ e => e
theorem Le.trans {a b c : PHeap} (h : Le a b) (k : Le b c) : Le a c := fun b o e => k b o (h b o e)
theorem Sub.le {h k : PHeap} {W : World} (hs : Sub k W) (hl : Le h k) : Sub h W := fun b o e => hs b o (hl b o e)
theorem Disj.symm {h k : PHeap} (x : Disj h k) : Disj k h := fun b o o' e e' => x b o' o e' e
theorem Disj.le {h h' k : PHeap} (x : Disj h k) (hl : Le h' h) : Disj h' k := fun b o o' e e' => x b o o' (hl b o e) e'
theorem Le.join_left (h k : PHeap) : Le h (join h k) := fun _ _ e => .inl e
theorem Le.join_right (h k : PHeap) : Le k (join h k) := fun _ _ e => .inr e
theorem Sub.join {h k : PHeap} {W : World} (hs : Sub h W) (ks : Sub k W) : Sub (join h k) W := fun b o e => e.elim (hs b o) (ks b o)
theorem Disj.join {h k l : PHeap} (x : Disj h l) (y : Disj k l) : Disj (join h k) l := fun b o o' e e' => e.elim (fun e => x b o o' e e') (fun e => y b o o' e e')
theorem Sub.lt {h : PHeap} {W : World} (hs : Sub h W) {b : Nat} {o : Obj} (e : h b o) : b < W.heap.size := by
  have := hs b o e
  rcases Nat.lt_or_ge b W.heap.size with h' | h'
  · exact h'
  · rw [Array.getElem?_eq_none h'] at this; cases this
theorem sg_self (b : Nat) (o : Obj) : sg b o b o := ⟨rfl, rfl⟩
theorem sg_some {b b' : Nat} {o o' : Obj} (h : sg b o b' o') : b' = b ∧ o' = o := h

/-! ### Ok -/
theorem Ok.perm {hs hs' : List PHeap} {W : World} (h : Ok hs W) (p : hs.Perm hs') : Ok hs' W :=
  ⟨(p.pairwise_iff (fun x => Disj.symm x)).1 h.1, fun x hx => h.2 x (p.mem_iff.2 hx)⟩
theorem Ok.sub {hs hs' : List PHeap} {W : World} (h : Ok hs W) (s : hs'.Sublist hs) : Ok hs' W :=
  ⟨h.1.sublist s, fun x hx => h.2 x (s.subset hx)⟩
theorem Ok.head {h : PHeap} {hs : List PHeap} {W : World} (x : Ok (h :: hs) W) : Sub h W := x.2 h (List.mem_cons_self ..)
theorem Ok.tail {h : PHeap} {hs : List PHeap} {W : World} (x : Ok (h :: hs) W) : Ok hs W := x.sub (List.sublist_cons_self ..)
theorem Ok.cons_iff {h : PHeap} {hs : List PHeap} {W : World} : Ok (h :: hs) W ↔ Sub h W ∧ (∀ k ∈ hs, Disj h k) ∧ Ok hs W := by
  simp only [Ok, List.pairwise_cons, List.mem_cons, forall_eq_or_imp]
  constructor
  · rintro ⟨⟨a, b⟩, c, d⟩; exact ⟨c, a, b, d⟩
  · rintro ⟨c, a, b, d⟩; exact ⟨⟨a, b⟩, c, d⟩
/-- Owned blocks become data. -/
theorem Ok.freeze {d h : PHeap} {hs : List PHeap} {W : World} (x : Ok (d :: h :: hs) W) : Ok (join d h :: hs) W := by
  rw [Ok.cons_iff, Ok.cons_iff] at x
  obtain ⟨sd, dd, sh, dh, ok⟩ := x
  rw [Ok.cons_iff]
  exact ⟨sd.join sh, fun k hk => (dd k (List.mem_cons_of_mem _ hk)).join (dh k hk), ok⟩
/-- The first part may be split. -/
theorem Ok.split {h k : PHeap} {hs : List PHeap} {W : World} (x : Ok (join h k :: hs) W) (hd : Disj h k) : Ok (h :: k :: hs) W := by
  rw [Ok.cons_iff] at x
  obtain ⟨s, dd, ok⟩ := x
  rw [Ok.cons_iff, Ok.cons_iff]
  refine ⟨s.le (Le.join_left h k), ?_, s.le (Le.join_right h k), fun l hl => (dd l hl).le (Le.join_right h k), ok⟩
  intro l hl
  rcases List.mem_cons.1 hl with rfl | hl
  · exact hd
  · exact (dd l hl).le (Le.join_left _ _)
theorem Ok.emp {hs : List PHeap} {W : World} (x : Ok hs W) : Ok (emp :: hs) W := by
  rw [Ok.cons_iff]; exact ⟨fun b o e => e.elim, fun k _ b _ _ e => e.elim, x⟩
/-- A world with the same heap. -/
theorem Ok.same {hs : List PHeap} {W W' : World} (x : Ok hs W) (e : W'.heap = W.heap) : Ok hs W' :=
  ⟨x.1, fun h hh b o eo => by rw [e]; exact x.2 h hh b o eo⟩
theorem Ok.drew {hs : List PHeap} {W : World} (x : Ok hs W) : Ok hs { W with drawn := W.drawn + 1 } := x.same rfl
/-- A new block. -/
theorem Ok.alloc {hs : List PHeap} {W : World} (x : Ok hs W) (o : Obj) : Ok (sg W.heap.size o :: hs) (W.alloc o) := by
  rw [Ok.cons_iff]
  refine ⟨fun b o' e => ?_, fun k hk b o1 o2 e1 e2 => ?_, x.1, fun h hh b o' e => ?_⟩
  · obtain ⟨rfl, rfl⟩ := sg_some e
    show (W.heap.push o')[W.heap.size]? = some o'
    simp
  · obtain ⟨rfl, rfl⟩ := sg_some e1
    exact absurd ((x.2 k hk).lt e2) (Nat.lt_irrefl _)
  · have := (x.2 h hh).lt e
    have h1 := x.2 h hh b o' e
    show (W.heap.push o)[b]? = _
    rw [Array.getElem?_push, if_neg (by omega)]; exact h1
/-- One owned block is written. -/
theorem Ok.write {hs : List PHeap} {W : World} {b : Nat} {o o' : Obj} (x : Ok (sg b o :: hs) W) (W' : World) (e : W'.heap = W.heap.setIfInBounds b o') : Ok (sg b o' :: hs) W' := by
  rw [Ok.cons_iff] at x ⊢
  obtain ⟨s, dd, ok⟩ := x
  have hlt := s.lt (sg_self b o)
  refine ⟨fun b1 o1 e1 => ?_, fun k hk b1 o1 o2 e1 e2 => ?_, ok.1, fun h hh b1 o1 e1 => ?_⟩
  · obtain ⟨rfl, rfl⟩ := sg_some e1
    rw [e, Array.getElem?_setIfInBounds, if_pos rfl, if_pos hlt]
  · obtain ⟨rfl, rfl⟩ := sg_some e1
    exact dd k hk b1 o o2 (sg_self b1 o) e2
  · have hne : b1 ≠ b := by
      rintro rfl
      exact dd h hh b1 o o1 (sg_self _ _) e1
    rw [e, Array.getElem?_setIfInBounds, if_neg (Ne.symm hne)]
    exact ok.2 h hh b1 o1 e1

/-! ### A view shift: the same world, told otherwise -/
def Vs (d : PHeap) (L : List PHeap) (d' : PHeap) (L' : List PHeap) : Prop :=
  Le d d' ∧ ∀ F W, Ok (d :: (L ++ F)) W → Ok (d' :: (L' ++ F)) W
theorem Vs.refl (d : PHeap) (L : List PHeap) : Vs d L d L := ⟨Le.refl d, fun _ _ h => h⟩
theorem Vs.trans {d d' d'' : PHeap} {L L' L'' : List PHeap} (h : Vs d L d' L') (k : Vs d' L' d'' L'') : Vs d L d'' L'' :=
  ⟨h.1.trans k.1, fun F W x => k.2 F W (h.2 F W x)⟩
theorem Vs.perm {d : PHeap} {L L' : List PHeap} (p : L.Perm L') : Vs d L d L' :=
  ⟨Le.refl d, fun F _ x => x.perm ((p.append_right F).cons d)⟩
theorem Vs.drop {d : PHeap} {L L' : List PHeap} (s : L'.Sublist L) : Vs d L d L' :=
  ⟨Le.refl d, fun F _ x => x.sub ((s.append_right F).cons_cons d)⟩
theorem Vs.freeze {d h : PHeap} {L : List PHeap} : Vs d (h :: L) (join d h) L :=
  ⟨Le.join_left d h, fun _ _ x => x.freeze⟩
theorem Vs.split {d h k : PHeap} {L : List PHeap} (hd : Disj h k) : Vs d (join h k :: L) d (h :: k :: L) :=
  ⟨Le.refl d, fun F W x => by
    have y : Ok (join h k :: d :: (L ++ F)) W := x.perm (List.Perm.swap _ _ _)
    have z := y.split hd
    exact z.perm ((List.Perm.cons h (List.Perm.swap d k _)).trans (List.Perm.swap d h _))⟩
theorem Vs.join {d h k : PHeap} {L : List PHeap} : Vs d (h :: k :: L) d (join h k :: L) :=
  ⟨Le.refl d, fun F W x => by
    have y : Ok (h :: k :: d :: (L ++ F)) W := x.perm ((List.Perm.swap h d _).trans (List.Perm.cons h (List.Perm.swap k d _)))
    exact (y.freeze).perm (List.Perm.swap _ _ _)⟩
theorem Vs.emp {d : PHeap} {L : List PHeap} : Vs d L d (emp :: L) :=
  ⟨Le.refl d, fun _ _ x => (x.emp).perm (List.Perm.swap _ _ _)⟩
/-- The blocks of 'L', in the order of the numbers. -/
def pick (L : List PHeap) (is : List Nat) : List PHeap := is.map fun i => L.getD i emp
theorem pick_range (L : List PHeap) : pick L (List.range L.length) = L := by
  apply List.ext_getElem
  · simp [pick]
  · intro i h1 h2
    simp [pick, List.getD, h2]
theorem Vs.pick {d : PHeap} {L : List PHeap} (is : List Nat) (h : is.isPerm (List.range L.length) = true) : Vs d L d (pick L is) := by
  have hp : is.Perm (List.range L.length) := List.isPerm_iff.1 h
  have := hp.symm.map fun i => L.getD i Gk.emp
  have h2 : (Gk.pick L (List.range L.length)).Perm (Gk.pick L is) := this
  rw [pick_range] at h2
  exact Vs.perm h2

/-! ### The contract -/
def Callable (P : Program) (f : FuncId) : Prop := ∃ fn, P.funcs[f]? = some fn ∧ fn.body.isSome = true ∧ (fn.name == "runtime.NumGoroutine") = false

/-- Called in whatever world that has the data 'd', the blocks 'L' and a frame, 'f' ends so that R holds of its ending, the data and the blocks; the frame is as it was. -/
def GCall (P : Program) (f : FuncId) (args : List Value) (d : PHeap) (L : List PHeap) (R : Ending → PHeap → List PHeap → Prop) : Prop :=
  Callable P f ∧ ∀ F W, Ok (d :: (L ++ F)) W → Calls P f args.toArray W fun e W' => ∃ d' L', Ok (d' :: (L' ++ F)) W' ∧ Le d d' ∧ Keep W W' ∧ R e d' L'

/-- It returns. -/
def Ret (R : Value → PHeap → List PHeap → Prop) : Ending → PHeap → List PHeap → Prop
  | .returned v, d, L => R v d L
  | _, _, _ => False

theorem GCall.mono {P : Program} {f : FuncId} {args : List Value} {d : PHeap} {L : List PHeap} {R R' : Ending → PHeap → List PHeap → Prop}
    (h : GCall P f args d L R) (hr : ∀ e d' L', Le d d' → R e d' L' → R' e d' L') : GCall P f args d L R' :=
  ⟨h.1, fun F W x => (h.2 F W x).mono fun _ _ ⟨d', L', a, b, c, r⟩ => ⟨d', L', a, b, c, hr _ _ _ b r⟩⟩
/-- More blocks. -/
theorem GCall.frame {P : Program} {f : FuncId} {args : List Value} {d : PHeap} {L : List PHeap} {R : Ending → PHeap → List PHeap → Prop}
    (h : GCall P f args d L R) (M : List PHeap) : GCall P f args d (L ++ M) (fun e d' L' => ∃ L1, L' = L1 ++ M ∧ R e d' L1) :=
  ⟨h.1, fun F W x => (h.2 (M ++ F) W (by rwa [List.append_assoc] at x)).mono fun e W' ⟨d', L', a, b, c, r⟩ =>
    ⟨d', L' ++ M, by rw [List.append_assoc]; exact a, b, c, L', rfl, r⟩⟩
theorem GCall.vs {P : Program} {f : FuncId} {args : List Value} {d d1 : PHeap} {L L1 : List PHeap} {R : Ending → PHeap → List PHeap → Prop}
    (v : Vs d L d1 L1) (h : GCall P f args d1 L1 R) : GCall P f args d L R :=
  ⟨h.1, fun F W x => (h.2 F W (v.2 F W x)).mono fun _ _ ⟨d', L', a, b, c, r⟩ => ⟨d', L', a, v.1.trans b, c, r⟩⟩

end Go.Gk
end

section
/-
  Instructions whose types are resolved; what they do to data and owned blocks; the predicate transformer over structured code; the function 'dec' that turns a program's code into them.
-/
namespace Go.Gk
open Go

abbrev Env := Nat → Value

def ev (ρ : Env) : Operand → Value
  | .tmp t => ρ t
  | .const v => v
  | .global g => .pointer (some ⟨g, 0, none⟩)
  | .func f => .func (.func f) #[] #[]

def upd (ρ : Env) (d : Nat) (v : Value) : Env := fun i => bif Nat.beq i d then v else ρ i
def put (ρ : Env) (d : Option Nat) (v : Value) : Env := match d with | some d => upd ρ d v | none => ρ

inductive GI where
  | mv (x : Operand)
  | pick (c a b : Operand)
  | fld (off : Nat) (x : Operand)
  | ld (n : Option Nat) (x : Operand)
  | bin (op : BinOp) (x y : Operand)
  | eqb (neg : Bool) (x y : Operand)
  | eqp (neg : Bool) (x y : Operand)
  | eqs (neg : Bool) (x y : Operand)
  | un (op : UnOp) (x : Operand)
  | cvi (k : IntKind) (x : Operand)
  | b2s (x : Operand)
  | s2s (x : Operand)
  | idx (sz : Nat) (x i : Operand)
  | idxa (len sz : Nat) (x i : Operand)
  | sidx (x i : Operand)
  | sl (sz : Nat) (x : Operand) (lo hi mx : Option Operand)
  | sls (x : Operand) (lo hi : Option Operand)
  | sla (len sz : Nat) (x : Operand) (lo hi mx : Option Operand)
  | len (x : Operand)
  | lens (x : Operand)
  | cap (x : Operand)
  | mx2 (x y : Operand)
  | mn2 (x y : Operand)
  | ext (x : Operand) (i : Nat)
  | bld (places : List (Nat × Nat)) (zero : List Value) (parts : List (Nat × Operand))
  | gf (n : Option Nat) (off : Nat) (x : Operand)
  | mkf (fn : Fn) (first captured : List Operand)
  | mki (t : TypeId) (x : Operand)
  | nilc (x : Operand)
  | bcmp (x y : Operand)
  | box (x : Operand)
  | alo (zero : Value)
  | st (n : Nat) (addr val : Operand)
  | bsl (len sz : Nat) (zero : List Value) (parts : List (Nat × Operand))
  | mks (sz bytes : Nat) (zero : List Value) (len cap : Operand)
  | app (sz bytes : Nat) (zero : List Value) (s x : Operand)
  | call (f : FuncId) (args : List Operand)
  | callv (f : Operand) (args : List Operand)
  | pan (x : Operand)
  | eqc (neg : Bool) (offs : List (Nat × Nat)) (x y : Operand)
  | r2s (x : Operand)
  | s2r (x : Operand)

/-- It only looks: it leaves a value, and the world as it is. -/
def GI.quiet : GI → Bool
  | .box .. | .alo .. | .st .. | .bsl .. | .mks .. | .app .. | .call .. | .callv .. | .pan .. | .s2r .. => false
  | _ => true

structure GOp where
  dst : Option Nat
  guard : Option (Nat × Bool)
  i : GI

inductive GS where
  | done
  | op (take : Bool) (g : GOp) (s : GS)
  | alt (g : GOp) (s t : GS)
  | bar (s : GS)

inductive GCode where
  | skip
  | reg (drawn : Bool) (s : GS)
  | seq (a b : GCode)
  | cond (c : Operand) (a b : GCode)
  | block (id : Nat) (a : GCode)
  | loop (a : GCode)
  | exit (id : Nat)
  | ret
  | bad

inductive GRes where
  | tmp (t : Nat)
  | cell (t : Nat) (n : Option Nat)

structure GFun where
  n : Nat
  res : List GRes
  code : GCode

/-! ### What an instruction that only looks yields -/

def binV (op : BinOp) (x y : Value) : Option Value :=
  match op, x, y with
  | .shl, .int k a, .int _ b => if b < 0 then none else some (.int k (k.wrap (a * 2 ^ (min b.toNat k.bits))))
  | .shr, .int k a, .int _ b => if b < 0 then none else some (.int k (a.fdiv (2 ^ (min b.toNat k.bits))))
  | op, .int k a, .int k' b =>
    if k ≠ k' then none else
    match op with
    | .add => some (.int k (k.wrap (a + b)))
    | .sub => some (.int k (k.wrap (a - b)))
    | .mul => some (.int k (k.wrap (a * b)))
    | .quo => if b = 0 then none else some (.int k (k.wrap (a.tdiv b)))
    | .rem => if b = 0 then none else some (.int k (a.tmod b))
    | .and => some (.int k (k.wrap (BitVec.ofInt k.bits a &&& BitVec.ofInt k.bits b).toNat))
    | .or => some (.int k (k.wrap (BitVec.ofInt k.bits a ||| BitVec.ofInt k.bits b).toNat))
    | .xor => some (.int k (k.wrap (BitVec.ofInt k.bits a ^^^ BitVec.ofInt k.bits b).toNat))
    | .andNot => some (.int k (k.wrap (BitVec.ofInt k.bits a &&& ~~~BitVec.ofInt k.bits b).toNat))
    | .eql => some (.bool (a == b))
    | .neq => some (.bool (a != b))
    | .lss => some (.bool (decide (a < b)))
    | .leq => some (.bool (decide (a ≤ b)))
    | .gtr => some (.bool (decide (b < a)))
    | .geq => some (.bool (decide (b ≤ a)))
    | _ => none
  | op, .string a, .string b =>
    match op with
    | .add => if ((a.size + b.size : Nat) : Int) > IntKind.i64.max then none else some (.string (a ++ b))
    | .eql => some (.bool (a.toList == b.toList))
    | .neq => some (.bool (!(a.toList == b.toList)))
    | .lss => some (.bool (Op.bytesLess a.toList b.toList))
    | .leq => some (.bool (Op.bytesLess a.toList b.toList || a.toList == b.toList))
    | .gtr => some (.bool (!(Op.bytesLess a.toList b.toList || a.toList == b.toList)))
    | .geq => some (.bool (!Op.bytesLess a.toList b.toList))
    | _ => none
  | _, _, _ => none

/-- Cells of one kind (0: numbers, 1: strings, 2: bools): are they alike? -/
def eq1 : Nat → Value → Value → Option Bool
  | 0, .int k a, .int k' b => if k = k' then some (a == b) else none
  | 1, .string a, .string b => some (a == b)
  | 2, .bool a, .bool b => some (a == b)
  | _, _, _ => none
def eqCs (xs ys : Array Value) : List (Nat × Nat) → Option Bool
  | [] => some true
  | (k, o) :: l => match xs[o]?, ys[o]? with
    | some x, some y => (eq1 k x y).bind fun r => if r then eqCs xs ys l else some false
    | _, _ => none
/-- The characters of a text, and of numbers. -/
def runesL (l : List UInt8) : List Value := (Conv.runesFrom ⟨l.toArray⟩ l.length 0 #[]).toList
def encL (r : Int) : List UInt8 := (Utf8.encode r).data.toList

def unV (op : UnOp) (x : Value) : Option Value :=
  match op, x with
  | .neg, .int k n => some (.int k (k.wrap (0 - n)))
  | .xor, .int k n => some (.int k (k.wrap (BitVec.ofInt k.bits (if k.signed then -1 else k.max) ^^^ BitVec.ofInt k.bits n).toNat))
  | .not, .bool b => some (.bool (!b))
  | _, _ => none

/-- A slice expression's three numbers. -/
def bnd (x : Value) (y : Nat) : Option Nat := match x with | .int _ i => if 0 ≤ i ∧ i ≤ (y : Int) then some i.toNat else none | _ => none
def cutM (cap : Nat) (mx : Option Value) : Option Nat := match mx with | some v => bnd v cap | none => some cap
def cutH (len m : Nat) (full : Bool) (hi : Option Value) : Option Nat := match hi with | some v => bnd v m | none => if full then none else some len
def cutL (h : Nat) (lo : Option Value) : Option Nat := match lo with | some v => bnd v h | none => some 0
def cutV (len cap : Nat) (lo hi mx : Option Value) : Option (Nat × Nat × Nat) :=
  (cutM cap mx).bind fun m => (cutH len m mx.isSome hi).bind fun h => (cutL h lo).map fun l => (l, h, m)

def zrow (zero : List Value) (n : Nat) : List Value := (List.range n).map fun i => zero.getD (i % zero.length) undef
/-- 'l' with 'vs' from place 'o' on. -/
def patch (l : List Value) (o : Nat) (vs : List Value) : List Value := l.take o ++ vs ++ l.drop (o + vs.length)

def strV (l : List UInt8) : Value := .string ⟨l.toArray⟩
def byteV (b : UInt8) : Value := .int .u8 b.toNat

/-- A cell, in data or in one of the blocks. -/
def HC (d : PHeap) (L : List PHeap) (a : Addr) (v : Value) : Prop :=
  a.spot = none ∧ ∃ h, (h = d ∨ h ∈ L) ∧ ∃ c T fr, h a.block (.cells c T fr) ∧ c[a.off]? = some v

/-- A string or a slice of bytes that reads as 'l'. -/
def bytesAt (C : Addr → Value → Prop) (v : Value) (l : List UInt8) : Prop :=
  v = strV l ∨ ∃ a c, v = .slice a l.length c ∧ (a = none → l = []) ∧ ∀ a', a = some a' → ∀ i u, l[i]? = some u → C (a'.add i) (byteV u)

def evq (ρ : Env) (C : Addr → Value → Prop) : GI → Value → Prop
  | .mv x, v => v = ev ρ x
  | .pick c a b, v => ∃ t, ev ρ c = .bool t ∧ v = if t then ev ρ a else ev ρ b
  | .fld off x, v => ∃ b o, ev ρ x = .pointer (some ⟨b, o, none⟩) ∧ v = .pointer (some ⟨b, o + off, none⟩)
  | .ld none x, v => ∃ b o, ev ρ x = .pointer (some ⟨b, o, none⟩) ∧ C ⟨b, o, none⟩ v
  | .ld (some n) x, v => ∃ (b o : Nat) (cs : List Value), ev ρ x = .pointer (some ⟨b, o, none⟩) ∧ cs.length = n ∧ (∀ i u, cs[i]? = some u → C ⟨b, o + i, none⟩ u) ∧ v = .agg cs.toArray
  | .bin op x y, v => binV op (ev ρ x) (ev ρ y) = some v
  | .eqb neg x y, v => ∃ a b, ev ρ x = .bool a ∧ ev ρ y = .bool b ∧ v = .bool (neg ^^ (a == b))
  | .eqp neg x y, v => ∃ a b, ev ρ x = .pointer a ∧ ev ρ y = .pointer b ∧ (a = none ∨ b = none ∨ a.map (·.block) = b.map (·.block)) ∧ v = .bool (neg ^^ (a == b))
  | .eqs neg x y, v => ∃ a n c, ev ρ x = .slice a n c ∧ (∃ n c, ev ρ y = .slice none n c) ∧ v = .bool (neg ^^ a.isNone)
  | .un op x, v => unV op (ev ρ x) = some v
  | .cvi k x, v => ∃ j n, ev ρ x = .int j n ∧ v = .int k (k.wrap n)
  | .b2s x, v => ∃ a l c, ev ρ x = .slice a l.length c ∧ (a = none → l = []) ∧ (∀ a', a = some a' → ∀ i u, l[i]? = some u → C (a'.add i) (byteV u)) ∧ v = strV l
  | .s2s x, v => (∃ s, ev ρ x = .string s) ∧ v = ev ρ x
  | .idx sz x i, v => ∃ b o n c k j, ev ρ x = .slice (some ⟨b, o, none⟩) n c ∧ ev ρ i = .int k j ∧ 0 ≤ j ∧ j < n ∧ v = .pointer (some ⟨b, o + j.toNat * sz, none⟩)
  | .idxa len sz x i, v => ∃ b o k j, ev ρ x = .pointer (some ⟨b, o, none⟩) ∧ ev ρ i = .int k j ∧ 0 ≤ j ∧ j < len ∧ v = .pointer (some ⟨b, o + j.toNat * sz, none⟩)
  | .sidx x i, v => ∃ l k j u, ev ρ x = strV l ∧ ev ρ i = .int k j ∧ 0 ≤ j ∧ l[j.toNat]? = some u ∧ v = byteV u
  | .sl sz x lo hi mx, v => ∃ a n c l h m, ev ρ x = .slice a n c ∧ (m ≠ l → ∀ a', a = some a' → a'.spot = none) ∧ cutV n c (lo.map (ev ρ)) (hi.map (ev ρ)) (mx.map (ev ρ)) = some (l, h, m) ∧
      v = .slice (if m = l then a else a.map fun a => ⟨a.block, a.off + l * sz, none⟩) (h - l) (m - l)
  | .sls x lo hi, v => ∃ s l h m, ev ρ x = strV s ∧ cutV s.length s.length (lo.map (ev ρ)) (hi.map (ev ρ)) none = some (l, h, m) ∧ v = strV ((s.drop l).take (h - l))
  | .sla len sz x lo hi mx, v => ∃ b o l h m, ev ρ x = .pointer (some ⟨b, o, none⟩) ∧ cutV len len (lo.map (ev ρ)) (hi.map (ev ρ)) (mx.map (ev ρ)) = some (l, h, m) ∧
      v = .slice (some (if m = l then ⟨b, o, none⟩ else ⟨b, o + l * sz, none⟩)) (h - l) (m - l)
  | .len x, v => ∃ a n c, ev ρ x = .slice a n c ∧ v = .int .i64 n
  | .lens x, v => ∃ l, ev ρ x = strV l ∧ v = .int .i64 l.length
  | .cap x, v => ∃ a n c, ev ρ x = .slice a n c ∧ v = .int .i64 c
  | .mx2 x y, v => ∃ k a b, ev ρ x = .int k a ∧ ev ρ y = .int k b ∧ v = .int k (if b > a then b else a)
  | .mn2 x y, v => ∃ k a b, ev ρ x = .int k a ∧ ev ρ y = .int k b ∧ v = .int k (if b < a then b else a)
  | .ext x i, v => ∃ vs, ev ρ x = .tuple vs ∧ vs[i]? = some v
  | .bld places zero parts, v => ∃ cs, Instr.fill (places[·]?) zero.toArray (parts.map fun p => (p.1, ev ρ p.2)) = some cs ∧ v = .agg cs
  | .gf none off x, v => ∃ cs, ev ρ x = .agg cs ∧ cs[off]? = some v
  | .gf (some n) off x, v => ∃ cs, ev ρ x = .agg cs ∧ v = .agg (cs.extract off (off + n))
  | .mkf fn first captured, v => v = .func fn (first.map (ev ρ)).toArray (captured.map (ev ρ)).toArray
  | .mki t x, v => v = .iface t (ev ρ x)
  | .bcmp x y, v => ∃ l m, bytesAt C (ev ρ x) l ∧ bytesAt C (ev ρ y) m ∧ v = .int .i64 (Lib.compareBytes l m)
  | .nilc x, v => (∃ a, ev ρ x = .pointer (some a)) ∧ v = ev ρ x
  | .eqc neg offs x y, v => ∃ xs ys r, ev ρ x = .agg xs ∧ ev ρ y = .agg ys ∧ eqCs xs ys offs = some r ∧ v = .bool (neg ^^ r)
  | .r2s x, v => ∃ (a : Option Addr) (rs : List Int) (c : Nat), ev ρ x = .slice a rs.length c ∧ (a = none → rs = []) ∧ (∀ a', a = some a' → ∀ i r, rs[i]? = some r → C (a'.add i) (.int .i32 r)) ∧ v = strV (rs.flatMap encL)
  | _, _ => False

abbrev Post := PHeap → List PHeap → Prop

/-- What an instruction does; 'Lk' is where it may look, 'L' what it may change. -/
def gi (P : Program) (pan : List PanicEntry → Post) (ρ : Env) (d : PHeap) (Lk L : List PHeap) (K : Value → Post) : GI → Prop
  | .box x => ∀ b T, K (.pointer (some ⟨b, 0, none⟩)) d (bx b T (ev ρ x).cells.toList :: L)
  | .alo z => ∀ b T, K (.pointer (some ⟨b, 0, none⟩)) d (bx b T z.cells.toList :: L)
  | .st n addr val => ∃ i b o T l, L[i]? = some (bx b T l) ∧ ev ρ addr = .pointer (some ⟨b, o, none⟩) ∧ (ev ρ val).cells.size = n ∧ o + n ≤ l.length ∧
      ((ev ρ val).cells.toList.all (·.oneCell')) = true ∧ K undef d (L.set i (bx b T (patch l o (ev ρ val).cells.toList)))
  | .bsl n sz zero parts => n * sz ≤ 2 ^ 24 ∧ ∃ cs, Instr.fill (fun i => some (i * sz, sz)) (zrow zero (n * sz)).toArray (parts.map fun p => (p.1, ev ρ p.2)) = some cs ∧
      ∀ b T, K (.slice (some ⟨b, 0, none⟩) n n) d (bx b T cs.toList :: L)
  | .mks sz bytes zero len cap => ∃ k k' n c, ev ρ len = .int k (n : Nat) ∧ ev ρ cap = .int k' (c : Nat) ∧ n ≤ c ∧ c ≤ maxLen ∧ bytes * c ≤ 2 ^ 48 ∧
      ∀ b T, K (.slice (some ⟨b, 0, none⟩) n c) d (bx b T (zrow zero (c * sz)) :: L)
  | .app sz bytes zero s x => ∃ sa n c xa m xc news, ev ρ s = .slice sa n c ∧ ev ρ x = .slice xa m xc ∧ news.length = m * sz ∧ (news.all (·.oneCell')) = true ∧
      (xa = none → news = []) ∧ (∀ a', xa = some a' → ∀ i u, news[i]? = some u → HC d (Lk ++ L) (a'.add i) u) ∧ n + m ≤ maxLen ∧ c ≤ maxLen ∧
      (n + m ≤ c → (news = [] ∧ K (.slice sa (n + m) c) d L) ∨ ∃ i b o T l, sa = some ⟨b, o, none⟩ ∧ L[i]? = some (bx b T l) ∧ o + (n + m) * sz ≤ l.length ∧ K (.slice sa (n + m) c) d (L.set i (bx b T (patch l (o + n * sz) news)))) ∧
      (c < n + m → (n + m) * bytes ≤ 2 ^ 47 ∧ ∃ olds, olds.length = n * sz ∧ (sa = none → olds = []) ∧ (∀ a', sa = some a' → ∀ i u, olds[i]? = some u → HC d (Lk ++ L) (a'.add i) u) ∧
        ∀ b T c', n + m ≤ c' → c' ≤ maxLen → K (.slice (some ⟨b, 0, none⟩) (n + m) c') d (bx b T (olds ++ news ++ zrow zero ((c' - (n + m)) * sz)) :: L))
  | .call f args => ∃ L1 L2 R, L = L1 ++ L2 ∧ GCall P f (args.map (ev ρ)) d L1 R ∧ ∀ e d' L', Le d d' → R e d' L' →
      match e with | .returned v => K v d' (L' ++ L2) | .panicked c => pan c d' (L' ++ L2) | .outgrown => False
  | .callv f args => ∃ g first cap L1 L2 R, ev ρ f = .func (.func g) first cap ∧ L = L1 ++ L2 ∧ GCall P g (first.toList ++ args.map (ev ρ) ++ cap.toList) d L1 R ∧ ∀ e d' L', Le d d' → R e d' L' →
      match e with | .returned v => K v d' (L' ++ L2) | .panicked c => pan c d' (L' ++ L2) | .outgrown => False
  | .s2r x => ∃ l, ev ρ x = strV l ∧ (runesL l).length ≤ 140737488355328 ∧ ∀ b T c, (runesL l).length ≤ c → c ≤ maxLen → K (.slice (some ⟨b, 0, none⟩) (runesL l).length c) d (bx b T (runesL l ++ List.replicate (c - (runesL l).length) (.int .i32 0)) :: L)
  | .pan x => ∃ t v, ev ρ x = .iface t v ∧ pan [{ v := .iface t v, recovered := false }] d L
  | q => ∃ v, evq ρ (HC d Lk) q v ∧ K v d L

def gop (P : Program) (pan : List PanicEntry → Post) (g : GOp) (ρ : Env) (d : PHeap) (Lk L : List PHeap) (K : Env → Post) : Prop :=
  match g.guard with
  | none => gi P pan ρ d Lk L (fun v d' L' => K (put ρ g.dst v) d' L') g.i
  | some (t, want) => (∃ b, ρ t = .bool b ∧ (b = want → gi P pan ρ d Lk L (fun v d' L' => K (put ρ g.dst v) d' L') g.i) ∧ (b = !want → K (put ρ g.dst undef) d L)) ∨ (ρ t = undef ∧ K (put ρ g.dst undef) d L)

/-- A region: the schedule 's'; 'Ls': blocks that stay as they are up to the bar. -/
def gws (P : Program) (pan : List PanicEntry → Post) (Qn : Env → Post) : GS → List PHeap → Env → PHeap → List PHeap → Prop
  | .done, Ls, ρ, d, L => ∃ d1 L1, Vs d (Ls ++ L) d1 L1 ∧ Qn ρ d1 L1
  | .op true g s, Ls, ρ, d, L => gop P pan g ρ d Ls L (fun ρ' d' L' => gws P pan Qn s Ls ρ' d' L')
  | .op false g s, Ls, ρ, d, L => ∃ d1 L1, Vs d L d1 L1 ∧ gop P (fun c d' L' => pan c d' (Ls ++ L')) g ρ d1 (Ls ++ L1) L1 (fun ρ' d' L' => ∃ d2 L2, Vs d' L' d2 L2 ∧ gws P pan Qn s Ls ρ' d2 L2)
  | .alt g s t, Ls, ρ, d, L => (∃ d1 L1, Vs d L d1 L1 ∧ gop P (fun c d' L' => pan c d' (Ls ++ L')) g ρ d1 (Ls ++ L1) L1 (fun ρ' d' L' => ∃ d2 L2, Vs d' L' d2 L2 ∧ gws P pan Qn s Ls ρ' d2 L2)) ∧ gws P pan Qn t Ls ρ d L
  | .bar s, Ls, ρ, d, L => gws P pan Qn s [] ρ d (Ls ++ L)

structure GPost where
  n : Env → Post
  ex : Nat → Env → Post
  ret : Env → Post
  pan : List PanicEntry → Post

def gwp (P : Program) : GCode → GPost → Env → PHeap → List PHeap → Prop
  | .skip, Q => Q.n
  | .reg false s, Q => fun ρ d L => gws P Q.pan Q.n s [] ρ d L
  | .reg true s, Q => fun ρ d L => ∃ d1 Ls L1, Vs d L d1 (Ls ++ L1) ∧ gws P Q.pan Q.n s Ls ρ d1 L1
  | .seq a b, Q => gwp P a { Q with n := gwp P b Q }
  | .cond c a b, Q => fun ρ d L => ∃ t, ev ρ c = .bool t ∧ (t = true → gwp P a Q ρ d L) ∧ (t = false → gwp P b Q ρ d L)
  | .block id a, Q => gwp P a { Q with ex := fun j => if j = id then Q.n else Q.ex j }
  | .loop a, Q => fun ρ d L => ∃ I : Nat → Env → Post, (∃ m, I m ρ d L) ∧ ∀ m ρ d L, I m ρ d L → gwp P a { Q with n := fun ρ d L => ∃ m', m' < m ∧ I m' ρ d L } ρ d L
  | .exit id, Q => Q.ex id
  | .ret, Q => Q.ret
  | .bad, _ => fun _ _ _ => False

/-! ### From the program's code -/

def opndOk (n : Nat) : Operand → Bool
  | .tmp t => decide (t < n)
  | _ => true

def aggOf (P : Program) (t : TypeId) : Option (Option Nat) :=
  match P.underlying t, P.info? t with
  | some (.struct _), some i | some (.array _ _), some i => some (some i.size)
  | some _, some _ => some none
  | _, _ => none

def intK (P : Program) (t : TypeId) : Bool := match P.underlying t with | some (.int _) => true | _ => false

def isCmp (P : Program) (f : FuncId) : Bool :=
  match P.funcs[f]? with
  | some fn => fn.body.isNone && (fn.name == "internal/bytealg.Compare" || fn.name == "internal/bytealg.abigen_runtime_cmpstring") && fn.origin == ""
  | none => false

/-- The cells by which two structures of plain cells are compared. -/
def tagOf (P : Program) (f : Field) : Option (Nat × Nat) :=
  if f.name == "_" || aggOf P f.type != some none then none else
    match P.underlying f.type with
    | some (.int _) => some (0, f.offset)
    | some .string => some (1, f.offset)
    | some .bool => some (2, f.offset)
    | _ => none
def eqOffs (P : Program) (t : TypeId) (fs : Array Field) : Option (List (Nat × Nat)) :=
  if P.stoodInHeld t || P.eqGuardType P.depth t then none else fs.toList.mapM (tagOf P)

def decI (P : Program) (o : Oper) : Option GI :=
  match o.op with
  | .move x | .assign x => some (.mv x)
  | .pick c a b => some (.pick c a b)
  | .fieldAddr s x f =>
    match P.underlying s with
    | some (.struct fs) => match fs[f]? with
      | some fl => match P.info? fl.type with
        | some i => if i.size = 0 then none else some (.fld fl.offset x)
        | none => none
      | none => none
    | _ => none
  | .load t x => (aggOf P t).map fun n => .ld n x
  | .store t a x => match P.info? t with | some i => some (.st i.size a x) | none => none
  | .box _ x => some (.box x)
  | .alloc t => match P.info? t with | some i => i.zero.map fun z => .alo z | none => none
  | .binOp op t x y _ =>
    match op with
    | .eql | .neq =>
      match P.underlying t with
      | some (.int _) | some .string => some (.bin op x y)
      | some .bool => some (.eqb (op matches .neq) x y)
      | some (.pointer e) => match P.info? e with | some i => if i.size = 0 then none else some (.eqp (op matches .neq) x y) | none => none
      | some (.slice _) => some (.eqs (op matches .neq) x y)
      | some (.struct fs) => (eqOffs P t fs).map fun offs => .eqc (op matches .neq) offs x y
      | _ => none
    | _ => some (.bin op x y)
  | .unOp op _ x => some (.un op x)
  | .convert s t x =>
    match P.underlying s, P.underlying t with
    | some (.int _), some (.int k) => some (.cvi k x)
    | some .string, some .string => some (.s2s x)
    | some (.slice e), some .string => match P.underlying e with | some (.int .u8) => some (.b2s x) | some (.int .i32) => some (.r2s x) | _ => none
    | some .string, some (.slice e) => match P.underlying e with | some (.int .i32) => some (.s2r x) | _ => none
    | _, _ => none
  | .indexAddr t x i =>
    match P.underlying t with
    | some (.slice e) => match P.info? e with | some f => some (.idx f.size x i) | none => none
    | some (.array n e) => match P.info? e with | some f => some (.idxa n f.size x i) | none => none
    | _ => none
  | .index t x i => match P.underlying t with | some .string => some (.sidx x i) | _ => none
  | .slice t x lo hi mx =>
    match P.underlying t with
    | some (.slice e) => match P.info? e with | some f => some (.sl f.size x lo hi mx) | none => none
    | some (.array n e) => match P.info? e with | some f => some (.sla n f.size x lo hi mx) | none => none
    | some .string => if mx.isSome then none else some (.sls x lo hi)
    | _ => none
  | .extract x i => some (.ext x i)
  | .build t parts =>
    match P.underlying t, P.info? t with
    | some (.struct fs), some i => match i.zero, (fs.toList.mapM fun f => (P.info? f.type).map fun g => (f.offset, g.size)) with
      | some z, some places => some (.bld places z.cells.toList parts.toList)
      | _, _ => none
    | some (.array n e), some i => match i.zero, P.info? e with
      | some z, some f => some (.bld ((List.range n).map fun k => (k * f.size, f.size)) z.cells.toList parts.toList)
      | _, _ => none
    | _, _ => none
  | .buildSlice t n parts =>
    match P.underlying t with
    | some (.slice e) => match P.info? e with
      | some i => match i.zero with | some z => if z.cells.size = i.size then some (.bsl n i.size z.cells.toList parts.toList) else none | none => none
      | none => none
    | _ => none
  | .makeSlice t l c =>
    match P.underlying t with
    | some (.slice e) => match P.info? e with
      | some i => match i.zero with | some z => if z.cells.size = i.size then some (.mks i.size i.bytes z.cells.toList l c) else none | none => none
      | none => none
    | _ => none
  | .field t x f =>
    match P.underlying t with
    | some (.struct fs) => match fs[f]? with
      | some fl => (aggOf P fl.type).map fun n => .gf n fl.offset x
      | none => none
    | _ => none
  | .makeFunc fn first cap => some (.mkf fn first.toList cap.toList)
  | .makeInterface t x => match P.underlying t with | some (.interface _) => none | some _ => some (.mki t x) | none => none
  | .nilCheck x => some (.nilc x)
  | .panic x => some (.pan x)
  | .call c =>
    match c.callee with
    | .value (.func f) => if isCmp P f then (match c.args.toList with | [x, y] => some (.bcmp x y) | _ => none) else some (.call f c.args.toList)
    | .value x => some (.callv x c.args.toList)
    | .builtin .len => match c.args.toList, c.argTypes.toList with
      | [x], [t] => match P.underlying t with | some .string => some (.lens x) | some (.slice _) => some (.len x) | _ => none
      | _, _ => none
    | .builtin .cap => match c.args.toList, c.argTypes.toList with
      | [x], [t] => match P.underlying t with | some (.slice _) => some (.cap x) | _ => none
      | _, _ => none
    | .builtin .max => match c.args.toList with | [x, y] => some (.mx2 x y) | _ => none
    | .builtin .min => match c.args.toList with | [x, y] => some (.mn2 x y) | _ => none
    | .builtin .append => match c.args.toList, c.argTypes.toList with
      | [s, x], [t, t'] => match P.underlying t, P.underlying t' with
        | some (.slice e), some (.slice _) => match P.info? e with
          | some i => match i.zero with
            | some z => if i.size = 0 ∨ i.bytes = 0 ∨ z.cells.size ≠ i.size then none else some (.app i.size i.bytes z.cells.toList s x)
            | none => none
          | none => none
        | _, _ => none
      | _, _ => none
    | _ => none
  | _ => none

def dstOk (n : Nat) : Option Nat → Bool | some t => decide (t < n) | none => true
def noSel : Op → Bool | .select .. => false | _ => true

def decOp (P : Program) (n : Nat) (ops : Array Oper) (o : Oper) : Option GOp :=
  if (o.op.operands.toList.all (opndOk n)) && dstOk n o.dst && noSel o.op then
    match decI P o with
    | none => none
    | some i => match o.guard with
      | none => some ⟨o.dst, none, i⟩
      | some (j, want) => match (ops[j]?).bind (·.dst) with
        | some t => if t < n then some ⟨o.dst, some (t, want), i⟩ else none
        | none => none
  else none

/-- A schedule, by the operations' numbers. -/
inductive SI where
  | done
  | op (take : Bool) (i : Nat) (s : SI)
  | alt (i : Nat) (s t : SI)
  | bar (s : SI)

def SI.heads : SI → List Nat
  | .op _ i _ => [i]
  | .alt i _ t => i :: t.heads
  | _ => []

def SI.steps : SI → Nat
  | .done => 0
  | .op _ _ s => s.steps + 1
  | .alt _ s t => max (s.steps + 1) t.steps
  | .bar s => s.steps

def waits (o : Oper) (i : Nat) : Bool := o.after.any fun e => Region.binds .any e && e.on == i

/-- Those that come behind all others. -/
def lastOk (ops : Array Oper) (bs : List Bool) : Bool :=
  (List.range ops.size).all fun j => !bs.getD j false || (List.range ops.size).all fun i => bs.getD i false || (ops[j]?).any (waits · i)

def lasts (ops : Array Oper) : List Bool :=
  let bs := ops.toList.map fun o => match o.op with | .store .. | .assign _ => true | _ => false
  if lastOk ops bs then bs else ops.toList.map fun _ => false

/-- Is the schedule one that speaks of every order? -/
def chk (ops : Array Oper) (q : Nat → Bool) (bs : List Bool) : Bool → Bool → Array Bool → SI → Bool
  | top, _, listed, .done => top && Region.ready .any ops listed == []
  | top, past, listed, .op true i s => top && q i && (past == bs.getD i false) && Region.free .any ops listed i && (Region.ready .any ops listed).contains i && chk ops q bs true past (listed.setIfInBounds i true) s
  | top, past, listed, .op false i s => (!top || Region.ready .any ops listed == [i]) && (past == bs.getD i false) && chk ops q bs true past (listed.setIfInBounds i true) s
  | top, past, listed, .alt i s t => (!top || Region.ready .any ops listed == i :: t.heads) && (past == bs.getD i false) && chk ops q bs true past (listed.setIfInBounds i true) s && chk ops q bs false past listed t
  | top, past, listed, .bar s => top && !past && chk ops q bs true true listed s

def mkSI (ops : Array Oper) (q : Nat → Bool) (bs : List Bool) : Nat → Bool → Array Bool → SI
  | 0, _, _ => .done
  | f + 1, past, listed =>
    let rs := Region.ready .any ops listed
    if !past && bs.any (·) && (List.range ops.size).all (fun i => listed.getD i true || bs.getD i false) then .bar (mkSI ops q bs f true listed) else
    match rs.find? fun i => q i && Region.free .any ops listed i with
    | some i => .op true i (mkSI ops q bs f past (listed.setIfInBounds i true))
    | none => (rs.foldr (fun i (acc : Option SI) => match acc with
      | none => some (.op false i (mkSI ops q bs f past (listed.setIfInBounds i true)))
      | some t => some (.alt i (mkSI ops q bs f past (listed.setIfInBounds i true)) t)) none).getD .done

def toGS (P : Program) (n : Nat) (ops : Array Oper) : SI → Option GS
  | .done => some .done
  | .op tk i s => match (ops[i]?).bind (decOp P n ops), toGS P n ops s with
    | some g, some s' => some (.op tk g s')
    | _, _ => none
  | .alt i s t => match (ops[i]?).bind (decOp P n ops), toGS P n ops s, toGS P n ops t with
    | some g, some s', some t' => some (.alt g s' t')
    | _, _, _ => none
  | .bar s => (toGS P n ops s).map .bar

def quietAt (P : Program) (ops : Array Oper) (i : Nat) : Bool := ((ops[i]?).bind (decI P)).any GI.quiet

/-- A load of what is stored to in the same region. -/
def clash (ops : Array Oper) (i : Nat) : Bool :=
  match (ops[i]?).map (fun o => o.op) with
  | some (Op.load _ (.tmp t)) => ops.any fun o => match o.op with | Op.store _ (.tmp t') _ => t == t' | _ => false
  | _ => false

def straight : List Nat → SI
  | [] => .done
  | i :: l => .op false i (straight l)

def decR (P : Program) (n : Nat) (ops : Array Oper) (drawn : Bool) : Option GS :=
  match drawn with
  | false => toGS P n ops (straight (List.range ops.size))
  | true =>
    let bs := lasts ops
    let si := mkSI ops (fun i => quietAt P ops i && !clash ops i) bs (2 * ops.size + 2) false (Array.replicate ops.size false)
    if Region.noSelect ops && lastOk ops bs && decide (si.steps ≤ ops.size) && chk ops (quietAt P ops) bs true false (Array.replicate ops.size false) si then toGS P n ops si else none

/-- What is not understood is 'bad': a walk may not come there. -/
def decC (P : Program) (n : Nat) : Code → GCode
  | .skip => .skip
  | .region _ ops drawn => match decR P n ops drawn with | some s => .reg drawn s | none => .bad
  | .seq a b => .seq (decC P n a) (decC P n b)
  | .cond c a b => if opndOk n c then .cond c (decC P n a) (decC P n b) else .bad
  | .block id a => .block id (decC P n a)
  | .loop a => .loop (decC P n a)
  | .exit id => .exit id
  | .ret => .ret
  | _ => .bad

def decRes (P : Program) (n : Nat) : ResultVar → Option GRes
  | .tmp t => if t < n then some (.tmp t) else none
  | .cell t ty => if t < n then (aggOf P ty).map (.cell t) else none

def dec (P : Program) (f : FuncId) : Option GFun :=
  match P.funcs[f]? with
  | some fn =>
    if fn.name == "runtime.NumGoroutine" || !P.follows .mixedOrders then none else
    match fn.body with
    | some c => (fn.results.toList.mapM (decRes P fn.ntmps)).map fun rs => ⟨fn.ntmps, rs, decC P fn.ntmps c⟩
    | none => none
  | none => none

end Go.Gk
end

section
/-
  What each instruction does is what the program's operation does.
-/
namespace Go.Gk
open Go

theorem info_run {P : Program} {t : TypeId} {i : TypeInfo} (h : P.info? t = some i) (w : World) : (typeInfo t).run P w = .ok i w := by
  simp [typeInfo, h]
theorem size_run {P : Program} {t : TypeId} {i : TypeInfo} (h : P.info? t = some i) (w : World) : (sizeOf t).run P w = .ok i.size w := by
  simp [sizeOf, info_run h]
theorem zero_run {P : Program} {t : TypeId} {i : TypeInfo} {z : Value} (h : P.info? t = some i) (hz : i.zero = some z) (w : World) : (zeroValue t).run P w = .ok z w := by
  simp [zeroValue, info_run h, hz]

/-! ### Reading -/
theorem run_ld1 {P : Program} {t : TypeId} (ht : aggOf P t = some none) (a : Addr) (v : Value) (W : World) (hc : W.cell? a = some v) :
    (Instr.loadAt t (.pointer (some a))).run P W = .ok v W := by
  have hu : ∃ d, P.underlying t = some d ∧ (match d with | .struct _ | .array _ _ => true | _ => false) = false := by
    unfold aggOf at ht
    split at ht <;> simp_all
  obtain ⟨d, hu, hd⟩ := hu
  simp only [Instr.loadAt, Instr.sureAddr, loadVar, isAgg, Sem.run_bind, run_underlying hu, Sem.run_pure, Result.andThen]
  cases d <;> simp_all

theorem run_ldn {P : Program} {t : TypeId} {n : Nat} (ht : aggOf P t = some (some n)) (b o : Nat) (cs : List Value) (hl : cs.length = n) (W : World)
    (hc : ∀ i u, cs[i]? = some u → W.cell? ⟨b, o + i, none⟩ = some u) :
    (Instr.loadAt t (.pointer (some ⟨b, o, none⟩))).run P W = .ok (.agg cs.toArray) W := by
  have hu : ∃ d i, P.underlying t = some d ∧ P.info? t = some i ∧ i.size = n ∧ (match d with | .struct _ | .array _ _ => true | _ => false) = true := by
    unfold aggOf at ht
    split at ht <;> simp_all
  obtain ⟨d, i, hu, hi, hn, hd⟩ := hu
  subst hl
  have hr := run_loadCells_list (P := P) W ⟨b, o, none⟩ cs (fun j v hj => by rw [Addr.add_lit]; exact hc j v hj)
  simp only [Instr.loadAt, Instr.sureAddr, loadVar, isAgg, Sem.run_bind, run_underlying hu, Sem.run_pure, Result.andThen]
  cases d <;> simp_all [size_run hi]

theorem binV_run {P : Program} {op : BinOp} {x y v : Value} (h : binV op x y = some v) (W : World) : (binOp op 0 x y).run P W = .ok v W := by
  unfold binV at h
  split at h
  · split at h
    · cases h
    · rename_i hn; simp_all [binOp, Op.shift, if_neg hn] <;> (try (intro hh; omega))
  · split at h
    · cases h
    · rename_i hn; simp_all [binOp, Op.shift, if_neg hn] <;> (try (intro hh; omega))
  · rename_i k a k' b _ _
    split at h
    · cases h
    · rename_i hk
      simp only [ne_eq, Decidable.not_not] at hk
      subst hk
      cases op <;> simp_all [binOp, Op.intArith, Op.intDiv, Op.intBits, Op.intCmp]
  · cases op <;> simp_all [binOp, Op.stringOp] <;> (split at h <;> simp_all)
  · cases h

theorem binV_op (op : BinOp) (t t' : TypeId) (x y : Value) (v : Value) (h : binV op x y = some v) : binOp op t x y = binOp op t' x y := by
  unfold binV at h
  split at h <;> first | (simp [binOp]; done) | (cases op <;> simp [binOp]; done) | cases h

theorem unV_run {P : Program} {op : UnOp} {x v : Value} (h : unV op x = some v) (W : World) : (Op.unary op x).run P W = .ok v W := by
  unfold unV at h
  split at h <;> simp_all [Op.unary, Op.intArith, Op.intBits]

theorem run_bound {P : Program} {k : IntKind} {i : Int} {y : Nat} (h : 0 ≤ i ∧ i ≤ y) (c : BoundsCode) (W : World) : (Instr.sliceBound (.int k i) y c).run P W = .ok i.toNat W := by
  simp [Instr.sliceBound, asIntOf, h]

theorem bnd_run {P : Program} {x : Value} {y r : Nat} (h : bnd x y = some r) (c : BoundsCode) (W : World) : (Instr.sliceBound x y c).run P W = .ok r W := by
  cases x <;> simp [bnd] at h
  rename_i k i
  obtain ⟨⟨h1, h2⟩, rfl⟩ := h
  exact run_bound ⟨h1, h2⟩ c W

theorem bnd_le {v : Value} {n i : Nat} (h : bnd v n = some i) : i ≤ n := by
  unfold bnd at h
  split at h
  · split at h
    · rename_i hh; simp at h; omega
    · cases h
  · cases h
theorem cut_le {n c : Nat} {lo hi mx : Option Value} {l h m : Nat} (e : cutV n c lo hi mx = some (l, h, m)) : m ≤ c ∧ (l ≤ h) ∧ (n ≤ c → h ≤ m ∨ h = n) := by
  simp only [cutV, Option.bind_eq_some_iff, Option.map_eq_some_iff, Prod.mk.injEq] at e
  obtain ⟨m', hm, h', hh, l', hl, rfl, rfl, rfl⟩ := e
  refine ⟨?_, ?_, ?_⟩
  · unfold cutM at hm
    split at hm
    · exact bnd_le hm
    · cases hm; exact Nat.le_refl _
  · unfold cutL at hl
    split at hl
    · exact bnd_le hl
    · cases hl; exact Nat.zero_le _
  · intro _
    unfold cutH at hh
    split at hh
    · exact .inl (bnd_le hh)
    · split at hh
      · cases hh
      · cases hh; exact .inr rfl
theorem cutV_run {P : Program} (isS : Bool) (n c : Nat) (lo hi mx : Option Value) (l h m : Nat) (e : cutV n c lo hi mx = some (l, h, m)) (W : World) :
    (Instr.sliceBounds isS n c lo hi mx).run P W = .ok (l, h, m) W := by
  simp only [cutV, Option.bind_eq_some_iff, Option.map_eq_some_iff, Prod.mk.injEq] at e
  obtain ⟨m', hm, h', hh, l', hl, rfl, rfl, rfl⟩ := e
  have hl' : ∀ w cd, lo = some w → (Instr.sliceBound w h' cd).run P W = .ok l' W := fun w cd e => bnd_run (by subst e; exact hl) cd W
  have hl0 : lo = none → l' = 0 := fun e => by subst e; simp [cutL] at hl; exact hl.symm
  cases mx with
  | none =>
    simp [cutM] at hm; subst hm
    cases hi with
    | none =>
      simp [cutH] at hh; subst hh
      cases lo with
      | none => simp [Instr.sliceBounds, hl0 rfl]
      | some w => simp [Instr.sliceBounds, hl' w _ rfl]
    | some v =>
      have := fun cd => bnd_run (P := P) hh cd W
      cases lo with
      | none => simp [Instr.sliceBounds, this, hl0 rfl]
      | some w => simp [Instr.sliceBounds, this, hl' w _ rfl]
  | some x =>
    have hx := fun cd => bnd_run (P := P) (show bnd x c = some m' from hm) cd W
    cases hi with
    | none => simp [cutH] at hh
    | some v =>
      have := fun cd => bnd_run (P := P) hh cd W
      cases lo with
      | none => simp [Instr.sliceBounds, hx, this, hl0 rfl]
      | some w => simp [Instr.sliceBounds, hx, this, hl' w _ rfl]

theorem foldl_bytes : ∀ (l : List UInt8) (r : ByteArray), ((l.map fun b => ((b.toNat : Nat) : Int)).foldl (fun (r : ByteArray) n => r.push (UInt8.ofNat n.toNat)) r) = ⟨(r.data.toList ++ l).toArray⟩
  | [], r => by simp
  | b :: l, r => by
    simp only [List.map_cons, List.foldl_cons]
    rw [foldl_bytes l]
    simp [ByteArray.push]

theorem run_b2s {P : Program} (a : Option Addr) (l : List UInt8) (c : Nat) (W : World) (h0 : a = none → l = [])
    (hc : ∀ a', a = some a' → ∀ i u, l[i]? = some u → W.cell? (a'.add i) = some (byteV u)) :
    (Conv.bytesToString (.slice a l.length c)).run P W = .ok (strV l) W := by
  cases a with
  | none => have := h0 rfl; subst this; simp [Conv.bytesToString, strV]; rfl
  | some a =>
    have hr := run_loadCells_list (P := P) W a (l.map byteV) (fun j v hj => by
      rw [List.getElem?_map] at hj
      cases e : l[j]? with
      | none => rw [e] at hj; cases hj
      | some u => rw [e] at hj; simp at hj; subst hj; exact hc a rfl j u e)
    rw [List.length_map] at hr
    have hm : l.map byteV = (l.map fun b => ((b.toNat : Nat) : Int)).map (Value.int .u8) := by simp [byteV]
    rw [hm] at hr
    rw [run_bytesToString W _ _ _ _ hr, foldl_bytes]
    simp [strV]

theorem equal_eq (t : TypeId) (x y : Value) : Op.equal t x y = Op.equalIn (9999 + 1) t x y := rfl

theorem eqIn_bool {P : Program} {t : TypeId} (d : Nat) (a b : Bool) (hu : P.underlying t = some .bool) (W : World) : (Op.equalIn (d + 1) t (.bool a) (.bool b)).run P W = .ok (a == b) W := by
  simp [Op.equalIn, run_underlying hu]
theorem eqIn_ptr {P : Program} {t e : TypeId} {i : TypeInfo} (d : Nat) (a b : Option Addr) (hu : P.underlying t = some (.pointer e)) (hi : P.info? e = some i) (hn : ¬ i.size = 0)
    (hab : a = none ∨ b = none ∨ a.map (·.block) = b.map (·.block)) (W : World) : (Op.equalIn (d + 1) t (.pointer a) (.pointer b)).run P W = .ok (a == b) W := by
  simp only [Op.equalIn, Sem.run_bind, run_underlying hu, Result.andThen]
  cases a with
  | none => cases b <;> simp
  | some a =>
    cases b with
    | none => simp
    | some b =>
      simp at hab
      simp [size_run hi, hn, sameAddr, hab]
theorem eqIn_slice {P : Program} {t e : TypeId} (d : Nat) (a : Option Addr) (n c n' c' : Nat) (hu : P.underlying t = some (.slice e)) (W : World) :
    (Op.equalIn (d + 1) t (.slice a n c) (.slice none n' c')).run P W = .ok a.isNone W := by
  simp only [Op.equalIn, Sem.run_bind, run_underlying hu, Result.andThen]
  cases a <;> simp

def tagFits (P : Program) (t : TypeId) : Nat → Prop
  | 0 => ∃ i, P.underlying t = some (.int i)
  | 1 => P.underlying t = some .string
  | 2 => P.underlying t = some .bool
  | _ => False
theorem tagOf_spec {P : Program} {f : Field} {k o : Nat} (h : tagOf P f = some (k, o)) : ¬ f.name = "_" ∧ aggOf P f.type = some none ∧ o = f.offset ∧ tagFits P f.type k := by
  unfold tagOf at h
  split at h
  · cases h
  rename_i hn
  simp only [Bool.or_eq_true, not_or, beq_iff_eq, bne_iff_ne, ne_eq, Decidable.not_not] at hn
  refine ⟨hn.1, hn.2, ?_⟩
  split at h
  · rename_i i hi; cases h; exact ⟨rfl, i, hi⟩
  · cases h; exact ⟨rfl, by assumption⟩
  · cases h; exact ⟨rfl, by assumption⟩
  · cases h
theorem eq1_run {P : Program} {t : TypeId} {k : Nat} (d : Nat) {x y : Value} {r : Bool} (h : eq1 k x y = some r) (hu : tagFits P t k) (W : World) :
    (Op.equalIn (d + 1) t x y).run P W = .ok r W := by
  unfold eq1 at h
  split at h
  · rename_i k1 a k2 b
    obtain ⟨i, hu⟩ := hu
    split at h
    · rename_i e; subst e; cases h
      simp [Op.equalIn, run_underlying hu]
    · cases h
  · cases h
    have hu : P.underlying t = some .string := hu
    simp [Op.equalIn, run_underlying hu]
  · cases h
    have hu : P.underlying t = some .bool := hu
    simp [Op.equalIn, run_underlying hu]
  · cases h
theorem isAgg_none {P : Program} {t : TypeId} (h : aggOf P t = some none) (W : World) : (isAgg t).run P W = .ok false W := by
  unfold aggOf at h
  split at h <;> simp_all
  rename_i d i h1 h2 h3 h4
  simp only [isAgg, Sem.run_bind, run_underlying h3, Result.andThen]
  cases d <;> simp_all
theorem part_one {P : Program} {t : TypeId} (h : aggOf P t = some none) {cs : Array Value} {o : Nat} {v : Value} (hv : cs[o]? = some v) (W : World) : (part t cs o).run P W = .ok v W := by
  simp [part, isAgg_none h, hv]
theorem eqIn_struct {P : Program} {t : TypeId} {fs : Array Field} {offs : List (Nat × Nat)} (d : Nat) (hu : P.underlying t = some (.struct fs)) (ho : eqOffs P t fs = some offs) {xs ys : Array Value} {r : Bool} (h : eqCs xs ys offs = some r) (W : World) :
    (Op.equalIn (d + 2) t (.agg xs) (.agg ys)).run P W = .ok r W := by
  unfold eqOffs at ho
  split at ho
  · cases ho
  rename_i hg
  simp only [Bool.or_eq_true, not_or, Bool.not_eq_true] at hg
  have hs : P.stoodInHeld t = false := hg.1
  rw [Op.equalIn]
  simp only [Sem.run_bind, run_underlying hu, Result.andThen, run_program, hs, Bool.false_eq_true, if_false]
  rw [← Array.forIn_toList]
  have key : ∀ (l : List Field) (offs : List (Nat × Nat)) (r : Bool), l.mapM (tagOf P) = some offs → eqCs xs ys offs = some r →
      Sem.run P (forIn l ((none : Option Bool), ()) fun f __s =>
          if f.name ≠ "_" then do
            let a ← part f.type xs f.offset
            let b ← part f.type ys f.offset
            let c ← Op.equalIn (d + 1) f.type a b
            if (!c) = true then pure (ForInStep.done (some false, ())) else pure (ForInStep.yield (none, ()))
          else pure (ForInStep.yield (none, ()))) W = .ok (if r then (none, ()) else (some false, ())) W := by
    intro l
    induction l with
    | nil =>
      intro offs r h1 h2
      simp at h1; subst h1
      simp [eqCs] at h2; subst h2
      simp
    | cons f l ih =>
      intro offs r h1 h2
      simp only [List.mapM_cons, Option.bind_eq_bind, Option.bind_eq_some_iff, Option.pure_def, Option.some.injEq] at h1
      obtain ⟨p, hp, l', hl, rfl⟩ := h1
      obtain ⟨k, o⟩ := p
      obtain ⟨hn1, hn2, rfl, hk⟩ := tagOf_spec hp
      simp only [eqCs] at h2
      split at h2
      · rename_i x y hx hy
        rw [Option.bind_eq_some_iff] at h2
        obtain ⟨b, hb, h3⟩ := h2
        have e1 := part_one hn2 hx W
        have e2 := part_one hn2 hy W
        have e3 := eq1_run d hb hk W
        simp only [List.forIn_cons, ne_eq, hn1, not_false_eq_true, if_true, Sem.run_bind, e1, e2, e3, Result.andThen]
        cases b with
        | false =>
          simp only [Bool.false_eq_true, if_false, Option.some.injEq] at h3
          subst h3
          simp
        | true =>
          simp only [if_true] at h3
          have := ih _ _ hl h3
          simp only [ne_eq] at this
          simp only [Bool.not_true, Bool.false_eq_true, if_false, Sem.run_pure]
          exact this
      · cases h2
  rw [key _ _ _ ho h]
  cases r <;> simp
theorem run_r2s {P : Program} (a : Option Addr) (rs : List Int) (c : Nat) (W : World) (h0 : a = none → rs = []) (hc : ∀ a', a = some a' → ∀ i r, rs[i]? = some r → W.cell? (a'.add i) = some (.int .i32 r)) :
    (Conv.runesToString (.slice a rs.length c)).run P W = .ok (strV (rs.flatMap encL)) W := by
  cases a with
  | none => have := h0 rfl; subst this; simp [Conv.runesToString, strV]; rfl
  | some a =>
    have hr := run_loadCells_list (P := P) W a (rs.map (Value.int .i32)) (fun j v hj => by
      rw [List.getElem?_map] at hj
      cases e : rs[j]? with
      | none => rw [e] at hj; cases hj
      | some u => rw [e] at hj; simp at hj; subst hj; exact hc a rfl j u e)
    rw [List.length_map] at hr
    simp only [Conv.runesToString, Sem.run_bind, hr, Result.andThen]
    rw [← Array.forIn_toList]
    have key : ∀ (body : Value → ByteArray → Sem (ForInStep ByteArray)), (∀ n s, body (.int .i32 n) s = pure (ForInStep.yield (s ++ Utf8.encode n))) → ∀ (rs : List Int) (s : ByteArray), Sem.run P (forIn (rs.map (Value.int .i32)) s body) W = .ok ⟨(s.data.toList ++ rs.flatMap encL).toArray⟩ W := by
      intro body hb rs
      induction rs with
      | nil => intro s; simp
      | cons r rs ih =>
        intro s
        simp only [List.map_cons, List.forIn_cons, Sem.run_bind, hb, Sem.run_pure, Result.andThen, ih, List.flatMap_cons, encL]
        congr 2
        simp
    rw [show ((List.map (Value.int IntKind.i32) rs).toArray).toList = rs.map (Value.int .i32) from rfl, key _ (fun _ _ => rfl)]
    simp [strV, ByteArray.empty, ByteArray.emptyWithCapacity]
    rfl
theorem run_s2r {P : Program} (e : TypeId) (l : List UInt8) (W : World) (hl : (runesL l).length ≤ 140737488355328) :
    ∃ c, (runesL l).length ≤ c ∧ c ≤ maxLen ∧ (Conv.stringToRunes e ⟨l.toArray⟩).run P W = .ok (.slice (some ⟨W.heap.size, 0, none⟩) (runesL l).length c) (W.drew.alloc (.cells (runesL l ++ List.replicate (c - (runesL l).length) (Value.int .i32 0)).toArray e)) := by
  have hsz : (⟨l.toArray⟩ : ByteArray).size = l.length := by simp [ByteArray.size]
  have hrl : (runesL l).length = (Conv.runesFrom ⟨l.toArray⟩ l.length 0 #[]).size := by simp [runesL]
  have hmax : (runesL l).length ≤ maxLen := by simp only [maxLen]; omega
  refine ⟨grownCap W (runesL l).length 0 e, grownCap_ge W _ _ _, grownCap_le_maxLen W _ _ _ hmax, ?_⟩
  simp only [Conv.stringToRunes, Sem.run_bind, hsz]
  rw [hrl]
  simp [Question.forced, grownCap, newRow, runesL]
  congr 2
  apply Array.ext'
  simp
theorem fill_mono {p p' : Nat → Option (Nat × Nat)} (hp : ∀ i x, p i = some x → p' i = some x) : ∀ (l : List (Nat × Value)) (cells cs : Array Value), Instr.fill p cells l = some cs → Instr.fill p' cells l = some cs
  | [], _, _, h => h
  | (i, v) :: l, cells, cs, h => by
    simp only [Instr.fill] at h ⊢
    cases e : p i with
    | none => rw [e] at h; cases h
    | some x =>
      rw [e] at h
      rw [hp i x e]
      obtain ⟨off, size⟩ := x
      simp only at h ⊢
      split at h
      · cases h
      · rename_i hc
        rw [if_neg hc]
        exact fill_mono hp l _ _ h
theorem bin_sound {P : Program} {dst : Option Tmp} {op : BinOp} {t yt type : TypeId} {x y : Operand} {pos : String} {after : Array Edge} {guard : Option (Nat × Bool)} {g : GI}
    (hd : decI P ⟨dst, .binOp op t x y yt, type, pos, after, guard⟩ = some g) {ρ : Env} {C : Addr → Value → Prop} {v : Value} (h : evq ρ C g v) {E : Operand → Value}
    (hx : E x = ev ρ x) (hy : E y = ev ρ y) {W : World} : (execOp E ⟨dst, .binOp op t x y yt, type, pos, after, guard⟩).run P W = .ok (.value v) W := by
  simp only [decI] at hd
  have plain : ∀ v, binV op (ev ρ x) (ev ρ y) = some v → (execOp E ⟨dst, .binOp op t x y yt, type, pos, after, guard⟩).run P W = .ok (.value v) W := by
    intro v hv
    have hg : (eqGuard op t x y (ev ρ x) (ev ρ y)).run P W = .ok () W := by
      unfold eqGuard
      unfold binV at hv
      split at hv <;> simp_all <;> split <;> simp
    simp [execOp, hx, hy, hg, binV_op op t 0 _ _ v hv, binV_run hv]
  have cmp : ∀ (neg : Bool), (op = .eql ∧ neg = false ∨ op = .neq ∧ neg = true) → ∀ (a b : Value) (r : Bool), (∀ (e : BinOp), eqGuard e t x y a b = pure ()) →
      ev ρ x = a → ev ρ y = b → (binOp .eql t a b = do pure (.bool (← Op.equal t a b))) → (binOp .neq t a b = do pure (.bool (!(← Op.equal t a b)))) → (Op.equal t a b).run P W = .ok r W →
      (execOp E ⟨dst, .binOp op t x y yt, type, pos, after, guard⟩).run P W = .ok (.value (.bool (neg ^^ r))) W := by
    intro neg ho a b r hg ha hb h1 h2 hr
    rcases ho with ⟨rfl, rfl⟩ | ⟨rfl, rfl⟩ <;> simp [execOp, hx, hy, ha, hb, hg, h1, h2, hr]
  have cmps : ∀ (neg : Bool) (g' : GI), (op = .eql ∧ neg = false ∨ op = .neq ∧ neg = true) → (match P.underlying t with
    | some (.int _) | some .string => some (GI.bin op x y)
    | some .bool => some (.eqb neg x y)
    | some (.pointer e) => match P.info? e with | some i => if i.size = 0 then none else some (.eqp neg x y) | none => none
    | some (.slice _) => some (.eqs neg x y)
    | some (.struct fs) => (eqOffs P t fs).map fun offs => .eqc neg offs x y
    | _ => none) = some g' → evq ρ C g' v → (execOp E ⟨dst, .binOp op t x y yt, type, pos, after, guard⟩).run P W = .ok (.value v) W := by
    intro neg g' ho hd h
    split at hd <;> try cases hd
    · exact plain v h
    · exact plain v h
    · rename_i hu
      simp only [evq] at h; obtain ⟨a, b, ha, hb, rfl⟩ := h
      refine cmp neg ho _ _ _ (fun e => by simp [eqGuard]) ha hb (by simp [binOp]) (by simp [binOp]) ?_
      exact eqIn_bool 9999 a b hu W
    · rename_i e hu
      split at hd <;> try cases hd
      rename_i i hi
      split at hd <;> try cases hd
      rename_i hn
      simp only [evq] at h; obtain ⟨a, b, ha, hb, hab, rfl⟩ := h
      refine cmp neg ho _ _ _ (fun e => by simp [eqGuard]) ha hb (by simp [binOp]) (by simp [binOp]) ?_
      exact eqIn_ptr 9999 a b hu hi hn hab W
    · rename_i e hu
      simp only [evq] at h; obtain ⟨a, n, c, ha, ⟨n', c', hb⟩, rfl⟩ := h
      refine cmp neg ho _ _ _ (fun e => by simp [eqGuard]) ha hb (by simp [binOp]) (by simp [binOp]) ?_
      exact eqIn_slice 9999 a n c n' c' hu W
    · rename_i fs hu
      rw [Option.map_eq_some_iff] at hd
      obtain ⟨offs, ho, rfl⟩ := hd
      simp only [evq] at h; obtain ⟨xs, ys, r, ha, hb, hr, rfl⟩ := h
      have hgt : P.eqGuardType P.depth t = false := by
        unfold eqOffs at ho
        split at ho
        · cases ho
        · rename_i hg; simp only [Bool.or_eq_true, not_or, Bool.not_eq_true] at hg; exact hg.2
      have hrun := eqIn_struct 9998 hu ho hr W
      rcases ‹op = .eql ∧ neg = false ∨ op = .neq ∧ neg = true› with ⟨rfl, rfl⟩ | ⟨rfl, rfl⟩
      · simp [execOp, hx, hy, ha, hb, eqGuard, hgt, binOp, equal_eq, hrun]
      · simp [execOp, hx, hy, ha, hb, eqGuard, hgt, binOp, equal_eq, hrun]
  cases op <;> simp only at hd
  case eql => exact cmps false g (.inl ⟨rfl, rfl⟩) hd h
  case neq => exact cmps true g (.inr ⟨rfl, rfl⟩) hd h
  all_goals (simp at hd; subst hd; exact plain v h)

theorem spot_none {W : World} {a : Addr} {v : Value} (h : W.cell? a = some v) : a.spot = none := by
  unfold World.cell? at h
  split at h
  · split at h
    · cases h
    · rename_i hs; simpa using hs
  · cases h
theorem add_zero (a : Addr) : a.add 0 = a := by simp [Addr.add]

theorem loadBytes_run {P : Program} (b o : Nat) (W : World) : ∀ (l : List UInt8) (i : Nat) (r : ByteArray), (∀ j u, l[j]? = some u → W.cell? ⟨b, o + (i + j), none⟩ = some (byteV u)) →
    (Extern.Bytes.loadBytes ⟨b, o + i, none⟩ l.length r).run P W = .ok ⟨(r.data.toList ++ l).toArray⟩ W
  | [], i, r, _ => by simp [Extern.Bytes.loadBytes]
  | u :: l, i, r, h => by
    have h0 := h 0 u rfl
    simp only [Nat.add_zero] at h0
    have ih := loadBytes_run (P := P) b o W l (i + 1) (r.push u) (fun j v hj => by have := h (j + 1) v (by simpa using hj); rwa [show i + (j + 1) = i + 1 + j by omega] at this)
    have e : (u.toNat : Int).toNat.toUInt8 = u := by simp
    simp only [List.length_cons, Extern.Bytes.loadBytes, Sem.run_bind, run_load, h0, Result.andThen, byteV, Addr.add_lit]
    rw [show o + i + 1 = o + (i + 1) by omega, e, ih]
    simp [ByteArray.push]

theorem bytesAt_run {P : Program} {C : Addr → Value → Prop} {v : Value} {l : List UInt8} (h : bytesAt C v l) {W : World} (hC : ∀ a v, C a v → W.cell? a = some v) : (Extern.Bytes.bytesOf v).run P W = .ok ⟨l.toArray⟩ W := by
  rcases h with rfl | ⟨a, c, rfl, h0, h1⟩
  · simp [Extern.Bytes.bytesOf, strV]
  · cases a with
    | none => rw [h0 rfl]; simp [Extern.Bytes.bytesOf]; rfl
    | some a =>
      obtain ⟨b, o, s⟩ := a
      have hc := h1 _ rfl
      cases l with
      | nil => simp [Extern.Bytes.bytesOf, Extern.Bytes.loadBytes]; rfl
      | cons u0 l =>
        have h0 := hC _ _ (hc 0 u0 rfl)
        rw [add_zero] at h0
        have hs := spot_none h0
        simp only at hs; subst hs
        have := loadBytes_run (P := P) b o W (u0 :: l) 0 ByteArray.empty (fun j u hj => by rw [Nat.zero_add, ← Addr.add_lit]; exact hC _ _ (hc j u hj))
        simpa [Extern.Bytes.bytesOf] using this

theorem cmp_find1 {fn : Func} (h : fn.name = "internal/bytealg.Compare") (h0 : fn.origin = "") : Extern.findNext fn = none ∧ Extern.find fn = some Extern.BytealgCompare.compare := by
  unfold Extern.findNext Extern.find
  rw [h, h0]
  exact ⟨by kernel_rfl, by kernel_rfl⟩
theorem cmp_find2 {fn : Func} (h : fn.name = "internal/bytealg.abigen_runtime_cmpstring") (h0 : fn.origin = "") : Extern.findNext fn = none ∧ Extern.find fn = some Extern.BytealgCompare.compare := by
  unfold Extern.findNext Extern.find
  rw [h, h0]
  exact ⟨by kernel_rfl, by kernel_rfl⟩

theorem bcmp_run {P : Program} {f : FuncId} (hf : isCmp P f = true) {C : Addr → Value → Prop} {x y : Value} {l m : List UInt8} (hx : bytesAt C x l) (hy : bytesAt C y m) {W : World} (hC : ∀ a v, C a v → W.cell? a = some v) :
    (callFunc f #[x, y]).run P W = .ok (.value (.int .i64 (Lib.compareBytes l m))) W := by
  unfold isCmp at hf
  split at hf
  · rename_i fn hfn
    simp only [Bool.and_eq_true, Bool.or_eq_true, beq_iff_eq] at hf
    obtain ⟨⟨hb, hn⟩, ho⟩ := hf
    have hne : (fn.name == "runtime.NumGoroutine") = false := by rcases hn with e | e <;> rw [e] <;> decide
    have hfind : Extern.findNext fn = none ∧ Extern.find fn = some Extern.BytealgCompare.compare := by
      rcases hn with e | e
      · exact cmp_find1 e ho
      · exact cmp_find2 e ho
    rw [run_callFunc_extern hfn hne hb hfind.1 hfind.2]
    have : (Extern.BytealgCompare.compare #[x, y]).run P W = .ok (.int .i64 (Lib.compareBytes l m)) W := by
      change Sem.run P (do pure (goInt (Extern.BytealgCompare.cmp (← Extern.Bytes.bytesOf x) (← Extern.Bytes.bytesOf y)))) W = _
      simp only [Sem.run_bind, bytesAt_run hx hC, bytesAt_run hy hC, Result.andThen, Sem.run_pure, goInt, Lib.cmp_eq]
    rw [this]; rfl
  · cases hf

/-- An instruction that only looks: the operation hands back what 'evq' says, and leaves the world. -/
theorem evq_sound {P : Program} {o : Oper} {g : GI} (hd : decI P o = some g) (hq : g.quiet = true) {ρ : Env} {C : Addr → Value → Prop} {v : Value} (h : evq ρ C g v) {E : Operand → Value}
    (hE : ∀ x ∈ o.op.operands, E x = ev ρ x) {W : World} (hC : ∀ a v, C a v → W.cell? a = some v) : (execOp E o).run P W = .ok (.value v) W := by
  obtain ⟨dst, op, type, pos, after, guard⟩ := o
  cases op <;> simp only [decI] at hd
  case move x =>
    simp at hd; subst hd; simp only [evq] at h; subst h
    simp [execOp, hE x (by simp [Op.operands])]
  case assign x =>
    simp at hd; subst hd; simp only [evq] at h; subst h
    simp [execOp, hE x (by simp [Op.operands])]
  case pick c a b =>
    simp at hd; subst hd; simp only [evq] at h; obtain ⟨t, ht, rfl⟩ := h
    simp [execOp, hE c (by simp [Op.operands]), hE a (by simp [Op.operands]), hE b (by simp [Op.operands]), ht, asBool]
  case fieldAddr s x f =>
    split at hd <;> try cases hd
    rename_i fs hu
    split at hd <;> try cases hd
    rename_i fl hf
    split at hd <;> try cases hd
    rename_i i hi
    split at hd <;> try cases hd
    rename_i hn
    simp only [evq] at h; obtain ⟨b, o, hx, rfl⟩ := h
    simp [execOp, Instr.fieldAt, run_underlying hu, hf, hE x (by simp [Op.operands]), hx, Instr.sureAddr, fieldPlace, size_run hi, hn, Addr.add_lit]
  case load t x =>
    cases ha : aggOf P t with
    | none => simp [ha] at hd
    | some n =>
      simp [ha] at hd; subst hd
      cases n with
      | none =>
        simp only [evq] at h; obtain ⟨b, o, hx, hc⟩ := h
        simp [execOp, hE x (by simp [Op.operands]), hx, run_ld1 ha _ _ W (hC _ _ hc)]
      | some n =>
        simp only [evq] at h; obtain ⟨b, o, cs, hx, hl, hc, rfl⟩ := h
        simp [execOp, hE x (by simp [Op.operands]), hx, run_ldn ha _ _ cs hl W (fun i u hu => hC _ _ (hc i u hu))]
  case binOp op t x y yt =>
    have hx := hE x (by simp [Op.operands])
    have hy := hE y (by simp [Op.operands])
    exact bin_sound hd h hx hy
  case unOp op t x =>
    simp at hd; subst hd; simp only [evq] at h
    simp [execOp, hE x (by simp [Op.operands]), unV_run h]
  case convert s t x =>
    have hx := hE x (by simp [Op.operands])
    split at hd <;> try cases hd
    · rename_i k k' h1 h2
      simp only [evq] at h; obtain ⟨j, n, hj, rfl⟩ := h
      simp [execOp, convert, run_underlying h1, run_underlying h2, hx, hj, Conv.intToInt]
    · rename_i h1 h2
      simp only [evq] at h; obtain ⟨⟨s', hs⟩, rfl⟩ := h
      simp [execOp, convert, run_underlying h1, run_underlying h2, hx, hs]
    · rename_i e h1 h2
      split at hd <;> try cases hd
      rename_i h3
      simp only [evq] at h; obtain ⟨a, l, c, ha, h0, hc, rfl⟩ := h
      have := run_b2s (P := P) a l c W h0 (fun a' e i u hu => hC _ _ (hc a' e i u hu))
      simp [execOp, convert, run_underlying h1, run_underlying h2, run_underlying h3, hx, ha, this]
      rename_i h3
      simp only [evq] at h; obtain ⟨a, rs, c, ha, h0, hc, rfl⟩ := h
      have := run_r2s (P := P) a rs c W h0 (fun a' e i u hu => hC _ _ (hc a' e i u hu))
      simp [execOp, convert, run_underlying h1, run_underlying h2, run_underlying h3, hx, ha, this]
    · rename_i e h1 h2
      split at hd <;> try cases hd
      simp [GI.quiet] at hq
  case indexAddr t x i =>
    have hx := hE x (by simp [Op.operands])
    have hi := hE i (by simp [Op.operands])
    split at hd <;> try cases hd
    · rename_i e hu
      split at hd <;> try cases hd
      rename_i f hf
      simp only [evq] at h; obtain ⟨b, o, n, c, k, j, h1, h2, h3, h4, rfl⟩ := h
      simp [execOp, Instr.indexAt, asIntOf, hx, hi, h1, h2, run_underlying hu, h3, h4, size_run hf, Addr.add_lit]
    · rename_i n e hu
      split at hd <;> try cases hd
      rename_i f hf
      simp only [evq] at h; obtain ⟨b, o, k, j, h1, h2, h3, h4, rfl⟩ := h
      simp [execOp, Instr.indexAt, Instr.sureAddr, asIntOf, hx, hi, h1, h2, run_underlying hu, h3, h4, size_run hf, Addr.add_lit]
  case index t x i =>
    have hx := hE x (by simp [Op.operands])
    have hi := hE i (by simp [Op.operands])
    split at hd <;> try cases hd
    rename_i hu
    simp only [evq] at h; obtain ⟨l, k, j, u, h1, h2, h3, h4, rfl⟩ := h
    have h5 : (⟨l.toArray⟩ : ByteArray)[j.toNat]? = some u := by
      obtain ⟨hl, hv⟩ := List.getElem?_eq_some_iff.1 h4
      have hs : j.toNat < (⟨l.toArray⟩ : ByteArray).size := by simpa [ByteArray.size] using hl
      rw [getElem?_pos (⟨l.toArray⟩ : ByteArray) j.toNat hs]
      exact congrArg some hv
    simp [execOp, Instr.index, asIntOf, hx, hi, h1, h2, strV, run_underlying hu, h3, h5, byteV]
  case slice t x lo hi mx =>
    have hx := hE x (by simp [Op.operands])
    have hlo : lo.map E = lo.map (ev ρ) := by cases lo <;> simp; exact hE _ (by simp [Op.operands])
    have hhi : hi.map E = hi.map (ev ρ) := by cases hi <;> simp; exact hE _ (by simp [Op.operands])
    have hmx : mx.map E = mx.map (ev ρ) := by cases mx <;> simp; exact hE _ (by simp [Op.operands])
    split at hd <;> try cases hd
    · rename_i e hu
      split at hd <;> try cases hd
      rename_i f hf
      simp only [evq] at h; obtain ⟨a, n, c, l, h, m, h1, h2, h3, rfl⟩ := h
      have hr := cutV_run (P := P) true n c _ _ _ l h m h3 W
      have ha : (if m = l then a else a.map (·.add (l * f.size))) = (if m = l then a else a.map fun a => ⟨a.block, a.off + l * f.size, none⟩) := by
        split
        · rfl
        · cases a with
          | none => rfl
          | some a =>
            rename_i hml
            obtain ⟨b, o, s⟩ := a; have := h2 hml _ rfl; simp only at this; subst this; simp [Addr.add_lit]
      simp [execOp, Instr.sliceAt, Instr.slice, run_underlying hu, hx, hlo, hhi, hmx, h1, hr, size_run hf, ha]
    · rename_i n e hu
      split at hd <;> try cases hd
      rename_i f hf
      simp only [evq] at h; obtain ⟨b, o, l, h, m, h1, h3, rfl⟩ := h
      have hr := cutV_run (P := P) false n n _ _ _ l h m h3 W
      simp [execOp, Instr.sliceAt, Instr.sureAddr, run_underlying hu, hx, hlo, hhi, hmx, h1, hr, size_run hf, Addr.add_lit]
    · rename_i hu
      split at hd <;> try cases hd
      rename_i hm
      simp only [Bool.not_eq_true, Option.isSome_eq_false_iff, Option.isNone_iff_eq_none] at hm
      subst hm
      simp only [evq] at h; obtain ⟨s, l, h, m, h1, h3, rfl⟩ := h
      have hr := cutV_run (P := P) false s.length s.length _ _ _ l h m h3 W
      have hsz : (⟨s.toArray⟩ : ByteArray).size = s.length := by simp [ByteArray.size]
      have hex : (⟨s.toArray⟩ : ByteArray).extract l h = ⟨((s.drop l).take (h - l)).toArray⟩ := by rw [Lib.extract_eq]
      simp only [execOp, Instr.sliceAt, Instr.slice, Sem.run_bind, run_underlying hu, hx, hlo, hhi, h1, strV, Result.andThen, Option.map_none, Option.isSome_none, Bool.false_eq_true, if_false, hsz, hr, Sem.run_pure, hex]
  case extract x i =>
    simp at hd; subst hd; simp only [evq] at h; obtain ⟨vs, h1, h2⟩ := h
    simp [execOp, Instr.extract, hE x (by simp [Op.operands]), h1, h2]
  case build t parts =>
    split at hd <;> try cases hd
    rename_i fs i hu hi
    split at hd <;> try cases hd
    rename_i z places hz hp
    simp only [evq] at h; obtain ⟨cs, h1, rfl⟩ := h
    have hparts : (parts.map fun (i, x) => (i, E x)).toList = parts.toList.map fun p => (p.1, ev ρ p.2) := by
      rw [Array.toList_map]
      apply List.map_congr_left
      rintro ⟨j, x⟩ hj
      have : E x = ev ρ x := hE x (by simp [Op.operands]; exact ⟨j, by simpa using hj⟩)
      simp [this]
    have hpl : (fs.mapM fun f => do pure (f.offset, ← sizeOf f.type) : Sem (Array (Nat × Nat))).run P W = .ok places.toArray W := by
      have key : ∀ (l : List Field) (r : List (Nat × Nat)), (l.mapM fun f => (P.info? f.type).map fun g => (f.offset, g.size)) = some r →
          (l.mapM fun f => do pure (f.offset, ← sizeOf f.type) : Sem (List (Nat × Nat))).run P W = .ok r W := by
        intro l
        induction l with
        | nil => intro r hr; simp at hr; subst hr; simp
        | cons f l ih =>
          intro r hr
          simp only [List.mapM_cons, Option.bind_eq_bind, Option.bind_eq_some_iff, Option.map_eq_some_iff, Option.pure_def, Option.some.injEq] at hr
          obtain ⟨p, ⟨g, hg, rfl⟩, r', hr', rfl⟩ := hr
          simp only [List.mapM_cons, Sem.run_bind, size_run hg, Result.andThen, Sem.run_pure, ih r' hr']
      rw [Array.mapM_eq_mapM_toList]
      have := key fs.toList places hp
      simp only [Sem.run_map, this, Result.andThen]
    have h1' : Instr.fill (fun (i : Nat) => places.toArray[i]?) z.cells (parts.toList.map fun p => (p.1, ev ρ p.2)) = some cs := by
      have : (fun (i : Nat) => places.toArray[i]?) = (fun (i : Nat) => places[i]?) := by funext i; simp
      rw [this]; simpa using h1
    simp only [execOp, Instr.build, Sem.run_bind, zero_run hi hz, run_underlying hu, hpl, Result.andThen, hparts, h1', Sem.run_pure]
    rename_i n e i hu hi
    split at hd <;> try cases hd
    rename_i z f hz hf
    simp only [evq] at h; obtain ⟨cs, h1, rfl⟩ := h
    have hparts : (parts.map fun (i, x) => (i, E x)).toList = parts.toList.map fun p => (p.1, ev ρ p.2) := by
      rw [Array.toList_map]
      apply List.map_congr_left
      rintro ⟨j, x⟩ hj
      have : E x = ev ρ x := hE x (by simp [Op.operands]; exact ⟨j, by simpa using hj⟩)
      simp [this]
    have h1' : Instr.fill (fun (i : Nat) => some (i * f.size, f.size)) z.cells (parts.toList.map fun p => (p.1, ev ρ p.2)) = some cs := by
      refine fill_mono (fun i x hx => ?_) _ _ _ (by simpa using h1)
      cases e : (List.range n)[i]? with
      | none => rw [e] at hx; cases hx
      | some k =>
        rw [e] at hx
        have : k = i := by have := (List.getElem?_eq_some_iff.1 e).2; simpa using this.symm
        subst this; exact hx
    simp only [execOp, Instr.build, Sem.run_bind, zero_run hi hz, run_underlying hu, size_run hf, Result.andThen, hparts, h1', Sem.run_pure]
  case field t x f =>
    have hx := hE x (by simp [Op.operands])
    split at hd <;> try cases hd
    rename_i fs hu
    split at hd <;> try cases hd
    rename_i fl hf
    cases ha : aggOf P fl.type with
    | none => simp [ha] at hd
    | some n =>
      simp [ha] at hd; subst hd
      have hu2 : ∃ d i, P.underlying fl.type = some d ∧ P.info? fl.type = some i ∧ (match d with | .struct _ | .array _ _ => true | _ => false) = n.isSome ∧ (∀ k, n = some k → k = i.size) := by
        unfold aggOf at ha
        split at ha <;> simp_all
        · subst ha; simp
        · subst ha; simp
        · subst ha; rename_i d i _ _ _ _; cases d <;> simp_all
      obtain ⟨d, i, hu2, hi2, hd2, hn2⟩ := hu2
      have hag : (isAgg fl.type).run P W = .ok n.isSome W := by
        simp only [isAgg, Sem.run_bind, run_underlying hu2, Result.andThen]
        cases d <;> simp_all
      cases n with
      | none =>
        simp only [evq] at h; obtain ⟨cs, h1, h2⟩ := h
        simp [execOp, Instr.field, run_underlying hu, hf, hx, h1, asAgg, part, hag, h2]
      | some n =>
        simp only [evq] at h; obtain ⟨cs, h1, rfl⟩ := h
        simp [execOp, Instr.field, run_underlying hu, hf, hx, h1, asAgg, part, hag, size_run hi2, hn2 n rfl]
  case makeFunc fn first cap =>
    simp at hd; subst hd; simp only [evq] at h; subst h
    have h1 : first.map E = (first.toList.map (ev ρ)).toArray := by
      apply Array.ext'
      simp
      intro x hx; exact hE x (by simp [Op.operands, hx])
    have h2 : cap.map E = (cap.toList.map (ev ρ)).toArray := by
      apply Array.ext'
      simp
      intro x hx; exact hE x (by simp [Op.operands, hx])
    simp only [execOp, Instr.makeFunc, Sem.run_bind, Sem.run_pure, Result.andThen, h1, h2]
  case makeInterface t x =>
    split at hd <;> try cases hd
    rename_i d hu hd2
    simp only [evq] at h; subst h
    have : (Instr.makeInterface t (ev ρ x)).run P W = .ok (.iface t (ev ρ x)) W := by
      simp only [Instr.makeInterface, Sem.run_bind, run_underlying hd2, Result.andThen]
      cases d <;> simp_all
    simp [execOp, hE x (by simp [Op.operands]), this]
  case nilCheck x =>
    simp at hd; subst hd; simp only [evq] at h; obtain ⟨⟨a, ha⟩, rfl⟩ := h
    simp [execOp, hE x (by simp [Op.operands]), ha]
  case call c =>
    obtain ⟨callee, args, ats⟩ := c
    cases callee with
    | value f =>
      cases f with
      | func f =>
        simp only at hd
        split at hd
        · rename_i hcmp
          split at hd <;> try cases hd
          rename_i x y h1
          have ha : args = #[x, y] := by rw [← Array.toArray_toList (xs := args), h1]
          subst ha
          have hx := hE x (by simp [Op.operands, Call.operands])
          have hy := hE y (by simp [Op.operands, Call.operands])
          have hf := hE (.func f) (by simp [Op.operands, Call.operands])
          simp only [evq] at h
          obtain ⟨l, m, h1, h2, rfl⟩ := h
          have hf' : E (.func f) = .func (.func f) #[] #[] := hf
          simp [execOp, resolve, hf', Deferred.ofValue, invoke, hx, hy, bcmp_run hcmp h1 h2 hC]
        · cases hd; simp [GI.quiet] at hq
      | _ => simp at hd; subst hd; simp [GI.quiet] at hq
    | invoke r m => simp at hd
    | builtin b =>
      have hargs : args.map E = (args.toList.map (ev ρ)).toArray := by
        apply Array.ext'
        simp
        intro x hx; exact hE x (by simp [Op.operands, Call.operands, hx])
      cases b <;> simp only at hd
      case len =>
        split at hd <;> try cases hd
        rename_i x t h1 h2
        have ha : args = #[x] := by rw [← Array.toArray_toList (xs := args), h1]
        have hts : ats = #[t] := by rw [← Array.toArray_toList (xs := ats), h2]
        subst ha; subst hts
        have hx := hE x (by simp [Op.operands, Call.operands])
        split at hd <;> try cases hd
        · rename_i hu
          simp only [evq] at h
          obtain ⟨l, h1, rfl⟩ := h
          have hsz : (⟨l.toArray⟩ : ByteArray).size = l.length := by simp [ByteArray.size]
          simp [execOp, resolve, invoke, builtin, Builtin.len_, run_underlying hu, hx, h1, strV, hsz, goInt]
        · rename_i e hu
          simp only [evq] at h
          obtain ⟨a, n, c, h1, rfl⟩ := h
          simp [execOp, resolve, invoke, builtin, Builtin.len_, run_underlying hu, hx, h1, goInt]
      case cap =>
        split at hd <;> try cases hd
        rename_i x t h1 h2
        have ha : args = #[x] := by rw [← Array.toArray_toList (xs := args), h1]
        have hts : ats = #[t] := by rw [← Array.toArray_toList (xs := ats), h2]
        subst ha; subst hts
        have hx := hE x (by simp [Op.operands, Call.operands])
        split at hd <;> try cases hd
        rename_i e hu
        simp only [evq] at h
        obtain ⟨a, n, c, h1, rfl⟩ := h
        simp [execOp, resolve, invoke, builtin, Builtin.cap_, run_underlying hu, hx, h1, goInt]
      case max =>
        split at hd <;> try cases hd
        rename_i x y h1
        have ha : args = #[x, y] := by rw [← Array.toArray_toList (xs := args), h1]
        subst ha
        have hx := hE x (by simp [Op.operands, Call.operands])
        have hy := hE y (by simp [Op.operands, Call.operands])
        simp only [evq] at h
        obtain ⟨k, a, b, h1, h2, rfl⟩ := h
        simp [execOp, resolve, invoke, builtin, Builtin.max_, Builtin.max2, hx, hy, h1, h2]
      case min =>
        split at hd <;> try cases hd
        rename_i x y h1
        have ha : args = #[x, y] := by rw [← Array.toArray_toList (xs := args), h1]
        subst ha
        have hx := hE x (by simp [Op.operands, Call.operands])
        have hy := hE y (by simp [Op.operands, Call.operands])
        simp only [evq] at h
        obtain ⟨k, a, b, h1, h2, rfl⟩ := h
        simp [execOp, resolve, invoke, builtin, Builtin.min_, Builtin.min2, hx, hy, h1, h2]
      case append =>
        split at hd <;> try cases hd
        split at hd <;> try cases hd
        split at hd <;> try cases hd
        split at hd <;> try cases hd
        split at hd <;> try cases hd
        simp [GI.quiet] at hq
      all_goals cases hd
  all_goals first
    | (cases hd; done)
    | (simp at hd; subst hd; simp [GI.quiet] at hq; done)
    | (split at hd <;> first | (cases hd; done) | (simp at hd; subst hd; simp [GI.quiet] at hq; done) | (simp at hd; obtain ⟨_, _, rfl⟩ := hd; simp [GI.quiet] at hq; done) | (split at hd <;> first | (cases hd; done) | (split at hd <;> first | (cases hd; done) | (simp at hd; subst hd; simp [GI.quiet] at hq; done) | (simp at hd; obtain ⟨_, rfl⟩ := hd; simp [GI.quiet] at hq; done))))


end Go.Gk
end

section
/-
  What each instruction does is what the program's operation does, part 2: those that write, make memory or call.
-/
namespace Go.Gk
open Go

def act (n : Nat) (ρ : Env) (ds : List Deferred) : Act := ⟨Array.ofFn (n := n) fun i => ρ i, ds⟩

theorem act_eval {n : Nat} {ρ : Env} {ds : List Deferred} {x : Operand} (h : opndOk n x = true) : (act n ρ ds).eval x = ev ρ x := by
  cases x with
  | tmp t =>
    have : t < n := by simpa [opndOk] using h
    simp [Act.eval, act, ev, this, Array.getD]
  | _ => rfl

theorem act_put {n : Nat} {ρ : Env} {ds : List Deferred} {d : Option Tmp} (h : ∀ t, d = some t → t < n) (v : Value) : (act n ρ ds).put d v = act n (put ρ d v) ds := by
  cases d with
  | none => rfl
  | some t =>
    have ht := h t rfl
    simp only [Act.put, act, put, Act.mk.injEq, and_true]
    apply Array.ext
    · simp
    · intro i h1 h2
      simp only [Array.size_setIfInBounds, Array.size_ofFn] at h1
      rw [Array.getElem_setIfInBounds (by simpa using h1)]
      by_cases e : t = i
      · subst e; simp [upd]
      · have : Nat.beq i t = false := by
          cases hb : Nat.beq i t with
          | false => rfl
          | true => exact absurd (Nat.eq_of_beq_eq_true hb).symm e
        simp [e, upd, this]

theorem HC.cell {d : PHeap} {Lk : List PHeap} {a : Addr} {v : Value} (h : HC d Lk a v) {W : World} (hd : Sub d W) (hl : ∀ k ∈ Lk, Sub k W) : W.cell? a = some v := by
  obtain ⟨hs, k, hk, c, T, fr, hb, hc⟩ := h
  have hW : W.heap[a.block]? = some (.cells c T fr) := by
    rcases hk with rfl | hk
    · exact hd _ _ hb
    · exact hl k hk _ _ hb
  simp [World.cell?, hW, hs, hc]

theorem callFunc_run {P : Program} {f : FuncId} (h : Callable P f) (args : Array Value) (W : World) : (callFunc f args).run P W = .ok (.enter f args) W := by
  obtain ⟨fn, hf, hb, hn⟩ := h
  have hb' : fn.body.isNone = false := by cases e : fn.body <;> simp_all
  simp only [callFunc, Sem.run_bind, run_program, Result.andThen, hf, hn, hb', Bool.false_eq_true, if_false, Sem.run_pure]

theorem getElem?_split {L : List PHeap} {i : Nat} {h : PHeap} (e : L[i]? = some h) (h' : PHeap) : ∃ A B, L = A ++ h :: B ∧ L.set i h' = A ++ h' :: B := by
  obtain ⟨hi, rfl⟩ := List.getElem?_eq_some_iff.1 e
  exact ⟨L.take i, L.drop (i + 1), by simp, by rw [List.set_eq_take_append_cons_drop, if_pos hi]⟩

theorem Ok.front {d h : PHeap} {A B F : List PHeap} {W : World} : Ok (d :: ((A ++ h :: B) ++ F)) W ↔ Ok (h :: d :: ((A ++ B) ++ F)) W := by
  have p : List.Perm (d :: ((A ++ h :: B) ++ F)) (h :: d :: ((A ++ B) ++ F)) := by
    refine (List.Perm.cons d ?_).trans (List.Perm.swap h d _)
    simp only [List.append_assoc, List.cons_append]
    exact List.perm_middle
  exact ⟨fun x => x.perm p, fun x => x.perm p.symm⟩

theorem bx_heap {b : Nat} {T : TypeId} {l : List Value} {W : World} (h : Sub (bx b T l) W) : W.heap[b]? = some (.cells l.toArray T (0, 0)) := h b _ (sg_self _ _)

theorem patch_eq (l : List Value) (o : Nat) (vs : List Value) : (l.toArray.toList.take o ++ vs ++ l.toArray.toList.drop (o + vs.length)).toArray = (patch l o vs).toArray := rfl

theorem setRow_eq (W : World) (g : Nat) (cs cs' : Array Value) (T : TypeId) (fr : Nat × Nat) (h : W.heap[g]? = some (.cells cs T fr)) : (W.setRow g cs').heap = W.heap.setIfInBounds g (.cells cs' T fr) := by
  simp only [World.setRow]
  apply Array.ext_getElem?
  intro i
  rw [Array.getElem?_modify, Array.getElem?_setIfInBounds]
  obtain ⟨hg, _⟩ := Array.getElem?_eq_some_iff.1 h
  by_cases e : g = i
  · subst e; obtain ⟨_, hv⟩ := Array.getElem?_eq_some_iff.1 h; simp [hg, hv]
  · simp [e]

/-- Cells of an owned block are written. -/
theorem Ok.patched {d : PHeap} {L F : List PHeap} {W : World} {i b o : Nat} {T : TypeId} {l vs : List Value} (x : Ok (d :: (L ++ F)) W) (hi : L[i]? = some (bx b T l)) (hl : o + vs.length ≤ l.length)
    (h1 : (vs.all (·.oneCell')) = true) (P : Program) : ∃ W', (storeCells ⟨b, o, none⟩ vs).run P W = .ok () W' ∧ Ok (d :: (L.set i (bx b T (patch l o vs)) ++ F)) W' ∧ Keep W W' := by
  obtain ⟨A, B, rfl, e2⟩ := getElem?_split hi (bx b T (patch l o vs))
  have y := Ok.front.1 x
  have hb := bx_heap y.head
  have hr := run_storeCells_at P b o T vs 0 l.toArray W hb (by simpa using hl) (by simpa using h1)
  refine ⟨_, hr, ?_, ?_⟩
  · rw [e2]
    refine Ok.front.2 ?_
    refine y.write _ ?_
    rw [setRow_eq W b _ _ T (0, 0) hb]
    simp [patch]
  · exact ⟨rfl, rfl, rfl, by simp [World.setRow]⟩

theorem zrow_eq (z : Array Value) (n : Nat) (hz : n ≠ 0 → 0 < z.size) : ((Array.range n).map (z[· % z.size]!)) = (zrow z.toList n).toArray := by
  apply Array.ext'
  simp only [Array.toList_map, Array.toList_range, zrow]
  apply List.map_congr_left
  intro i hi
  have hn : n ≠ 0 := by rintro rfl; simp at hi
  have := Nat.mod_lt i (hz hn)
  simp [List.getD, this, Array.length_toList]

theorem zeroCells_eq (z : Array Value) (n sz : Nat) (hz : z.size = sz) (h0 : 0 < sz) : Builtin.zeroCells z n = (zrow z.toList (n * sz)).toArray := by
  subst hz
  unfold Builtin.zeroCells
  exact zrow_eq z _ (fun _ => h0)

end Go.Gk
end

section
/-
  What each instruction does is what the program's operation does, part 3: the join of all.
-/
namespace Go.Gk
open Go

theorem gi_quiet {P : Program} {pan : List PanicEntry → Post} {ρ : Env} {d : PHeap} {Lk L : List PHeap} {K : Value → Post} {g : GI} (hq : g.quiet = true) :
    gi P pan ρ d Lk L K g = ∃ v, evq ρ (HC d Lk) g v ∧ K v d L := by
  cases g <;> first | rfl | (simp [GI.quiet] at hq; done) | (rename_i n x; cases n <;> rfl) | (rename_i n o x; cases n <;> rfl)

theorem upon_value' {P : Program} {o : Oper} {a : Act} {W W' : World} {v : Value} {nxt : Act → World → Prop} {Q : Exit → Act → World → Prop}
    (hr : (execOp a.eval o).run P W = .ok (.value v) W') (h : nxt (a.put o.dst v) W') : o.wp P a W nxt Q := by
  unfold Oper.wp; rw [hr]; exact h
theorem upon_skip' {P : Program} {o : Oper} {a : Act} {W W' : World} {nxt : Act → World → Prop} {Q : Exit → Act → World → Prop}
    (hr : (execOp a.eval o).run P W = .ok .skip W') (h : nxt (a.put o.dst undef) W') : o.wp P a W nxt Q := by
  unfold Oper.wp; rw [hr]; exact h
theorem upon_enter' {P : Program} {o : Oper} {a : Act} {W : World} {f : FuncId} {args : Array Value} {nxt : Act → World → Prop} {Q : Exit → Act → World → Prop}
    (hr : (execOp a.eval o).run P W = .ok (.enter f args) W) (h : Calls P f args W fun
      | .returned v, w'' => nxt (a.put o.dst v) w''
      | .panicked chain, w'' => Q (.panic chain) a w''
      | .outgrown, _ => LetsOut Q) : o.wp P a W nxt Q := by
  unfold Oper.wp; rw [hr]; exact h
theorem upon_panic' {P : Program} {o : Oper} {a : Act} {W : World} {v : Value} {nxt : Act → World → Prop} {Q : Exit → Act → World → Prop}
    (hr : (execOp a.eval o).run P W = .halt (.panic v) W) (h : Q (.panic [{ v, recovered := false }]) a W) : o.wp P a W nxt Q := by
  unfold Oper.wp; rw [hr]; exact h

theorem Ok.push {d : PHeap} {L F : List PHeap} {W : World} (x : Ok (d :: (L ++ F)) W) (o : Obj) : Ok (d :: ((sg W.heap.size o :: L) ++ F)) (W.alloc o) :=
  (x.alloc o).perm (List.Perm.swap _ _ _)

theorem keep_alloc (W : World) (o : Obj) : Keep W (W.alloc o) := ⟨rfl, rfl, rfl, by show W.heap.size ≤ (W.heap.push o).size; simp⟩

theorem storeVar_run {P : Program} {t : TypeId} {i : TypeInfo} (hi : P.info? t = some i) {v : Value} (hs : v.cells.size = i.size) (a : Addr) (W : World) :
    (storeVar t a v).run P W = (storeCells a v.cells.toList).run P W := by
  simp [storeVar, size_run hi, hs]

theorem append_fits_run {P : Program} {t t' ty e : TypeId} {i : TypeInfo} {e' : TypeId} (ht : P.underlying t = some (.slice e)) (ht' : P.underlying t' = some (.slice e')) (hi : P.info? e = some i)
    {sa xa : Option Addr} {n c m xc : Nat} {news : List Value} (hl : news.length = m * i.size) {W : World} (hx0 : xa = none → news = [])
    (hx : ∀ a', xa = some a' → ∀ j u, news[j]? = some u → W.cell? (a'.add j) = some u) (hfit : n + m ≤ c) :
    (Builtin.append_ #[t, t'] ty #[.slice sa n c, .slice xa m xc]).run P W =
      (match sa with
       | some a => (storeCells (a.add (n * i.size)) news).run P W
       | none => .ok () W).andThen fun _ W' => .ok (.slice sa (n + m) c) W' := by
  have hf : (Builtin.firstCells i.size m (.slice xa m xc)).run P W = .ok news.toArray W := by
    cases xa with
    | none => rw [hx0 rfl]; simp [Builtin.firstCells]
    | some a =>
      exact run_firstCells_some W i.size m a m xc news hl (fun j v hj => hx _ rfl j v hj)
  cases sa <;> simp [Builtin.append_, run_underlying ht, run_underlying ht', size_run hi, Builtin.lenOf, hfit, hf]

theorem append_grows_run {P : Program} {t t' ty e : TypeId} {i : TypeInfo} {e' : TypeId} {z : Value} (ht : P.underlying t = some (.slice e)) (ht' : P.underlying t' = some (.slice e')) (hi : P.info? e = some i)
    (hz : i.zero = some z) (hb : i.bytes ≠ 0)
    {sa xa : Option Addr} {n c m xc : Nat} {news olds : List Value} (hl : news.length = m * i.size) (hlo : olds.length = n * i.size) {W : World} (hx0 : xa = none → news = [])
    (hx : ∀ a', xa = some a' → ∀ j u, news[j]? = some u → W.cell? (a'.add j) = some u) (hs0 : sa = none → olds = [])
    (hs : ∀ a', sa = some a' → ∀ j u, olds[j]? = some u → W.cell? (a'.add j) = some u) (hfit : c < n + m) (hmax : n + m ≤ maxLen) (hbytes : (n + m) * i.bytes ≤ 2 ^ 47) :
    ∃ c', n + m ≤ c' ∧ c' ≤ maxLen ∧ (Builtin.append_ #[t, t'] ty #[.slice sa n c, .slice xa m xc]).run P W =
      .ok (.slice (some ⟨W.heap.size, 0, none⟩) (n + m) c') (W.drew.alloc (.cells (olds.toArray ++ news.toArray ++ Builtin.zeroCells z.cells (c' - (n + m))) e)) := by
  have hf : ∀ W', (∀ a, W'.cell? a = W.cell? a) → (Builtin.firstCells i.size m (.slice xa m xc)).run P W' = .ok news.toArray W' := by
    intro W' hW
    cases xa with
    | none => rw [hx0 rfl]; simp [Builtin.firstCells]
    | some a =>
      exact run_firstCells_some W' i.size m a m xc news hl (fun j v hj => by rw [hW]; exact hx _ rfl j v hj)
  have hfo : ∀ W', (∀ a, W'.cell? a = W.cell? a) → (Builtin.firstCells i.size n (.slice sa n c)).run P W' = .ok olds.toArray W' := by
    intro W' hW
    cases sa with
    | none => rw [hs0 rfl]; simp [Builtin.firstCells]
    | some a =>
      exact run_firstCells_some W' i.size n a n c olds hlo (fun j v hj => by rw [hW]; exact hs _ rfl j v hj)
  refine ⟨grownCap W (n + m) c e, grownCap_ge W _ _ _, grownCap_le_maxLen W _ _ _ hmax, ?_⟩
  have hn : ¬ (n + m ≤ c) := by omega
  have h48 := growslice_fits (need := n + m) (old := c) (bytes := i.bytes) hfit (by simpa using hbytes)
  have h48' : ¬ (281474976710656 < Builtin.nextslicecap (n + m) c * i.bytes) := by omega
  have hfd := hf W.drew (fun a => by simp)
  have hfod := hfo W.drew (fun a => by simp)
  simp [Builtin.append_, run_underlying ht, run_underlying ht', size_run hi, info_run hi, zero_run hi hz, Builtin.lenOf, hn, hb, h48', Question.forced, hfd, hfod, newRow, grownCap]
  simp only [← Array.append_assoc, List.append_toArray]

theorem map_eval {n : Nat} {ρ : Env} {ds : List Deferred} (args : Array Operand) (h : ∀ x ∈ args, opndOk n x = true) : args.map (act n ρ ds).eval = (args.toList.map (ev ρ)).toArray := by
  apply Array.ext'
  simp
  intro x hx; exact act_eval (h x hx)

theorem parts_eval {n : Nat} {ρ : Env} {ds : List Deferred} (parts : Array (Nat × Operand)) (h : ∀ p ∈ parts, opndOk n p.2 = true) :
    (parts.map fun (i, x) => (i, (act n ρ ds).eval x)).toList = parts.toList.map fun p => (p.1, ev ρ p.2) := by
  rw [Array.toList_map]
  apply List.map_congr_left
  rintro ⟨j, x⟩ hj
  have := act_eval (ρ := ρ) (ds := ds) (h ⟨j, x⟩ (by simpa using hj))
  simp [this]

theorem gi_sound {P : Program} {o : Oper} {g : GI} {n : Nat} {ds : List Deferred} (hd : decI P o = some g) (hop : ∀ x ∈ o.op.operands, opndOk n x = true)
    {pan : List PanicEntry → Post} {ρ : Env} {d : PHeap} {Lk L F : List PHeap} {K : Value → Post} {W : World} (hOk : Ok (d :: (L ++ F)) W) (hl : ∀ k ∈ Lk, Sub k W)
    (h : gi P pan ρ d Lk L K g) {Q : Exit → Act → World → Prop} {nxt : Act → World → Prop}
    (hK : ∀ v d' L' W', Ok (d' :: (L' ++ F)) W' → Le d d' → Keep W W' → K v d' L' → nxt ((act n ρ ds).put o.dst v) W')
    (hP : ∀ c d' L' W', Ok (d' :: (L' ++ F)) W' → Le d d' → Keep W W' → pan c d' L' → Q (.panic c) (act n ρ ds) W') : o.wp P (act n ρ ds) W nxt Q := by
  by_cases hq : g.quiet = true
  · rw [gi_quiet hq] at h
    obtain ⟨v, h1, h2⟩ := h
    exact upon_value' (evq_sound hd hq h1 (fun x hx => act_eval (hop x hx)) (fun a v hc => hc.cell hOk.head hl)) (hK v d L W hOk (Le.refl d) (Keep.refl W) h2)
  · obtain ⟨dst, op, type, pos, after, guard⟩ := o
    have contract : ∀ (f : FuncId) (args : List Value) (L1 L2 : List PHeap) (R : Ending → PHeap → List PHeap → Prop), L = L1 ++ L2 → GCall P f args d L1 R →
        (∀ e d' L', Le d d' → R e d' L' → match e with | .returned v => K v d' (L' ++ L2) | .panicked c => pan c d' (L' ++ L2) | .outgrown => False) →
        (execOp (act n ρ ds).eval ⟨dst, op, type, pos, after, guard⟩).run P W = .ok (.enter f args.toArray) W →
        Oper.wp P ⟨dst, op, type, pos, after, guard⟩ (act n ρ ds) W nxt Q := by
      intro f args L1 L2 R hL hc hR hr
      subst hL
      refine upon_enter' hr ((hc.2 (L2 ++ F) W (by rwa [← List.append_assoc])).mono ?_)
      rintro e W' ⟨d', L', h1, h2, h3, h4⟩
      have h5 := hR e d' L' h2 h4
      rw [← List.append_assoc] at h1
      cases e with
      | returned v => exact hK v d' _ W' h1 h2 h3 h5
      | panicked c => exact hP c d' _ W' h1 h2 h3 h5
      | outgrown => exact h5.elim
    cases op <;> simp only [decI] at hd
    case box t x =>
      simp at hd; subst hd
      refine upon_value' (W' := W.alloc (.cells (ev ρ x).cells t)) (v := .pointer (some ⟨W.heap.size, 0, none⟩)) ?_ ?_
      · simp [execOp, act_eval (hop x (by simp [Op.operands])), Instr.box, newVar, newRow]
      · have := h W.heap.size t
        refine hK _ d _ _ ?_ (Le.refl d) (keep_alloc _ _) this
        have := hOk.push (.cells (ev ρ x).cells t)
        simpa [bx] using this
    case alloc t =>
      split at hd <;> try cases hd
      rename_i i hi
      simp at hd
      obtain ⟨z, hz, rfl⟩ := hd
      refine upon_value' (W' := W.alloc (.cells z.cells t)) (v := .pointer (some ⟨W.heap.size, 0, none⟩)) ?_ ?_
      · simp [execOp, Instr.alloc, zero_run hi hz, newVar, newRow]
      · refine hK _ d _ _ ?_ (Le.refl d) (keep_alloc _ _) (h W.heap.size t)
        have := hOk.push (.cells z.cells t)
        simpa [bx] using this
    case store t a x =>
      split at hd <;> try cases hd
      rename_i i hi
      obtain ⟨j, b, off, T, l, h1, h2, h3, h4, h5, h6⟩ := h
      obtain ⟨W', hr, ho, hk⟩ := hOk.patched h1 (o := off) (vs := (ev ρ x).cells.toList) (by simp [h3]; exact h4) h5 P
      refine upon_skip' (W' := W') ?_ (hK _ d _ W' ho (Le.refl d) hk h6)
      simp [execOp, act_eval (hop x (by simp [Op.operands])), act_eval (hop a (by simp [Op.operands])), h2, Instr.storeAt, Instr.sureAddr, storeVar_run hi h3, hr]
    case buildSlice t m parts =>
      split at hd <;> try cases hd
      rename_i e hu
      split at hd <;> try cases hd
      rename_i i hi
      split at hd <;> try cases hd
      rename_i z hz
      split at hd <;> try cases hd
      rename_i hzs
      obtain ⟨h1, cs, h2, h3⟩ := h
      have hp := parts_eval (ρ := ρ) (ds := ds) parts (fun p hp => hop p.2 (by simp [Op.operands]; exact ⟨p.1, by simpa using hp⟩))
      refine upon_value' (W' := W.alloc (.cells cs e)) (v := .slice (some ⟨W.heap.size, 0, none⟩) m m) ?_ ?_
      · have hsz : ¬ (m * i.size > 2 ^ 24) := by omega
        by_cases h0 : m * i.size = 0
        · have hzz : ((Array.range (m * i.size)).map ((#[] : Array Value)[· % (#[] : Array Value).size]!)) = (zrow z.cells.toList (m * i.size)).toArray := by rw [h0]; simp [zrow]
          simp only [execOp, Instr.buildSlice, Sem.run_bind, run_underlying hu, size_run hi, Result.andThen, if_neg hsz, if_pos h0, Sem.run_pure, hzz, hp, h2, newRow, run_newObj]
          rfl
        · have hzz : ((Array.range (m * i.size)).map (z.cells[· % z.cells.size]!)) = (zrow z.cells.toList (m * i.size)).toArray :=
            zrow_eq z.cells _ (fun _ => by rw [hzs]; exact Nat.pos_of_ne_zero (fun e => h0 (by rw [e, Nat.mul_zero])))
          simp only [execOp, Instr.buildSlice, Sem.run_bind, run_underlying hu, size_run hi, Result.andThen, if_neg hsz, if_neg h0, zero_run hi hz, Sem.run_pure, hzz, hp, h2, newRow, run_newObj]
          rfl
      · refine hK _ d _ _ ?_ (Le.refl d) (keep_alloc _ _) (h3 W.heap.size e)
        have := hOk.push (.cells cs e)
        simpa [bx] using this
    case makeSlice t a b =>
      split at hd <;> try cases hd
      rename_i e hu
      split at hd <;> try cases hd
      rename_i i hi
      split at hd <;> try cases hd
      rename_i z hz
      split at hd <;> try cases hd
      rename_i hzs
      obtain ⟨k, k', m, c, h1, h2, h3, h4, h5, h6⟩ := h
      refine upon_value' (W' := W.alloc (.cells (zrow z.cells.toList (c * i.size)).toArray e)) (v := .slice (some ⟨W.heap.size, 0, none⟩) m c) ?_ ?_
      · have hE1 := act_eval (ρ := ρ) (ds := ds) (hop a (by simp [Op.operands]))
        have hE2 := act_eval (ρ := ρ) (ds := ds) (hop b (by simp [Op.operands]))
        have hc63 : (c : Int) ≤ 9223372036854775807 := by simp only [maxLen] at h4; omega
        have w1 : IntKind.i64.wrap (m : Int) = m := by simp [IntKind.wrap, IntKind.signed, IntKind.bits]; omega
        have w2 : IntKind.i64.wrap (c : Int) = c := by simp [IntKind.wrap, IntKind.signed, IntKind.bits]; omega
        have hb : ¬ ((i.bytes : Int) * c > 2 ^ 48) := by
          have h5' : i.bytes * c ≤ 281474976710656 := h5
          have h5'' : ((i.bytes * c : Nat) : Int) ≤ 281474976710656 := by omega
          rw [Int.natCast_mul] at h5''
          have e48 : (2 : Int) ^ 48 = 281474976710656 := by decide
          rw [e48]; omega
        have ht : ((decide ((c : Int) < 0) || decide ((i.bytes : Int) * c > 2 ^ 48)) || decide ((m : Int) < 0) || decide ((m : Int) > c)) = false := by
          simp only [Bool.or_eq_false_iff, decide_eq_false_iff_not]
          refine ⟨⟨⟨by omega, hb⟩, by omega⟩, by omega⟩
        by_cases h0 : c * i.size = 0
        · have hzz : ((Array.range (c * i.size)).map ((#[] : Array Value)[· % (#[] : Array Value).size]!)) = (zrow z.cells.toList (c * i.size)).toArray := by rw [h0]; simp [zrow]
          simp only [execOp, Instr.makeSlice, Sem.run_bind, run_underlying hu, Result.andThen, hE1, hE2, h1, h2, asInt, asIntOf, Sem.run_pure, info_run hi, size_run hi, w1, w2, ht, Bool.false_eq_true, if_false, if_pos h0, run_askRoom, Int.toNat_natCast, hzz, newRow, run_newObj]
          rfl
        · have hzz : ((Array.range (c * i.size)).map (z.cells[· % z.cells.size]!)) = (zrow z.cells.toList (c * i.size)).toArray :=
            zrow_eq z.cells _ (fun _ => by rw [hzs]; exact Nat.pos_of_ne_zero (fun e => h0 (by rw [e, Nat.mul_zero])))
          simp only [execOp, Instr.makeSlice, Sem.run_bind, run_underlying hu, Result.andThen, hE1, hE2, h1, h2, asInt, asIntOf, Sem.run_pure, info_run hi, size_run hi, w1, w2, ht, Bool.false_eq_true, if_false, if_neg h0, zero_run hi hz, run_askRoom, Int.toNat_natCast, hzz, newRow, run_newObj]
          rfl
      · refine hK _ d _ _ ?_ (Le.refl d) (keep_alloc _ _) (h6 W.heap.size e)
        have := hOk.push (.cells (zrow z.cells.toList (c * i.size)).toArray e)
        simpa [bx] using this
    case convert s t x =>
      split at hd <;> try cases hd
      · exact absurd rfl hq
      · exact absurd rfl hq
      · split at hd <;> try cases hd
        · exact absurd rfl hq
        · exact absurd rfl hq
      · rename_i e h1 h2
        split at hd <;> try cases hd
        rename_i h3
        obtain ⟨l, hx, hlen, hk⟩ := h
        obtain ⟨c, hc1, hc2, hr⟩ := run_s2r (P := P) e l W hlen
        refine upon_value' (W' := W.drew.alloc (.cells (runesL l ++ List.replicate (c - (runesL l).length) (Value.int .i32 0)).toArray e)) (v := .slice (some ⟨W.heap.size, 0, none⟩) (runesL l).length c) ?_ ?_
        · simp only [execOp, convert, Sem.run_bind, run_underlying h1, run_underlying h2, run_underlying h3, act_eval (hop x (by simp [Op.operands])), hx, strV, Result.andThen, hr, Sem.run_pure]
        · refine hK _ d _ _ ?_ (Le.refl d) ?_ (hk W.heap.size e c hc1 hc2)
          · exact (hOk.drew).push _
          · exact ⟨rfl, rfl, rfl, by show W.heap.size ≤ (W.heap.push _).size; simp⟩
    case panic x =>
      simp at hd; subst hd
      obtain ⟨t, v, h1, h2⟩ := h
      refine upon_panic' (v := .iface t v) ?_ (hP _ d L W hOk (Le.refl d) (Keep.refl W) h2)
      have hE := act_eval (ρ := ρ) (ds := ds) (hop x (by simp [Op.operands]))
      simp [execOp, hE, h1, Instr.panic]
    case call c =>
      obtain ⟨callee, args, ats⟩ := c
      cases callee with
      | value f =>
        cases f with
        | func f =>
          simp only at hd
          split at hd
          · split at hd
            · cases hd; exact absurd rfl hq
            · cases hd
          cases hd
          obtain ⟨L1, L2, R, hL, hc, hR⟩ := h
          refine contract f _ L1 L2 R hL hc hR ?_
          have ha := map_eval (ρ := ρ) (ds := ds) args (fun x hx => hop x (by simp [Op.operands, Call.operands, hx]))
          simp [execOp, resolve, Act.eval, Deferred.ofValue, invoke, ha, callFunc_run hc.1]
        | _ =>
          simp at hd; subst hd
          obtain ⟨f', first, cap, L1, L2, R, hf, hL, hc, hR⟩ := h
          refine contract f' _ L1 L2 R hL hc hR ?_
          have ha := map_eval (ρ := ρ) (ds := ds) args (fun x hx => hop x (by simp [Op.operands, Call.operands, hx]))
          have hfv := act_eval (ρ := ρ) (ds := ds) (hop _ (by simp [Op.operands, Call.operands]; exact Or.inl rfl))
          have hargs : first ++ (args.toList.map (ev ρ)).toArray ++ cap = (first.toList ++ args.toList.map (ev ρ) ++ cap.toList).toArray := by
            apply Array.ext'; simp
          simp only [execOp, resolve, Sem.run_bind, hfv, hf, Deferred.ofValue, Sem.run_pure, Result.andThen, invoke, ha, hargs, callFunc_run hc.1]
      | invoke r m => simp at hd
      | builtin b =>
        cases b <;> simp only at hd
        case append =>
          split at hd <;> try cases hd
          rename_i s x t t' h1 h2
          have ha : args = #[s, x] := by rw [← Array.toArray_toList (xs := args), h1]
          have hts : ats = #[t, t'] := by rw [← Array.toArray_toList (xs := ats), h2]
          subst ha; subst hts
          have hs := act_eval (ρ := ρ) (ds := ds) (hop s (by simp [Op.operands, Call.operands]))
          have hx := act_eval (ρ := ρ) (ds := ds) (hop x (by simp [Op.operands, Call.operands]))
          split at hd <;> try cases hd
          rename_i e e' hu hu'
          split at hd <;> try cases hd
          rename_i i hi
          split at hd <;> try cases hd
          rename_i z hz
          split at hd <;> try cases hd
          rename_i hsz
          simp only [not_or, Decidable.not_not] at hsz
          obtain ⟨hz0, hb0, hzs⟩ := hsz
          obtain ⟨sa, m, c, xa, m', xc, news, e1, e2, hl1, hone, hx0, hxc, hmax, hcmax, hfits, hgrows⟩ := h
          have hlk : ∀ k ∈ Lk ++ L, Sub k W := by
            intro k hk
            rcases List.mem_append.1 hk with hk | hk
            · exact hl k hk
            · exact hOk.2 k (by simp [hk])
          have hxc' : ∀ a', xa = some a' → ∀ j u, news[j]? = some u → W.cell? (a'.add j) = some u :=
            fun a' ha j u hj => (hxc a' ha j u hj).cell hOk.head hlk
          have hexec : ∀ (r : Result Value), (Builtin.append_ #[t, t'] type #[.slice sa m c, .slice xa m' xc]).run P W = r →
              (execOp (act n ρ ds).eval ⟨dst, .call ⟨.builtin .append, #[s, x], #[t, t']⟩, type, pos, after, guard⟩).run P W = r.andThen fun v W' => .ok (.value v) W' := by
            intro r hr
            simp [execOp, resolve, invoke, builtin, hs, hx, e1, e2, hr]
          rcases Nat.lt_or_ge c (m + m') with hlt | hge
          · obtain ⟨hby, olds, ho1, ho2, ho3, hK2⟩ := hgrows hlt
            have hoc : ∀ a', sa = some a' → ∀ j u, olds[j]? = some u → W.cell? (a'.add j) = some u :=
              fun a' ha j u hj => (ho3 a' ha j u hj).cell hOk.head hlk
            obtain ⟨c', hc1, hc2, hr⟩ := append_grows_run (ty := type) hu hu' hi hz hb0 hl1 ho1 hx0 hxc' ho2 hoc hlt hmax hby
            refine upon_value' (hexec _ hr) ?_
            rw [zeroCells_eq z.cells _ i.size hzs (by omega)]
            refine hK _ d _ _ ?_ (Le.refl d) ?_ (hK2 W.heap.size e c' hc1 hc2)
            · have e : (olds ++ news ++ zrow z.cells.toList ((c' - (m + m')) * i.size)).toArray = olds.toArray ++ news.toArray ++ (zrow z.cells.toList ((c' - (m + m')) * i.size)).toArray := by simp
              unfold bx
              rw [e]
              exact (hOk.drew).push _
            · exact ⟨rfl, rfl, rfl, by show W.heap.size ≤ (W.heap.push _).size; simp⟩
          · have hr := append_fits_run (ty := type) (n := m) (c := c) (sa := sa) (xc := xc) hu hu' hi hl1 hx0 hxc' hge
            rcases hfits hge with ⟨rfl, hk⟩ | ⟨j, b, o, T, l, rfl, hj, hol, hk⟩
            · have h0 : (match sa with | some a => (storeCells (a.add (m * i.size)) []).run P W | none => .ok () W) = .ok () W := by
                cases sa with
                | none => rfl
                | some a => simp [storeCells]
              rw [h0] at hr
              simp only [Result.andThen] at hr
              exact upon_value' (hexec _ hr) (hK _ d L W hOk (Le.refl d) (Keep.refl W) hk)
            · have hlen : o + m * i.size + news.length ≤ l.length := by rw [hl1]; rw [Nat.add_mul] at hol; omega
              obtain ⟨W', hst, ho, hkp⟩ := hOk.patched hj (o := o + m * i.size) (vs := news) hlen hone P
              simp only [Addr.add_lit, hst, Result.andThen] at hr
              exact upon_value' (hexec _ hr) (hK _ d _ W' ho (Le.refl d) hkp hk)
        all_goals first
          | (cases hd; done)
          | (exfalso; apply hq; split at hd <;> first | (cases hd; done) | (simp at hd; subst hd; rfl) | (split at hd <;> first | (cases hd; done) | (simp at hd; subst hd; rfl)))
    all_goals first
      | (cases hd; done)
      | (exfalso; apply hq; simp at hd; subst hd; rfl)
      | (exfalso; apply hq; simp at hd; obtain ⟨_, _, rfl⟩ := hd; rfl)
      | (exfalso; apply hq; split at hd <;> first | (cases hd; done) | (simp at hd; subst hd; rfl) | (simp at hd; obtain ⟨_, rfl⟩ := hd; rfl) | (simp at hd; obtain ⟨_, _, rfl⟩ := hd; rfl) | (split at hd <;> first | (cases hd; done) | (simp at hd; subst hd; rfl) | (simp at hd; obtain ⟨_, rfl⟩ := hd; rfl) | (simp at hd; obtain ⟨_, _, rfl⟩ := hd; rfl) | (split at hd <;> first | (cases hd; done) | (simp at hd; subst hd; rfl) | (simp at hd; obtain ⟨_, rfl⟩ := hd; rfl) | (simp at hd; obtain ⟨_, _, rfl⟩ := hd; rfl))))

end Go.Gk
end

section
/-
  Regions and structured code: the predicate transformer is sound, whatever order a region draws; the contract of a function from the transformer over its code.
-/
namespace Go.Gk
open Go

theorem Ok.le {d d' : PHeap} {hs : List PHeap} {W : World} (x : Ok (d :: hs) W) (h : Le d' d) : Ok (d' :: hs) W := by
  rw [Ok.cons_iff] at *
  exact ⟨x.1.le h, fun k hk => (x.2.1 k hk).le h, x.2.2⟩

def lift (n : Nat) (ds : List Deferred) (F : List PHeap) (W0 : World) (d0 : PHeap) (Q : GPost) : Exit → Act → World → Prop
  | .normal, a, W => ∃ ρ d L, a = act n ρ ds ∧ Ok (d :: (L ++ F)) W ∧ Le d0 d ∧ Keep W0 W ∧ Q.n ρ d L
  | .exit i, a, W => ∃ ρ d L, a = act n ρ ds ∧ Ok (d :: (L ++ F)) W ∧ Le d0 d ∧ Keep W0 W ∧ Q.ex i ρ d L
  | .ret, a, W => ∃ ρ d L, a = act n ρ ds ∧ Ok (d :: (L ++ F)) W ∧ Le d0 d ∧ Keep W0 W ∧ Q.ret ρ d L
  | .panic c, a, W => a.defers = ds ∧ ∃ d L, Ok (d :: (L ++ F)) W ∧ Le d0 d ∧ Keep W0 W ∧ Q.pan c d L
  | _, _, _ => False

theorem decOp_spec {P : Program} {n : Nat} {ops : Array Oper} {o : Oper} {g : GOp} (h : decOp P n ops o = some g) :
    (∀ x ∈ o.op.operands, opndOk n x = true) ∧ (∀ t, o.dst = some t → t < n) ∧ (∀ cs b, o.op ≠ .select cs b) ∧ decI P o = some g.i ∧ g.dst = o.dst ∧
    ((o.guard = none ∧ g.guard = none) ∨ ∃ j want t, o.guard = some (j, want) ∧ (ops[j]?).bind (·.dst) = some t ∧ t < n ∧ g.guard = some (t, want)) := by
  unfold decOp at h
  split at h
  · rename_i hc
    simp only [Bool.and_eq_true] at hc
    obtain ⟨⟨h1, h2⟩, h3⟩ := hc
    have h1' : ∀ x ∈ o.op.operands, opndOk n x = true := by
      intro x hx
      exact (List.all_eq_true.1 h1) x (by simpa using hx)
    have h2' : ∀ t, o.dst = some t → t < n := by
      intro t ht; rw [ht] at h2; simpa [dstOk] using h2
    have h3' : ∀ cs b, o.op ≠ .select cs b := by
      intro cs b e; rw [e] at h3; simp [noSel] at h3
    split at h
    · cases h
    · rename_i i hi
      split at h
      · rename_i hg; cases h; exact ⟨h1', h2', h3', hi, rfl, .inl ⟨hg, rfl⟩⟩
      · rename_i j want hg
        split at h
        · rename_i t ht
          split at h
          · rename_i htn; cases h; exact ⟨h1', h2', h3', hi, rfl, .inr ⟨j, want, t, hg, ht, htn, rfl⟩⟩
          · cases h
        · cases h
  · cases h

theorem wanted_act {n : Nat} {ρ : Env} {ds : List Deferred} {ops : Array Oper} {o : Oper} {j t : Nat} {want b : Bool} (hg : o.guard = some (j, want)) (ht : (ops[j]?).bind (·.dst) = some t) (htn : t < n)
    (hb : ρ t = .bool b) : Region.wanted o (yielded ops (act n ρ ds).tmps) = (b == want) := by
  have : yielded ops (act n ρ ds).tmps j = some b := by
    unfold yielded
    have h2 : (act n ρ ds).tmps[t]? = some (.bool b) := by simp [act, htn, hb]
    simp only [ht, Option.bind_some, h2]
  simp [Region.wanted, hg, this]

theorem wanted_undef {n : Nat} {ρ : Env} {ds : List Deferred} {ops : Array Oper} {o : Oper} {j t : Nat} {want : Bool} (hg : o.guard = some (j, want)) (ht : (ops[j]?).bind (·.dst) = some t) (htn : t < n)
    (hb : ρ t = undef) : Region.wanted o (yielded ops (act n ρ ds).tmps) = false := by
  have : yielded ops (act n ρ ds).tmps j = none := by
    unfold yielded
    have h2 : (act n ρ ds).tmps[t]? = some undef := by simp [act, htn, hb]
    simp only [ht, Option.bind_some, h2, undef]
  simp [Region.wanted, hg, this]

theorem gop_sound {P : Program} {n : Nat} {ds : List Deferred} {ops : Array Oper} {i : Nat} {o : Oper} {g : GOp} (hi : ops[i]? = some o) (hd : decOp P n ops o = some g)
    {pan : List PanicEntry → Post} {ρ : Env} {d : PHeap} {Lk L F : List PHeap} {K : Env → Post} {W : World} (hOk : Ok (d :: (L ++ F)) W) (hl : ∀ k ∈ Lk, Sub k W)
    (h : gop P pan g ρ d Lk L K) {Q : Exit → Act → World → Prop} {nxt : Act → World → Prop}
    (hK : ∀ ρ' d' L' W', Ok (d' :: (L' ++ F)) W' → Le d d' → Keep W W' → K ρ' d' L' → nxt (act n ρ' ds) W')
    (hP : ∀ c d' L' W', Ok (d' :: (L' ++ F)) W' → Le d d' → Keep W W' → pan c d' L' → Q (.panic c) (act n ρ ds) W') : wpOp P ops Q i nxt (act n ρ ds) W := by
  obtain ⟨hop, hdst, _, hdi, hgd, hgu⟩ := decOp_spec hd
  unfold wpOp
  simp only [hi]
  have run : gi P pan ρ d Lk L (fun v d' L' => K (put ρ g.dst v) d' L') g.i → o.wp P (act n ρ ds) W nxt Q := by
    intro h'
    refine gi_sound hdi hop hOk hl h' ?_ hP
    intro v d' L' W' h1 h2 h3 h4
    rw [act_put hdst, ← hgd]
    exact hK _ _ _ _ h1 h2 h3 h4
  rcases hgu with ⟨hg, hg'⟩ | ⟨j, want, t, hg, ht, htn, hg'⟩
  · have : Region.wanted o (yielded ops (act n ρ ds).tmps) = true := by simp [Region.wanted, hg]
    simp only [this, if_true]
    simp only [gop, hg'] at h
    exact .inl (run h)
  · simp only [gop, hg'] at h
    rcases h with ⟨b, hb, h1, h2⟩ | ⟨hb, h2⟩
    case inr =>
      rw [wanted_undef hg ht htn hb]
      simp only [Bool.false_eq_true, if_false]
      rw [act_put hdst, ← hgd]
      exact hK _ _ _ _ hOk (Le.refl d) (Keep.refl W) h2
    rw [wanted_act hg ht htn hb]
    by_cases e : b = want
    · subst e
      simp only [beq_self_eq_true, if_true]
      exact .inl (run (h1 rfl))
    · have e' : (b == want) = false := by simpa using e
      simp only [e', Bool.false_eq_true, if_false]
      rw [act_put hdst, ← hgd]
      exact hK _ _ _ _ hOk (Le.refl d) (Keep.refl W) (h2 (by cases b <;> cases want <;> simp_all))

/-! ### A region in the text's order -/
theorem straight_sound {P : Program} {n : Nat} {ds : List Deferred} {ops : Array Oper} {Q : GPost} {F : List PHeap} {W0 : World} {d0 : PHeap} : ∀ (l : List Nat) (s : GS), toGS P n ops (straight l) = some s →
    ∀ (ρ : Env) (d : PHeap) (L : List PHeap) (W : World), gws P Q.pan Q.n s [] ρ d L → Ok (d :: (L ++ F)) W → Le d0 d → Keep W0 W → wpOps P ops (lift n ds F W0 d0 Q) l (act n ρ ds) W
  | [], s, hs, ρ, d, L, W, h, hOk, hle, hk => by
    simp [straight, toGS] at hs; subst hs
    obtain ⟨d1, L1, hv, hq⟩ := h
    exact ⟨ρ, d1, L1, rfl, hv.2 F W (by simpa using hOk), hle.trans hv.1, hk, hq⟩
  | i :: l, s, hs, ρ, d, L, W, h, hOk, hle, hk => by
    simp only [straight, toGS] at hs
    split at hs <;> try cases hs
    rename_i g s' hg hs'
    rw [Option.bind_eq_some_iff] at hg
    obtain ⟨o, ho, hd⟩ := hg
    obtain ⟨d1, L1, hv, h⟩ := h
    rw [wpOps_cons]
    have hOk1 := hv.2 F W hOk
    refine gop_sound ho hd hOk1 (fun k hk => hOk1.2 k (by simp at hk; simp [hk])) h ?_ ?_
    · intro ρ' d' L' W' h1 h2 h3 ⟨d2, L2, hv2, h4⟩
      exact straight_sound l s' hs' ρ' d2 L2 W' h4 (hv2.2 F W' h1) (hle.trans ((hv.1.trans h2).trans hv2.1)) (hk.trans h3)
    · intro c d' L' W' h1 h2 h3 h4
      exact ⟨rfl, d', L', h1, hle.trans (hv.1.trans h2), hk.trans h3, h4⟩

/-! ### A region that draws its order -/
section
variable {P : Program} {ops : Array Oper} {Q : Exit → Act → World → Prop}

/-- Whatever order is picked; S holds behind every operation that is carried out. -/
def AnyB (P : Program) (ops : Array Oper) (Q : Exit → Act → World → Prop) (S : Bool → World → Prop) (bs : List Bool) : Nat → Array Bool → Act → World → Prop
  | 0, listed, a, w => Region.ready .any ops listed = [] ∧ Q .normal a w
  | k + 1, listed, a, w => (Region.ready .any ops listed = [] → Q .normal a w) ∧
    ∀ i ∈ Region.ready .any ops listed, wpOp P ops Q i (fun a' w' => S (bs.getD i false) w' ∧ AnyB P ops Q S bs k (listed.setIfInBounds i true) a' w') a w

theorem AnyB.any {S : Bool → World → Prop} {bs : List Bool} : ∀ (k : Nat) (listed : Array Bool) (a : Act) (w : World), AnyB P ops Q S bs k listed a w → wpAny P .any ops Q k listed a w
  | 0, _, _, _, h => h
  | k + 1, _, _, _, h => ⟨h.1, fun i hi => wpOp_mono (fun a' w' h' => AnyB.any k _ a' w' h'.2) (h.2 i hi)⟩

theorem AnyB.mono {S S' : Bool → World → Prop} {bs : List Bool} (hs : ∀ b w, S' b w → S b w) : ∀ (k : Nat) (listed : Array Bool) (a : Act) (w : World), AnyB P ops Q S' bs k listed a w → AnyB P ops Q S bs k listed a w
  | 0, _, _, _, h => h
  | k + 1, _, _, _, h => ⟨h.1, fun i hi => wpOp_mono (fun a' w' h' => ⟨hs _ _ h'.1, AnyB.mono hs k _ a' w' h'.2⟩) (h.2 i hi)⟩

theorem AnyB.done {S : Bool → World → Prop} {bs : List Bool} {listed : Array Bool} {a : Act} {w : World} (hr : Region.ready .any ops listed = []) (h : Q .normal a w) : ∀ k, AnyB P ops Q S bs k listed a w
  | 0 => ⟨hr, h⟩
  | _ + 1 => ⟨fun _ => h, by rw [hr]; simp⟩

theorem lastOk_spec {bs : List Bool} (h : lastOk ops bs = true) {i j : Nat} {oi oj : Oper} (hi : ops[i]? = some oi) (hj : ops[j]? = some oj) (bj : bs.getD j false = true) (bi : bs.getD i false = false) :
    ∃ e ∈ oj.after, Region.binds .any e = true ∧ e.on = i := by
  have hil := (Array.getElem?_eq_some_iff.1 hi).1
  have hjl := (Array.getElem?_eq_some_iff.1 hj).1
  simp only [lastOk, List.all_eq_true, List.mem_range, Bool.or_eq_true] at h
  have h1 := h j hjl
  rw [bj] at h1
  rcases h1 with h1 | h1
  · cases h1
  · rcases h1 i hil with h2 | h2
    · rw [bi] at h2; cases h2
    · rw [hj] at h2
      simp only [Option.any_some, waits] at h2
      obtain ⟨e, he, hb⟩ := Array.any_eq_true'.1 h2
      simp only [Bool.and_eq_true, beq_iff_eq] at hb
      exact ⟨e, he, hb.1, hb.2⟩

theorem AnyB.first {S : Bool → World → Prop} {bs : List Bool} {i : Nat} {oi : Oper} {v : Value} (hi : ops[i]? = some oi) (hsel : ∀ (j : Nat) (o : Oper) cs b, ops[j]? = some o → o.op ≠ .select cs b)
    (hQ : ∀ c a w, Q (.panic c) (a.put oi.dst v) w → Q (.panic c) a w) (hlast : lastOk ops bs = true) (hS : ∀ w, S false w → S true w) :
    ∀ (k : Nat) (listed : Array Bool) (a : Act) (w : World),
      (∀ j oj, ops[j]? = some oj → j ≠ i → listed.getD j true = false → (∀ e ∈ oj.after, Region.binds .any e = true → e.on ≠ i) → oi.apart ops oj = true) →
      i ∈ Region.ready .any ops listed → YieldsIf P ops (S (bs.getD i false)) oi v a → S (bs.getD i false) w →
      AnyB P ops Q S bs k (listed.setIfInBounds i true) (a.put oi.dst v) w → AnyB P ops Q S bs (k + 1) listed a w := by
  intro k
  induction k with
  | zero =>
    intro listed a w _ hr hy hSw H
    refine ⟨fun h => (by rw [h] at hr; cases hr), fun j hj => ?_⟩
    by_cases hji : j = i
    · subst hji; exact hy.wpOp hi hSw ⟨hSw, H⟩
    · have := ready_mono hj hji
      rw [H.1] at this
      cases this
  | succ k ih =>
    intro listed a w hfree hr hy hSw H
    refine ⟨fun h => (by rw [h] at hr; cases hr), fun j hj => ?_⟩
    by_cases hji : j = i
    · subst hji; exact hy.wpOp hi hSw ⟨hSw, H⟩
    · have h1 := H.2 j (ready_mono hj hji)
      obtain ⟨hjun, oj, hoj, hall⟩ := mem_ready.1 hj
      have hnot : ∀ e ∈ oj.after, Region.binds .any e = true → e.on ≠ i := fun e he hb heq => by
        have h1 := hall e he hb
        have h0 := (mem_ready.1 hr).1
        rw [heq] at h1
        rcases Nat.lt_or_ge i listed.size with h' | h'
        · simp [h'] at h0 h1; rw [h0] at h1; cases h1
        · simp [Array.getElem?_eq_none h'] at h1
      have hSj : ∀ w', S (bs.getD j false) w' → S (bs.getD i false) w' := by
        intro w' hw'
        cases bi : bs.getD i false with
        | true => cases bj : bs.getD j false with
          | true => rw [bj] at hw'; exact hw'
          | false => rw [bj] at hw'; exact hS _ hw'
        | false => cases bj : bs.getD j false with
          | false => rw [bj] at hw'; exact hw'
          | true =>
            obtain ⟨e, he, hb, hon⟩ := lastOk_spec hlast hi hoj bj bi
            exact absurd hon (hnot e he hb)
      have h2 := wpOp_putIf hoj (hfree j oj hoj hji hjun hnot) (fun cs b => hsel i oi cs b hi) (fun cs b => hsel j oj cs b hoj) hQ hy h1
      have hfree' : ∀ k ok, ops[k]? = some ok → k ≠ i → (listed.setIfInBounds j true).getD k true = false →
          (∀ e ∈ ok.after, Region.binds .any e = true → e.on ≠ i) → oi.apart ops ok = true := fun k ok hk hki hun hno => by
        refine hfree k ok hk hki ?_ hno
        by_cases hjk : j = k
        · subst hjk; exact hjun
        · rw [getD_set_ne true hjk] at hun; exact hun
      refine wpOp_mono (fun a' w' h3 => ⟨h3.2.1, ih (listed.setIfInBounds j true) a' w' hfree' (ready_mono hr (Ne.symm hji)) h3.1 (hSj _ h3.2.1) ?_⟩) h2
      rw [Array.setIfInBounds_comm _ _ hji]
      exact h3.2.2
end

/-- What stays true of the world while some operations may be pending. -/
def St (past : Bool) (d : PHeap) (Ls F : List PHeap) (b : Bool) (w : World) : Prop := Ok (d :: F) w ∧ (b = false → past = false ∧ Ok (d :: (Ls ++ F)) w)

theorem St.le {past : Bool} {d d' : PHeap} {Ls F : List PHeap} {b : Bool} {w : World} (h : St past d Ls F b w) (hl : Le d' d) : St past d' Ls F b w :=
  ⟨h.1.le hl, fun e => ⟨(h.2 e).1, (h.2 e).2.le hl⟩⟩

theorem any_sound {P : Program} {n : Nat} {ds : List Deferred} {ops : Array Oper} {Q : GPost} {F : List PHeap} {W0 : World} {d0 : PHeap} {bs : List Bool} (hsel : Region.noSelect ops = true) (hlast : lastOk ops bs = true) :
    ∀ (si : SI) (top past : Bool) (listed : Array Bool) (s : GS) (ρ : Env) (d : PHeap) (L Ls : List PHeap) (k : Nat) (W : World), chk ops (quietAt P ops) bs top past listed si = true → toGS P n ops si = some s → (past = true → Ls = []) →
      gws P Q.pan Q.n s Ls ρ d L → Ok (d :: (L ++ (Ls ++ F))) W → Le d0 d → Keep W0 W → si.steps ≤ k →
      (top = true → AnyB P ops (lift n ds F W0 d0 Q) (St past d Ls F) bs k listed (act n ρ ds) W) ∧
      (top = false → ∀ i ∈ si.heads, wpOp P ops (lift n ds F W0 d0 Q) i (fun a' w' => St past d Ls F (bs.getD i false) w' ∧ AnyB P ops (lift n ds F W0 d0 Q) (St past d Ls F) bs (k - 1) (listed.setIfInBounds i true) a' w') (act n ρ ds) W) := by
  have okS : ∀ {past : Bool} {d : PHeap} {L Ls F : List PHeap} {W : World} {b : Bool}, Ok (d :: (L ++ (Ls ++ F))) W → past = b → St past d Ls F b W := by
    intro past d L Ls F W b x e
    have x1 : Ok (d :: (Ls ++ F)) W := x.sub (List.Sublist.cons_cons d (List.sublist_append_right L _))
    exact ⟨x1.sub (List.Sublist.cons_cons d (List.sublist_append_right Ls F)), fun hb => ⟨e.trans hb, x1⟩⟩
  have front : ∀ {d : PHeap} {L Ls F : List PHeap} {W : World}, Ok (d :: (L ++ (Ls ++ F))) W → Ok (d :: ((Ls ++ L) ++ F)) W := by
    intro d L Ls F W x
    exact x.perm (List.Perm.cons d (by rw [← List.append_assoc]; exact (List.perm_append_comm).append_right F))
  intro si
  induction si with
  | done =>
    intro top past listed s ρ d L Ls k W hc hs hp h hOk hle hk hst
    simp only [chk, Bool.and_eq_true, beq_iff_eq] at hc
    simp [toGS] at hs; subst hs
    obtain ⟨d1, L1, hv, hq⟩ := h
    exact ⟨fun _ => AnyB.done hc.2 ⟨ρ, d1, L1, rfl, hv.2 F W (front hOk), hle.trans hv.1, hk, hq⟩ k, fun ht => by rw [ht] at hc; simp at hc⟩
  | op tk i si ih =>
    intro top past listed s ρ d L Ls k W hc hs hp h hOk hle hk hst
    simp only [toGS] at hs
    split at hs <;> try cases hs
    rename_i g s' hg hs'
    rw [Option.bind_eq_some_iff] at hg
    obtain ⟨o, ho, hd⟩ := hg
    obtain ⟨hop, hdst, _, hdi, hgd, hgu⟩ := decOp_spec hd
    simp only [SI.steps] at hst
    obtain ⟨k, rfl⟩ : ∃ k', k = k' + 1 := ⟨k - 1, by omega⟩
    cases tk with
    | true =>
      simp only [chk, Bool.and_eq_true, beq_iff_eq] at hc
      obtain ⟨⟨⟨⟨⟨ht, hqi⟩, hpb⟩, hf⟩, hr⟩, hc'⟩ := hc
      have hquiet : g.i.quiet = true := by
        simp only [quietAt, ho, Option.bind_some, hdi, Option.any_some] at hqi
        exact hqi
      refine ⟨fun _ => ?_, fun ht' => by rw [ht'] at ht; cases ht⟩
      have goOn : ∀ v, YieldsIf P ops (St past d Ls F (bs.getD i false)) o v (act n ρ ds) → gws P Q.pan Q.n s' Ls (put ρ g.dst v) d L →
          AnyB P ops (lift n ds F W0 d0 Q) (St past d Ls F) bs (k + 1) listed (act n ρ ds) W := by
        intro v hy hw
        refine AnyB.first ho (Region.noSelect_spec hsel) (fun c a w hh => ?_) hlast (fun w hw => ⟨hw.1, fun e => by cases e⟩) k listed _ W (Region.free_spec ho hf) (by simpa using hr) hy (okS hOk hpb) ?_
        · obtain ⟨h1, h2⟩ := hh
          refine ⟨?_, h2⟩
          cases hdd : o.dst with
          | none => rw [hdd] at h1; exact h1
          | some t => rw [hdd] at h1; exact h1
        · rw [act_put hdst, ← hgd]
          exact ((ih true past _ s' _ d L Ls k W hc' hs' hp hw hOk hle hk (by omega)).1 rfl)
      have look : ∀ w, St past d Ls F (bs.getD i false) w → ∀ a v, HC d Ls a v → w.cell? a = some v := by
        intro w hw a v hc
        refine hc.cell hw.1.head (fun q hq => ?_)
        cases hbi : bs.getD i false with
        | true => rw [hbi] at hpb; rw [hp hpb] at hq; cases hq
        | false => exact (hw.2 hbi).2.2 q (by simp [hq])
      rcases hgu with ⟨hgn, hg'⟩ | ⟨j, want, t, hgn, ht2, htn, hg'⟩
      · simp only [gws, gop, hg'] at h
        rw [gi_quiet hquiet] at h
        obtain ⟨v, hv, hK⟩ := h
        refine goOn v (.inl ⟨by simp [Region.wanted, hgn], fun w hw => ?_⟩) hK
        exact evq_sound hdi hquiet hv (fun x hx => act_eval (hop x hx)) (look w hw)
      · simp only [gws, gop, hg'] at h
        rcases h with ⟨b, hb, h1, h2⟩ | ⟨hb, h2⟩
        case inr => exact goOn undef (.inr ⟨wanted_undef hgn ht2 htn hb, rfl⟩) h2
        by_cases e : b = want
        · have h1 := h1 e
          rw [gi_quiet hquiet] at h1
          obtain ⟨v, hv, hK⟩ := h1
          refine goOn v (.inl ⟨by rw [wanted_act hgn ht2 htn hb]; simp [e], fun w hw => ?_⟩) hK
          exact evq_sound hdi hquiet hv (fun x hx => act_eval (hop x hx)) (look w hw)
        · refine goOn undef (.inr ⟨by rw [wanted_act hgn ht2 htn hb]; simpa using e, rfl⟩) (h2 (by cases b <;> cases want <;> simp_all))
    | false =>
      simp only [chk, Bool.and_eq_true, beq_iff_eq] at hc
      obtain ⟨⟨hr, hpb⟩, hc'⟩ := hc
      obtain ⟨d1, L1, hv, h⟩ := h
      have hOk1 := hv.2 (Ls ++ F) W hOk
      have step : wpOp P ops (lift n ds F W0 d0 Q) i (fun a' w' => St past d Ls F (bs.getD i false) w' ∧ AnyB P ops (lift n ds F W0 d0 Q) (St past d Ls F) bs k (listed.setIfInBounds i true) a' w') (act n ρ ds) W := by
        refine gop_sound ho hd hOk1 (fun q hq => hOk1.2 q (by simp at hq; rcases hq with hq | hq <;> simp [hq])) h ?_ ?_
        · intro ρ' d' L' W' h1 h2 h3 ⟨d2, L2, hv2, h4⟩
          have hdd := hv.1.trans h2
          refine ⟨(okS h1 hpb).le hdd, ?_⟩
          exact AnyB.mono (fun b w hw => hw.le (hdd.trans hv2.1)) _ _ _ _ ((ih true past _ s' ρ' d2 L2 Ls k W' hc' hs' hp h4 (hv2.2 _ W' h1) (hle.trans (hdd.trans hv2.1)) (hk.trans h3) (by omega)).1 rfl)
        · intro c d' L' W' h1 h2 h3 h4
          exact ⟨rfl, d', Ls ++ L', front h1, hle.trans (hv.1.trans h2), hk.trans h3, h4⟩
      refine ⟨fun ht => ?_, fun _ j hj => ?_⟩
      · rw [ht] at hr
        simp only [Bool.not_true, Bool.false_or, beq_iff_eq] at hr
        refine ⟨fun h0 => by rw [h0] at hr; simp at hr, fun j hj => ?_⟩
        rw [hr] at hj
        simp at hj; subst hj
        exact step
      · simp only [SI.heads, List.mem_singleton] at hj
        subst hj
        exact step
  | alt i si ti ih1 ih2 =>
    intro top past listed s ρ d L Ls k W hc hs hp h hOk hle hk hst
    simp only [toGS] at hs
    split at hs <;> try cases hs
    rename_i g s' t' hg hs' ht'
    rw [Option.bind_eq_some_iff] at hg
    obtain ⟨o, ho, hd⟩ := hg
    simp only [SI.steps] at hst
    obtain ⟨k, rfl⟩ : ∃ k', k = k' + 1 := ⟨k - 1, by omega⟩
    simp only [chk, Bool.and_eq_true, beq_iff_eq] at hc
    obtain ⟨⟨⟨hr, hpb⟩, hc1⟩, hc2⟩ := hc
    obtain ⟨⟨d1, L1, hv, h⟩, hrest⟩ := h
    have hOk1 := hv.2 (Ls ++ F) W hOk
    have step : wpOp P ops (lift n ds F W0 d0 Q) i (fun a' w' => St past d Ls F (bs.getD i false) w' ∧ AnyB P ops (lift n ds F W0 d0 Q) (St past d Ls F) bs k (listed.setIfInBounds i true) a' w') (act n ρ ds) W := by
      refine gop_sound ho hd hOk1 (fun q hq => hOk1.2 q (by simp at hq; rcases hq with hq | hq <;> simp [hq])) h ?_ ?_
      · intro ρ' d' L' W' h1 h2 h3 ⟨d2, L2, hv2, h4⟩
        have hdd := hv.1.trans h2
        refine ⟨(okS h1 hpb).le hdd, ?_⟩
        exact AnyB.mono (fun b w hw => hw.le (hdd.trans hv2.1)) _ _ _ _ ((ih1 true past _ s' ρ' d2 L2 Ls k W' hc1 hs' hp h4 (hv2.2 _ W' h1) (hle.trans (hdd.trans hv2.1)) (hk.trans h3) (by omega)).1 rfl)
      · intro c d' L' W' h1 h2 h3 h4
        exact ⟨rfl, d', Ls ++ L', front h1, hle.trans (hv.1.trans h2), hk.trans h3, h4⟩
    have others := (ih2 false past listed t' ρ d L Ls (k + 1) W hc2 ht' hp hrest hOk hle hk (by omega)).2 rfl
    have all : ∀ j ∈ i :: ti.heads, wpOp P ops (lift n ds F W0 d0 Q) j (fun a' w' => St past d Ls F (bs.getD j false) w' ∧ AnyB P ops (lift n ds F W0 d0 Q) (St past d Ls F) bs k (listed.setIfInBounds j true) a' w') (act n ρ ds) W := by
      intro j hj
      rcases List.mem_cons.1 hj with rfl | hj
      · exact step
      · exact others j hj
    refine ⟨fun ht => ?_, fun _ j hj => all j hj⟩
    rw [ht] at hr
    simp only [Bool.not_true, Bool.false_or, beq_iff_eq] at hr
    refine ⟨fun h0 => by rw [h0] at hr; simp at hr, fun j hj => ?_⟩
    rw [hr] at hj
    exact all j hj
  | bar si ih =>
    intro top past listed s ρ d L Ls k W hc hs hp h hOk hle hk hst
    simp only [chk, Bool.and_eq_true, Bool.not_eq_true'] at hc
    obtain ⟨⟨ht, hpf⟩, hc'⟩ := hc
    simp only [toGS, Option.map_eq_some_iff] at hs
    obtain ⟨s', hs', rfl⟩ := hs
    simp only [gws] at h
    refine ⟨fun _ => ?_, fun ht' => by rw [ht'] at ht; cases ht⟩
    have := (ih true true listed s' ρ d (Ls ++ L) [] k W hc' hs' (fun _ => rfl) h (by simpa using front hOk) hle hk hst).1 rfl
    exact AnyB.mono (fun b w hw => ⟨hw.1, fun e => by have := (hw.2 e).1; cases this⟩) _ _ _ _ this

theorem region_drawn {P : Program} {n : Nat} {ds : List Deferred} {ops : Array Oper} {Q : GPost} {F : List PHeap} {W0 : World} {d0 : PHeap} {id : Nat} (hm : P.follows .mixedOrders = true)
    {s : GS} (hs : decR P n ops true = some s) {ρ : Env} {d : PHeap} {L Ls : List PHeap} {W : World} (h : gws P Q.pan Q.n s Ls ρ d L) (hOk : Ok (d :: (L ++ (Ls ++ F))) W) (hle : Le d0 d) (hk : Keep W0 W) :
    (Code.region id ops true).wp P (lift n ds F W0 d0 Q) (act n ρ ds) W := by
  simp only [decR] at hs
  split at hs
  · rename_i hc
    simp only [Bool.and_eq_true, decide_eq_true_eq] at hc
    obtain ⟨⟨⟨h1, h2⟩, h3⟩, h4⟩ := hc
    refine wp_region_any hm (AnyB.any _ _ _ _ ((any_sound h1 h2 _ true false _ s ρ d L Ls ops.size _ h4 hs (fun e => by cases e) h hOk.drew hle ?_ h3).1 rfl))
    exact hk.trans ⟨rfl, rfl, rfl, Nat.le_refl _⟩
  · cases hs

/-! ### Structured code -/
theorem gwp_sound {P : Program} {n : Nat} {ds : List Deferred} {F : List PHeap} {W0 : World} {d0 : PHeap} (hm : P.follows .mixedOrders = true) :
    ∀ (c : Code) (Q : GPost) (ρ : Env) (d : PHeap) (L : List PHeap) (W : World), gwp P (decC P n c) Q ρ d L → Ok (d :: (L ++ F)) W → Le d0 d → Keep W0 W → c.wp P (lift n ds F W0 d0 Q) (act n ρ ds) W := by
  intro c
  induction c with
  | skip =>
    intro Q ρ d L W h hOk hle hk
    exact wp_skip ⟨ρ, d, L, rfl, hOk, hle, hk, h⟩
  | region id ops drawn =>
    intro Q ρ d L W h hOk hle hk
    simp only [decC] at h
    cases hs : decR P n ops drawn with
    | none => rw [hs] at h; exact h.elim
    | some s =>
    rw [hs] at h
    cases drawn with
    | false =>
      simp only [decR] at hs
      exact wp_region (straight_sound _ s hs ρ d L W h hOk hle hk)
    | true =>
      obtain ⟨d1, Ls, L1, hv, h⟩ := h
      have hOk1 := hv.2 F W hOk
      refine region_drawn hm hs h (hOk1.perm (List.Perm.cons d1 ?_)) (hle.trans hv.1) hk
      rw [← List.append_assoc]
      exact (List.perm_append_comm).append_right F
  | seq a b iha ihb =>
    intro Q ρ d L W h hOk hle hk
    refine wp_seq (wp_mono (iha _ ρ d L W h hOk hle hk) ?_)
    intro e a w hq
    cases e with
    | normal =>
      obtain ⟨ρ', d', L', rfl, h1, h2, h3, h4⟩ := hq
      exact ihb Q ρ' d' L' w h4 h1 h2 h3
    | _ => exact hq
  | cond c a b iha ihb =>
    intro Q ρ d L W h hOk hle hk
    simp only [decC] at h
    split at h
    · rename_i hc
      obtain ⟨t, ht, h1, h2⟩ := h
      exact wp_cond_split (by rw [act_eval hc]; exact ht) (fun e => iha Q ρ d L W (h1 e) hOk hle hk) (fun e => ihb Q ρ d L W (h2 e) hOk hle hk)
    · exact h.elim
  | block id a iha =>
    intro Q ρ d L W h hOk hle hk
    refine wp_block (wp_mono (iha _ ρ d L W h hOk hle hk) ?_)
    intro e a w hq
    cases e with
    | exit i =>
      obtain ⟨ρ', d', L', rfl, h1, h2, h3, h4⟩ := hq
      simp only [Exit.inBlock]
      by_cases e : i = id
      · simp only [e, if_true] at h4 ⊢
        exact ⟨ρ', d', L', rfl, h1, h2, h3, h4⟩
      · simp only [if_neg e] at h4 ⊢
        exact ⟨ρ', d', L', rfl, h1, h2, h3, h4⟩
    | _ => exact hq
  | loop a iha =>
    intro Q ρ d L W h hOk hle hk
    obtain ⟨I, ⟨m, hI⟩, round⟩ := h
    refine wp_loop_ghost (fun m a w => ∃ ρ d L, a = act n ρ ds ∧ Ok (d :: (L ++ F)) w ∧ Le d0 d ∧ Keep W0 w ∧ I m ρ d L) m ⟨ρ, d, L, rfl, hOk, hle, hk, hI⟩ ?_
    rintro m a w ⟨ρ', d', L', rfl, h1, h2, h3, h4⟩
    refine wp_mono (iha _ ρ' d' L' w (round m ρ' d' L' h4) h1 h2 h3) ?_
    intro e a w hq
    cases e with
    | normal =>
      obtain ⟨ρ'', d'', L'', rfl, k1, k2, k3, m', k4, k5⟩ := hq
      exact ⟨m', k4, ρ'', d'', L'', rfl, k1, k2, k3, k5⟩
    | _ => exact hq
  | exit id =>
    intro Q ρ d L W h hOk hle hk
    exact wp_exit ⟨ρ, d, L, rfl, hOk, hle, hk, h⟩
  | ret =>
    intro Q ρ d L W h hOk hle hk
    exact wp_ret ⟨ρ, d, L, rfl, hOk, hle, hk, h⟩
  | _ => intro Q ρ d L W h; exact h.elim

/-! ### The contract of a function -/
def resOne (ρ : Env) (C : Addr → Value → Prop) : GRes → Value → Prop
  | .tmp t, v => v = ρ t
  | .cell t n, v => evq ρ C (.ld n (.tmp t)) v

def resAll (ρ : Env) (C : Addr → Value → Prop) : List GRes → List Value → Prop
  | [], [] => True
  | r :: rs, v :: vs => resOne ρ C r v ∧ resAll ρ C rs vs
  | _, _ => False

def resV : List Value → Value
  | [v] => v
  | vs => .tuple vs.toArray

/-- Where the body returns: the results, and what is left of the blocks. -/
def retPost (res : List GRes) (R : Ending → PHeap → List PHeap → Prop) (ρ : Env) (d : PHeap) (L : List PHeap) : Prop :=
  ∃ vs, resAll ρ (HC d L) res vs ∧ ∃ d' L', Vs d L d' L' ∧ R (.returned (resV vs)) d' L'

def mkPost (res : List GRes) (R : Ending → PHeap → List PHeap → Prop) : GPost :=
  { n := retPost res R, ex := fun _ _ _ _ => False, ret := retPost res R, pan := fun c d L => ∃ d' L', Vs d L d' L' ∧ R (.panicked c) d' L' }

def env0 (args : List Value) : Env := fun i => args.getD i undef

def res1 (tmps : Array Value) : ResultVar → Sem Value
  | .tmp t => pure (tmps.getD t undef)
  | .cell a t => do loadVar t (← asAddr (tmps.getD a undef))
theorem results_eq (fn : Func) (tmps : Array Value) : results fn tmps = (do let vs ← fn.results.mapM (res1 tmps); pure (if h : vs.size = 1 then vs[0] else .tuple vs)) := rfl

theorem results_run {P : Program} {n : Nat} {ρ : Env} {ds : List Deferred} {d : PHeap} {L : List PHeap} {W : World} (hl : ∀ a v, HC d L a v → W.cell? a = some v) :
    ∀ (rs : List ResultVar) (gs : List GRes) (vs : List Value), rs.mapM (decRes P n) = some gs → resAll ρ (HC d L) gs vs →
      (rs.mapM (res1 (act n ρ ds).tmps)).run P W = .ok vs W
  | [], gs, vs, hg, h => by
    simp at hg; subst hg
    cases vs with
    | nil => simp
    | cons => simp [resAll] at h
  | r :: rs, gs, vs, hg, h => by
    simp only [List.mapM_cons, Option.bind_eq_bind, Option.bind_eq_some_iff, Option.pure_def, Option.some.injEq] at hg
    obtain ⟨g, hr, gs', hgs, rfl⟩ := hg
    cases vs with
    | nil => simp [resAll] at h
    | cons v vs =>
      obtain ⟨h1, h2⟩ := h
      have ih := results_run (ds := ds) hl rs gs' vs hgs h2
      have get : ∀ t, t < n → (act n ρ ds).tmps.getD t undef = ρ t := by
        intro t ht; simp [act, ht, Array.getD]
      simp only [List.mapM_cons, Sem.run_bind]
      have one : (res1 (act n ρ ds).tmps r).run P W = .ok v W := by
        cases r with
        | tmp t =>
          simp only [decRes] at hr
          split at hr <;> try cases hr
          rename_i ht
          simp only [resOne] at h1; subst h1
          simp only [res1, get t ht, Sem.run_pure]
        | cell t ty =>
          simp only [decRes] at hr
          split at hr <;> try cases hr
          rename_i ht
          simp only [Option.map_eq_some_iff] at hr
          obtain ⟨m, hm, rfl⟩ := hr
          simp only [resOne] at h1
          have ldv : ∀ a, (loadVar ty a).run P W = (Instr.loadAt ty (.pointer (some a))).run P W := by intro a; simp [Instr.loadAt, Instr.sureAddr]
          cases m with
          | none =>
            obtain ⟨b, o, e1, e2⟩ := h1
            have e1 : ρ t = .pointer (some ⟨b, o, none⟩) := e1
            simp only [res1, Sem.run_bind, get t ht, e1, asAddr, Sem.run_pure, Result.andThen, ldv, run_ld1 hm _ _ W (hl _ _ e2)]
          | some m =>
            obtain ⟨b, o, cs, e1, e2, e3, rfl⟩ := h1
            have e1 : ρ t = .pointer (some ⟨b, o, none⟩) := e1
            simp only [res1, Sem.run_bind, get t ht, e1, asAddr, Sem.run_pure, Result.andThen, ldv, run_ldn hm b o cs e2 W (fun i u hu => hl _ _ (e3 i u hu))]
      rw [one]
      simp only [Result.andThen, ih, Sem.run_pure]

theorem GCall_of {P : Program} {f : FuncId} {g : GFun} (hd : dec P f = some g) {args : List Value} (ha : args.length ≤ g.n) {d : PHeap} {L : List PHeap} {R : Ending → PHeap → List PHeap → Prop}
    (h : gwp P g.code (mkPost g.res R) (env0 args) d L) : GCall P f args d L R := by
  simp only [dec] at hd
  split at hd <;> try cases hd
  rename_i fn hf
  split at hd <;> try cases hd
  rename_i hn
  split at hd <;> try cases hd
  rename_i c hb
  rw [Option.map_eq_some_iff] at hd
  obtain ⟨rs, hr, rfl⟩ := hd
  simp only [Bool.or_eq_true, not_or, Bool.not_eq_true, Bool.not_eq_false'] at hn
  refine ⟨⟨fn, hf, by rw [hb]; rfl, hn.1⟩, fun F W hOk => ?_⟩
  refine calls_of_wp hf hb ?_
  have hinit : ({ tmps := args.toArray ++ Array.replicate (fn.ntmps - args.toArray.size) undef, defers := [] } : Act) = act fn.ntmps (env0 args) [] := by
    simp only [act, Act.mk.injEq, and_true]
    apply Array.ext
    · simp at ha ⊢; omega
    · intro i h1 h2
      simp only [Array.getElem_ofFn, env0]
      by_cases hi : i < args.length
      · rw [Array.getElem_append_left (by simpa using hi)]; simp [hi]
      · rw [Array.getElem_append_right (by simpa using hi)]; simp [List.getD, List.getElem?_eq_none (Nat.le_of_not_lt hi)]
  rw [hinit]
  have hs := gwp_sound (ds := []) (F := F) (W0 := W) (d0 := d) (by simpa using hn.2) c _ _ d L W h hOk (Le.refl d) (Keep.refl W)
  refine wp_mono hs ?_
  have fin : ∀ a w, (∃ ρ d' L', a = act fn.ntmps ρ [] ∧ Ok (d' :: (L' ++ F)) w ∧ Le d d' ∧ Keep W w ∧ retPost rs R ρ d' L') →
      a.defers = [] ∧ ∃ v, (results fn a.tmps).run P w = .ok v w ∧ (∃ d' L', Ok (d' :: (L' ++ F)) w ∧ Le d d' ∧ Keep W w ∧ R (.returned v) d' L') := by
    rintro a w ⟨ρ, d', L', rfl, h1, h2, h3, vs, h4, d'', L'', h5, h6⟩
    refine ⟨rfl, resV vs, ?_, d'', L'', h5.2 F w h1, h2.trans h5.1, h3, h6⟩
    have hl : ∀ a v, HC d' L' a v → w.cell? a = some v := fun a v hc => hc.cell h1.head (fun q hq => h1.2 q (by simp [hq]))
    have := results_run (P := P) (n := fn.ntmps) (ρ := ρ) (ds := []) hl fn.results.toList rs vs hr h4
    rw [results_eq, Array.mapM_eq_mapM_toList]
    simp only [Sem.run_bind, Sem.run_map, this, Result.andThen, Sem.run_pure]
    cases vs with
    | nil => rfl
    | cons v vs => cases vs with
      | nil => rfl
      | cons v' vs => rfl
  intro e a w hq
  cases e with
  | normal => exact fin a w hq
  | ret => exact fin a w hq
  | panic c =>
    obtain ⟨h1, d', L', h2, h3, h4, d'', L'', h5, h6⟩ := hq
    exact ⟨h1, d'', L'', h5.2 F w h2, h3.trans h5.1, h4, h6⟩
  | exit i => obtain ⟨_, _, _, _, _, _, _, hh⟩ := hq; exact hh.elim
  | goto l => exact hq.elim
  | outgrown => exact hq.elim

end Go.Gk
end

section
/-
  The steps of a walk: one law an instruction, each applied by 'refine'.
-/
namespace Go.Gk
open Go

/-- Where an instruction may look. -/
def lk (tk : Bool) (Ls L : List PHeap) : List PHeap := match tk with | true => Ls | false => Ls ++ L

/-- A cell of the data. -/
def DC (d : PHeap) (b o : Nat) (v : Value) : Prop := ∃ c T fr, d b (.cells c T fr) ∧ c[o]? = some v
/-- Cells of the data, one behind the other. -/
def DCs (d : PHeap) (b o : Nat) (vs : List Value) : Prop := ∃ c T fr, d b (.cells c T fr) ∧ ∀ i u, vs[i]? = some u → c[o + i]? = some u

theorem DCs.at {d : PHeap} {b o : Nat} {vs : List Value} (h : DCs d b o vs) {i : Nat} {u : Value} (hi : vs[i]? = some u) : DC d b (o + i) u :=
  let ⟨c, T, fr, h1, h2⟩ := h
  ⟨c, T, fr, h1, h2 i u hi⟩
theorem DC.mono {d d' : PHeap} {b o : Nat} {v : Value} (h : DC d b o v) (hl : Le d d') : DC d' b o v :=
  let ⟨c, T, fr, h1, h2⟩ := h
  ⟨c, T, fr, hl _ _ h1, h2⟩
theorem DCs.mono {d d' : PHeap} {b o : Nat} {vs : List Value} (h : DCs d b o vs) (hl : Le d d') : DCs d' b o vs :=
  let ⟨c, T, fr, h1, h2⟩ := h
  ⟨c, T, fr, hl _ _ h1, h2⟩
theorem DC.cells {d : PHeap} {b o : Nat} {v : Value} (h : DC d b o v) : DCs d b o [v] :=
  let ⟨c, T, fr, h1, h2⟩ := h
  ⟨c, T, fr, h1, fun i u hi => by
    cases i with
    | zero => simp at hi; subst hi; exact h2
    | succ i => simp at hi⟩
theorem DCs.one {d : PHeap} {b o : Nat} {v : Value} (h : DCs d b o [v]) : DC d b o v := h.at (i := 0) rfl

theorem hc_d {d : PHeap} {Lk : List PHeap} {b o : Nat} {v : Value} (h : DC d b o v) : HC d Lk ⟨b, o, none⟩ v :=
  let ⟨c, T, fr, h1, h2⟩ := h
  ⟨rfl, d, .inl rfl, c, T, fr, h1, h2⟩
theorem hc_ds {d : PHeap} {Lk : List PHeap} {b o : Nat} {vs : List Value} {i : Nat} {v : Value} (h : DCs d b o vs) (hi : vs[i]? = some v) : HC d Lk ⟨b, o + i, none⟩ v := hc_d (h.at hi)
theorem hc_ds0 {d : PHeap} {Lk : List PHeap} {b o : Nat} {vs : List Value} {v : Value} (h : DCs d b o vs) (hi : vs[0]? = some v) : HC d Lk ⟨b, o, none⟩ v := hc_d (h.at hi)
theorem hc_i {d : PHeap} {Lk : List PHeap} {b o : Nat} {v : Value} {T : TypeId} {l : List Value} (i : Nat) (h : Lk[i]? = some (bx b T l)) (ho : l[o]? = some v) : HC d Lk ⟨b, o, none⟩ v :=
  ⟨rfl, bx b T l, .inr (List.mem_of_getElem? h), l.toArray, T, (0, 0), sg_self _ _, by simpa using ho⟩

section
variable {P : Program} {pan : List PanicEntry → Post} {Qn : Env → Post} {Ls L : List PHeap} {ρ : Env} {d : PHeap} {tk : Bool} {s : GS} {t : Nat}

theorem w_vs {g : GOp} (d1 : PHeap) (L1 : List PHeap) (hv : Vs d L d1 L1) : gws P pan Qn (.op false g s) Ls ρ d1 L1 → gws P pan Qn (.op false g s) Ls ρ d L
  | ⟨d2, L2, h1, h2⟩ => ⟨d2, L2, hv.trans h1, h2⟩
theorem w_vsd (d1 : PHeap) (L1 : List PHeap) (hv : Vs d L d1 L1) (h : Qn ρ d1 L1) : gws P pan Qn .done [] ρ d L := ⟨d1, L1, hv, h⟩

/-- A block that is written no more becomes data. -/
theorem w_frz {g : GOp} {h : PHeap} (k : ∀ d', Le d d' → Le h d' → gws P pan Qn (.op false g s) Ls ρ d' L) : gws P pan Qn (.op false g s) Ls ρ d (h :: L) :=
  w_vs (join d h) L Vs.freeze (k _ (Le.join_left d h) (Le.join_right d h))
theorem w_q {q : GI} {v : Value} (hq : q.quiet = true) (hv : evq ρ (HC d (lk tk Ls L)) q v) (h : gws P pan Qn s Ls (upd ρ t v) d L) :
    gws P pan Qn (.op tk ⟨some t, none, q⟩ s) Ls ρ d L := by
  cases tk with
  | true => simp only [gws, gop]; rw [gi_quiet hq]; exact ⟨v, hv, h⟩
  | false => exact ⟨d, L, Vs.refl d L, by simp only [gop]; rw [gi_quiet hq]; exact ⟨v, hv, d, L, Vs.refl d L, h⟩⟩

theorem w_mv {x : Operand} (h : gws P pan Qn s Ls (upd ρ t (ev ρ x)) d L) : gws P pan Qn (.op tk ⟨some t, none, .mv x⟩ s) Ls ρ d L := w_q rfl rfl h
theorem w_mvi {x : Operand} {k : IntKind} {a : Int} (e : ev ρ x = .int k a) (h : gws P pan Qn s Ls (upd ρ t (.int k a)) d L) : gws P pan Qn (.op tk ⟨some t, none, .mv x⟩ s) Ls ρ d L := w_q rfl e.symm h
theorem w_mvb {x : Operand} {a : Bool} (e : ev ρ x = .bool a) (h : gws P pan Qn s Ls (upd ρ t (.bool a)) d L) : gws P pan Qn (.op tk ⟨some t, none, .mv x⟩ s) Ls ρ d L := w_q rfl e.symm h
theorem w_mvs {x : Operand} {a : Option Addr} {n c : Nat} (e : ev ρ x = .slice a n c) (h : gws P pan Qn s Ls (upd ρ t (.slice a n c)) d L) : gws P pan Qn (.op tk ⟨some t, none, .mv x⟩ s) Ls ρ d L := w_q rfl e.symm h
theorem w_mvp {x : Operand} {a : Option Addr} (e : ev ρ x = .pointer a) (h : gws P pan Qn s Ls (upd ρ t (.pointer a)) d L) : gws P pan Qn (.op tk ⟨some t, none, .mv x⟩ s) Ls ρ d L := w_q rfl e.symm h
theorem w_mvt {x : Operand} {l : List UInt8} (e : ev ρ x = strV l) (h : gws P pan Qn s Ls (upd ρ t (strV l)) d L) : gws P pan Qn (.op tk ⟨some t, none, .mv x⟩ s) Ls ρ d L := w_q rfl e.symm h
theorem w_mva {x : Operand} {l : Array Value} (e : ev ρ x = .agg l) (h : gws P pan Qn s Ls (upd ρ t (.agg l)) d L) : gws P pan Qn (.op tk ⟨some t, none, .mv x⟩ s) Ls ρ d L := w_q rfl e.symm h
theorem w_mvu {x : Operand} {l : Array Value} (e : ev ρ x = .tuple l) (h : gws P pan Qn s Ls (upd ρ t (.tuple l)) d L) : gws P pan Qn (.op tk ⟨some t, none, .mv x⟩ s) Ls ρ d L := w_q rfl e.symm h
theorem w_mvf {x : Operand} {f : Fn} {a b : Array Value} (e : ev ρ x = .func f a b) (h : gws P pan Qn s Ls (upd ρ t (.func f a b)) d L) : gws P pan Qn (.op tk ⟨some t, none, .mv x⟩ s) Ls ρ d L := w_q rfl e.symm h
theorem w_pickT {c a b : Operand} {v : Value} (e : ev ρ c = .bool true) (ea : ev ρ a = v) (h : gws P pan Qn s Ls (upd ρ t v) d L) : gws P pan Qn (.op tk ⟨some t, none, .pick c a b⟩ s) Ls ρ d L :=
  w_q rfl ⟨true, e, by simp [ea]⟩ h
theorem w_pickF {c a b : Operand} {v : Value} (e : ev ρ c = .bool false) (eb : ev ρ b = v) (h : gws P pan Qn s Ls (upd ρ t v) d L) : gws P pan Qn (.op tk ⟨some t, none, .pick c a b⟩ s) Ls ρ d L :=
  w_q rfl ⟨false, e, by simp [eb]⟩ h
theorem w_pickTb {c a b : Operand} {v : Bool} (e : ev ρ c = .bool true) (ea : ev ρ a = .bool v) (h : gws P pan Qn s Ls (upd ρ t (.bool v)) d L) : gws P pan Qn (.op tk ⟨some t, none, .pick c a b⟩ s) Ls ρ d L := w_pickT e ea h
theorem w_pickFb {c a b : Operand} {v : Bool} (e : ev ρ c = .bool false) (eb : ev ρ b = .bool v) (h : gws P pan Qn s Ls (upd ρ t (.bool v)) d L) : gws P pan Qn (.op tk ⟨some t, none, .pick c a b⟩ s) Ls ρ d L := w_pickF e eb h
theorem w_fld {x : Operand} {off b o : Nat} (e : ev ρ x = .pointer (some ⟨b, o, none⟩)) (h : gws P pan Qn s Ls (upd ρ t (.pointer (some ⟨b, o + off, none⟩))) d L) :
    gws P pan Qn (.op tk ⟨some t, none, .fld off x⟩ s) Ls ρ d L := w_q rfl ⟨b, o, e, rfl⟩ h
theorem w_ld {x : Operand} {b o : Nat} {v : Value} (e : ev ρ x = .pointer (some ⟨b, o, none⟩)) (hc : HC d (lk tk Ls L) ⟨b, o, none⟩ v) (h : gws P pan Qn s Ls (upd ρ t v) d L) :
    gws P pan Qn (.op tk ⟨some t, none, .ld none x⟩ s) Ls ρ d L := w_q rfl ⟨b, o, e, hc⟩ h
/-- A whole box is loaded. -/
theorem w_ldb {x : Operand} {n b : Nat} {T : TypeId} {l : List Value} (i : Nat) (e : ev ρ x = .pointer (some ⟨b, 0, none⟩)) (hi : (lk tk Ls L)[i]? = some (bx b T l)) (hn : l.length = n)
    (h : gws P pan Qn s Ls (upd ρ t (.agg l.toArray)) d L) : gws P pan Qn (.op tk ⟨some t, none, .ld (some n) x⟩ s) Ls ρ d L :=
  w_q rfl ⟨b, 0, l, e, hn, fun j u hu => by rw [Nat.zero_add]; exact hc_i i hi hu, rfl⟩ h
/-- Cells of the data are loaded. -/
theorem w_ldd {x : Operand} {n b o : Nat} {l : List Value} (e : ev ρ x = .pointer (some ⟨b, o, none⟩)) (hd : DCs d b o l) (hn : l.length = n)
    (h : gws P pan Qn s Ls (upd ρ t (.agg l.toArray)) d L) : gws P pan Qn (.op tk ⟨some t, none, .ld (some n) x⟩ s) Ls ρ d L :=
  w_q rfl ⟨b, o, l, e, hn, fun _ _ hu => hc_ds hd hu, rfl⟩ h
theorem w_bin {op : BinOp} {x y : Operand} {v : Value} (e : binV op (ev ρ x) (ev ρ y) = some v) (h : gws P pan Qn s Ls (upd ρ t v) d L) :
    gws P pan Qn (.op tk ⟨some t, none, .bin op x y⟩ s) Ls ρ d L := w_q rfl e h
theorem wrap64_eq {a : Int} (h1 : -9223372036854775808 ≤ a) (h2 : a ≤ 9223372036854775807) : IntKind.i64.wrap a = a := by
  simp [IntKind.wrap, IntKind.signed, IntKind.bits]; omega
theorem w_add {x y : Operand} {a b : Int} (ex : ev ρ x = .int .i64 a) (ey : ev ρ y = .int .i64 b) (h1 : -9223372036854775808 ≤ a + b) (h2 : a + b ≤ 9223372036854775807)
    (h : gws P pan Qn s Ls (upd ρ t (.int .i64 (a + b))) d L) : gws P pan Qn (.op tk ⟨some t, none, .bin .add x y⟩ s) Ls ρ d L :=
  w_bin (by rw [ex, ey]; simp [binV, wrap64_eq h1 h2]) h
theorem w_sub {x y : Operand} {a b : Int} (ex : ev ρ x = .int .i64 a) (ey : ev ρ y = .int .i64 b) (h1 : -9223372036854775808 ≤ a - b) (h2 : a - b ≤ 9223372036854775807)
    (h : gws P pan Qn s Ls (upd ρ t (.int .i64 (a - b))) d L) : gws P pan Qn (.op tk ⟨some t, none, .bin .sub x y⟩ s) Ls ρ d L :=
  w_bin (by rw [ex, ey]; simp [binV, wrap64_eq h1 h2]) h
theorem w_mul {x y : Operand} {a b : Int} (ex : ev ρ x = .int .i64 a) (ey : ev ρ y = .int .i64 b) (h1 : -9223372036854775808 ≤ a * b) (h2 : a * b ≤ 9223372036854775807)
    (h : gws P pan Qn s Ls (upd ρ t (.int .i64 (a * b))) d L) : gws P pan Qn (.op tk ⟨some t, none, .bin .mul x y⟩ s) Ls ρ d L :=
  w_bin (by rw [ex, ey]; simp [binV, wrap64_eq h1 h2]) h
theorem w_quo {x y : Operand} {a b : Int} (ex : ev ρ x = .int .i64 a) (ey : ev ρ y = .int .i64 b) (h1 : 0 ≤ a) (h2 : 0 < b) (h3 : a ≤ 9223372036854775807)
    (h : gws P pan Qn s Ls (upd ρ t (.int .i64 (a / b))) d L) : gws P pan Qn (.op tk ⟨some t, none, .bin .quo x y⟩ s) Ls ρ d L := by
  refine w_bin ?_ h
  have h4 : ¬ b = 0 := by omega
  have h5 : a.tdiv b = a / b := Int.tdiv_eq_ediv_of_nonneg h1
  have h6 : 0 ≤ a / b := Int.ediv_nonneg h1 (by omega)
  have h7 : a / b ≤ a := Int.ediv_le_self b h1
  rw [ex, ey]; simp [binV, h4, h5]; exact wrap64_eq (by omega) (by omega)
theorem w_rem {x y : Operand} {k : IntKind} {a b : Int} (ex : ev ρ x = .int k a) (ey : ev ρ y = .int k b) (h1 : 0 ≤ a) (h2 : 0 < b)
    (h : gws P pan Qn s Ls (upd ρ t (.int k (a % b))) d L) : gws P pan Qn (.op tk ⟨some t, none, .bin .rem x y⟩ s) Ls ρ d L := by
  refine w_bin ?_ h
  have h4 : ¬ b = 0 := by omega
  have h5 : a.tmod b = a % b := Int.tmod_eq_emod_of_nonneg h1
  rw [ex, ey]; simp [binV, h4, h5]
theorem w_lss {x y : Operand} {k : IntKind} {a b : Int} (ex : ev ρ x = .int k a) (ey : ev ρ y = .int k b) (h : gws P pan Qn s Ls (upd ρ t (.bool (decide (a < b)))) d L) :
    gws P pan Qn (.op tk ⟨some t, none, .bin .lss x y⟩ s) Ls ρ d L := w_bin (by rw [ex, ey]; simp [binV]) h
theorem w_leq {x y : Operand} {k : IntKind} {a b : Int} (ex : ev ρ x = .int k a) (ey : ev ρ y = .int k b) (h : gws P pan Qn s Ls (upd ρ t (.bool (decide (a ≤ b)))) d L) :
    gws P pan Qn (.op tk ⟨some t, none, .bin .leq x y⟩ s) Ls ρ d L := w_bin (by rw [ex, ey]; simp [binV]) h
theorem w_gtr {x y : Operand} {k : IntKind} {a b : Int} (ex : ev ρ x = .int k a) (ey : ev ρ y = .int k b) (h : gws P pan Qn s Ls (upd ρ t (.bool (decide (b < a)))) d L) :
    gws P pan Qn (.op tk ⟨some t, none, .bin .gtr x y⟩ s) Ls ρ d L := w_bin (by rw [ex, ey]; simp [binV]) h
theorem w_geq {x y : Operand} {k : IntKind} {a b : Int} (ex : ev ρ x = .int k a) (ey : ev ρ y = .int k b) (h : gws P pan Qn s Ls (upd ρ t (.bool (decide (b ≤ a)))) d L) :
    gws P pan Qn (.op tk ⟨some t, none, .bin .geq x y⟩ s) Ls ρ d L := w_bin (by rw [ex, ey]; simp [binV]) h
theorem w_eql {x y : Operand} {k : IntKind} {a b : Int} (ex : ev ρ x = .int k a) (ey : ev ρ y = .int k b) (h : gws P pan Qn s Ls (upd ρ t (.bool (decide (a = b)))) d L) :
    gws P pan Qn (.op tk ⟨some t, none, .bin .eql x y⟩ s) Ls ρ d L := w_bin (by rw [ex, ey]; simp [binV]; rfl) h
theorem w_neq {x y : Operand} {k : IntKind} {a b : Int} (ex : ev ρ x = .int k a) (ey : ev ρ y = .int k b) (h : gws P pan Qn s Ls (upd ρ t (.bool (decide (a ≠ b)))) d L) :
    gws P pan Qn (.op tk ⟨some t, none, .bin .neq x y⟩ s) Ls ρ d L := w_bin (by rw [ex, ey]; simp [binV]; by_cases e : a = b <;> simp [e]) h
theorem toList_mk (l : List UInt8) : (⟨l.toArray⟩ : ByteArray).toList = l := by rw [Lib.toList_data]
theorem w_seq {x y : Operand} {a b : List UInt8} (ex : ev ρ x = strV a) (ey : ev ρ y = strV b) (h : gws P pan Qn s Ls (upd ρ t (.bool (decide (a = b)))) d L) :
    gws P pan Qn (.op tk ⟨some t, none, .bin .eql x y⟩ s) Ls ρ d L := w_bin (by rw [ex, ey]; simp [binV, strV]; by_cases e : a = b <;> simp [e]) h
theorem w_sne {x y : Operand} {a b : List UInt8} (ex : ev ρ x = strV a) (ey : ev ρ y = strV b) (h : gws P pan Qn s Ls (upd ρ t (.bool (decide (a ≠ b)))) d L) :
    gws P pan Qn (.op tk ⟨some t, none, .bin .neq x y⟩ s) Ls ρ d L := w_bin (by rw [ex, ey]; simp [binV, strV]; by_cases e : a = b <;> simp [e]) h
theorem w_slt {x y : Operand} {a b : List UInt8} (ex : ev ρ x = strV a) (ey : ev ρ y = strV b) (h : gws P pan Qn s Ls (upd ρ t (.bool (Op.bytesLess a b))) d L) :
    gws P pan Qn (.op tk ⟨some t, none, .bin .lss x y⟩ s) Ls ρ d L := w_bin (by rw [ex, ey]; simp [binV, strV]) h
theorem w_sle {x y : Operand} {a b : List UInt8} (ex : ev ρ x = strV a) (ey : ev ρ y = strV b) (h : gws P pan Qn s Ls (upd ρ t (.bool (Op.bytesLess a b || decide (a = b)))) d L) :
    gws P pan Qn (.op tk ⟨some t, none, .bin .leq x y⟩ s) Ls ρ d L := w_bin (by rw [ex, ey]; simp [binV, strV]; by_cases e : a = b <;> simp [e]) h
theorem w_sgt {x y : Operand} {a b : List UInt8} (ex : ev ρ x = strV a) (ey : ev ρ y = strV b) (h : gws P pan Qn s Ls (upd ρ t (.bool (!(Op.bytesLess a b || decide (a = b))))) d L) :
    gws P pan Qn (.op tk ⟨some t, none, .bin .gtr x y⟩ s) Ls ρ d L := w_bin (by rw [ex, ey]; simp [binV, strV]; by_cases e : a = b <;> simp [e]) h
theorem w_sge {x y : Operand} {a b : List UInt8} (ex : ev ρ x = strV a) (ey : ev ρ y = strV b) (h : gws P pan Qn s Ls (upd ρ t (.bool (!Op.bytesLess a b))) d L) :
    gws P pan Qn (.op tk ⟨some t, none, .bin .geq x y⟩ s) Ls ρ d L := w_bin (by rw [ex, ey]; simp [binV, strV]) h
theorem w_sadd {x y : Operand} {a b : List UInt8} (ex : ev ρ x = strV a) (ey : ev ρ y = strV b) (hn : a.length + b.length ≤ 9223372036854775807) (h : gws P pan Qn s Ls (upd ρ t (strV (a ++ b))) d L) :
    gws P pan Qn (.op tk ⟨some t, none, .bin .add x y⟩ s) Ls ρ d L := by
  refine w_bin ?_ h
  have hs : ∀ l : List UInt8, (⟨l.toArray⟩ : ByteArray).size = l.length := fun l => by simp [ByteArray.size]
  have : ¬ (((a.length + b.length : Nat) : Int) > IntKind.i64.max) := by
    have : IntKind.i64.max = 9223372036854775807 := by decide
    rw [this]; omega
  rw [ex, ey]
  simp only [binV, strV, hs, if_neg this, Option.some.injEq, Value.string.injEq]
  apply ByteArray.ext
  simp
theorem w_not {x : Operand} {b : Bool} (ex : ev ρ x = .bool b) (h : gws P pan Qn s Ls (upd ρ t (.bool (!b))) d L) : gws P pan Qn (.op tk ⟨some t, none, .un .not x⟩ s) Ls ρ d L :=
  w_q rfl (by simp [evq, unV, ex]) h
theorem w_neg {x : Operand} {a : Int} (ex : ev ρ x = .int .i64 a) (h1 : -9223372036854775807 ≤ a) (h2 : a ≤ 9223372036854775807) (h : gws P pan Qn s Ls (upd ρ t (.int .i64 (-a))) d L) :
    gws P pan Qn (.op tk ⟨some t, none, .un .neg x⟩ s) Ls ρ d L :=
  w_q rfl (by have := wrap64_eq (a := -a) (by omega) (by omega); simp [evq, unV, ex, this]) h
theorem w_cvi {x : Operand} {j k : IntKind} {a : Int} (ex : ev ρ x = .int j a) (h : gws P pan Qn s Ls (upd ρ t (.int k (k.wrap a))) d L) : gws P pan Qn (.op tk ⟨some t, none, .cvi k x⟩ s) Ls ρ d L :=
  w_q rfl ⟨j, a, ex, rfl⟩ h
theorem w_cvi64 {x : Operand} {j : IntKind} {a : Int} (ex : ev ρ x = .int j a) (h1 : -9223372036854775808 ≤ a) (h2 : a ≤ 9223372036854775807) (h : gws P pan Qn s Ls (upd ρ t (.int .i64 a)) d L) :
    gws P pan Qn (.op tk ⟨some t, none, .cvi .i64 x⟩ s) Ls ρ d L := w_cvi ex (by rw [wrap64_eq h1 h2]; exact h)
theorem w_cvi8 {x : Operand} {j : IntKind} {a : Int} (ex : ev ρ x = .int j a) (h1 : 0 ≤ a) (h2 : a ≤ 255) (h : gws P pan Qn s Ls (upd ρ t (.int .u8 a)) d L) :
    gws P pan Qn (.op tk ⟨some t, none, .cvi .u8 x⟩ s) Ls ρ d L := w_cvi ex (by
  have : IntKind.u8.wrap a = a := by simp [IntKind.wrap, IntKind.signed, IntKind.bits]; omega
  rw [this]; exact h)
theorem w_len {x : Operand} {a : Option Addr} {n c : Nat} (ex : ev ρ x = .slice a n c) (h : gws P pan Qn s Ls (upd ρ t (.int .i64 n)) d L) : gws P pan Qn (.op tk ⟨some t, none, .len x⟩ s) Ls ρ d L :=
  w_q rfl ⟨a, n, c, ex, rfl⟩ h
theorem w_lens {x : Operand} {l : List UInt8} (ex : ev ρ x = strV l) (h : gws P pan Qn s Ls (upd ρ t (.int .i64 l.length)) d L) : gws P pan Qn (.op tk ⟨some t, none, .lens x⟩ s) Ls ρ d L :=
  w_q rfl ⟨l, ex, rfl⟩ h
theorem w_cap {x : Operand} {a : Option Addr} {n c : Nat} (ex : ev ρ x = .slice a n c) (h : gws P pan Qn s Ls (upd ρ t (.int .i64 c)) d L) : gws P pan Qn (.op tk ⟨some t, none, .cap x⟩ s) Ls ρ d L :=
  w_q rfl ⟨a, n, c, ex, rfl⟩ h
theorem w_mx2 {x y : Operand} {k : IntKind} {a b : Int} (ex : ev ρ x = .int k a) (ey : ev ρ y = .int k b) (h : gws P pan Qn s Ls (upd ρ t (.int k (max a b))) d L) :
    gws P pan Qn (.op tk ⟨some t, none, .mx2 x y⟩ s) Ls ρ d L := w_q rfl ⟨k, a, b, ex, ey, by congr 1; split <;> omega⟩ h
theorem w_mn2 {x y : Operand} {k : IntKind} {a b : Int} (ex : ev ρ x = .int k a) (ey : ev ρ y = .int k b) (h : gws P pan Qn s Ls (upd ρ t (.int k (min a b))) d L) :
    gws P pan Qn (.op tk ⟨some t, none, .mn2 x y⟩ s) Ls ρ d L := w_q rfl ⟨k, a, b, ex, ey, by congr 1; split <;> omega⟩ h
theorem w_ext {x : Operand} {i : Nat} {vs : Array Value} {v : Value} (ex : ev ρ x = .tuple vs) (e : vs[i]? = some v) (h : gws P pan Qn s Ls (upd ρ t v) d L) :
    gws P pan Qn (.op tk ⟨some t, none, .ext x i⟩ s) Ls ρ d L := w_q rfl ⟨vs, ex, e⟩ h
/-- Where the address of a slice that is not empty is. -/
def SAd (a : Option Addr) (n b o : Nat) : Prop := n ≠ 0 → a = some ⟨b, o, none⟩
theorem SAd.some (n b o : Nat) : SAd (some ⟨b, o, none⟩) n b o := fun _ => rfl
theorem w_idx {x i : Operand} {sz b o n c : Nat} {a : Option Addr} {k : IntKind} {j : Int} (m : Nat) (ex : ev ρ x = .slice a n c) (ei : ev ρ i = .int k j) (hm : j = (m : Int)) (hl : m < n) (hA : SAd a n b o)
    (h : gws P pan Qn s Ls (upd ρ t (.pointer (some ⟨b, o + m * sz, none⟩))) d L) : gws P pan Qn (.op tk ⟨some t, none, .idx sz x i⟩ s) Ls ρ d L := by
  subst hm
  rw [hA (by omega)] at ex
  exact w_q rfl ⟨b, o, n, c, k, m, ex, ei, by omega, by omega, rfl⟩ h
theorem w_sidx {x i : Operand} {l : List UInt8} {k : IntKind} {j : Int} {u : UInt8} (m : Nat) (ex : ev ρ x = strV l) (ei : ev ρ i = .int k j) (hm : j = (m : Int)) (hl : l[m]? = some u)
    (h : gws P pan Qn s Ls (upd ρ t (.int .u8 u.toNat)) d L) : gws P pan Qn (.op tk ⟨some t, none, .sidx x i⟩ s) Ls ρ d L := by
  subst hm
  exact w_q rfl ⟨l, k, m, u, ex, ei, by omega, by simpa using hl, rfl⟩ h
theorem w_mkf {fn : Fn} {first cap : List Operand} (h : gws P pan Qn s Ls (upd ρ t (.func fn (first.map (ev ρ)).toArray (cap.map (ev ρ)).toArray)) d L) :
    gws P pan Qn (.op tk ⟨some t, none, .mkf fn first cap⟩ s) Ls ρ d L := w_q rfl rfl h
theorem w_mki {T : TypeId} {x : Operand} (h : gws P pan Qn s Ls (upd ρ t (.iface T (ev ρ x))) d L) : gws P pan Qn (.op tk ⟨some t, none, .mki T x⟩ s) Ls ρ d L := w_q rfl rfl h
theorem w_bld {pl : List (Nat × Nat)} {z : List Value} {ps : List (Nat × Operand)} {cs : List Value} (e : Instr.fill (pl[·]?) z.toArray (ps.map fun p => (p.1, ev ρ p.2)) = some cs.toArray)
    (h : gws P pan Qn s Ls (upd ρ t (.agg cs.toArray)) d L) : gws P pan Qn (.op tk ⟨some t, none, .bld pl z ps⟩ s) Ls ρ d L := w_q rfl ⟨cs.toArray, e, rfl⟩ h
theorem w_gf {x : Operand} {off : Nat} {cs : Array Value} {v : Value} (ex : ev ρ x = .agg cs) (e : cs[off]? = some v) (h : gws P pan Qn s Ls (upd ρ t v) d L) :
    gws P pan Qn (.op tk ⟨some t, none, .gf none off x⟩ s) Ls ρ d L := w_q rfl ⟨cs, ex, e⟩ h
theorem w_b2s {x : Operand} {a : Option Addr} {n c b o : Nat} {l : List UInt8} (ex : ev ρ x = .slice a n c) (hn : n = l.length) (hA : SAd a n b o)
    (hc : ∀ i u, l[i]? = some u → HC d (lk tk Ls L) ⟨b, o + i, none⟩ (byteV u)) (h : gws P pan Qn s Ls (upd ρ t (strV l)) d L) : gws P pan Qn (.op tk ⟨some t, none, .b2s x⟩ s) Ls ρ d L := by
  subst hn
  refine w_q rfl ⟨a, l, c, ex, ?_, ?_, rfl⟩ h
  · intro e
    cases l with
    | nil => rfl
    | cons u l => have := hA (by simp); rw [e] at this; cases this
  · intro a' e i u hu
    have hl : l.length ≠ 0 := by
      intro h0; have := List.length_eq_zero_iff.1 h0; subst this; simp at hu
    have := hA hl
    rw [e] at this; cases this
    rw [Addr.add_lit]
    exact hc i u hu

theorem w_bcmp {x y : Operand} {l m : List UInt8} (hx : bytesAt (HC d (lk tk Ls L)) (ev ρ x) l) (hy : bytesAt (HC d (lk tk Ls L)) (ev ρ y) m) (h : gws P pan Qn s Ls (upd ρ t (.int .i64 (Lib.compareBytes l m))) d L) :
    gws P pan Qn (.op tk ⟨some t, none, .bcmp x y⟩ s) Ls ρ d L := w_q rfl ⟨l, m, hx, hy, rfl⟩ h

theorem w_nilc {x : Operand} {a : Addr} (ex : ev ρ x = .pointer (some a)) (h : gws P pan Qn s Ls (upd ρ t (.pointer (some a))) d L) : gws P pan Qn (.op tk ⟨some t, none, .nilc x⟩ s) Ls ρ d L :=
  w_q rfl ⟨⟨a, ex⟩, ex.symm⟩ h
theorem w_eqpN {neg : Bool} {x y : Operand} (ex : ev ρ x = .pointer none) (ey : ev ρ y = .pointer none) (h : gws P pan Qn s Ls (upd ρ t (.bool (!neg))) d L) :
    gws P pan Qn (.op tk ⟨some t, none, .eqp neg x y⟩ s) Ls ρ d L := w_q rfl ⟨none, none, ex, ey, .inl rfl, by cases neg <;> rfl⟩ h
theorem w_eqpS {neg : Bool} {x y : Operand} {a : Addr} (ex : ev ρ x = .pointer (some a)) (ey : ev ρ y = .pointer none) (h : gws P pan Qn s Ls (upd ρ t (.bool neg)) d L) :
    gws P pan Qn (.op tk ⟨some t, none, .eqp neg x y⟩ s) Ls ρ d L := w_q rfl ⟨some a, none, ex, ey, .inr (.inl rfl), by cases neg <;> rfl⟩ h
theorem w_eqpS' {neg : Bool} {x y : Operand} {a : Addr} (ex : ev ρ x = .pointer none) (ey : ev ρ y = .pointer (some a)) (h : gws P pan Qn s Ls (upd ρ t (.bool neg)) d L) :
    gws P pan Qn (.op tk ⟨some t, none, .eqp neg x y⟩ s) Ls ρ d L := w_q rfl ⟨none, some a, ex, ey, .inl rfl, by cases neg <;> rfl⟩ h
theorem w_eqsN {neg : Bool} {x y : Operand} {n c n' c' : Nat} (ex : ev ρ x = .slice none n c) (ey : ev ρ y = .slice none n' c') (h : gws P pan Qn s Ls (upd ρ t (.bool (!neg))) d L) :
    gws P pan Qn (.op tk ⟨some t, none, .eqs neg x y⟩ s) Ls ρ d L := w_q rfl ⟨none, n, c, ex, ⟨n', c', ey⟩, by cases neg <;> rfl⟩ h
theorem w_eqsS {neg : Bool} {x y : Operand} {a : Addr} {n c n' c' : Nat} (ex : ev ρ x = .slice (some a) n c) (ey : ev ρ y = .slice none n' c') (h : gws P pan Qn s Ls (upd ρ t (.bool neg)) d L) :
    gws P pan Qn (.op tk ⟨some t, none, .eqs neg x y⟩ s) Ls ρ d L := w_q rfl ⟨some a, n, c, ex, ⟨n', c', ey⟩, by cases neg <;> rfl⟩ h
theorem w_eqb {neg : Bool} {x y : Operand} {a b : Bool} (ex : ev ρ x = .bool a) (ey : ev ρ y = .bool b) (h : gws P pan Qn s Ls (upd ρ t (.bool (neg ^^ (a == b)))) d L) :
    gws P pan Qn (.op tk ⟨some t, none, .eqb neg x y⟩ s) Ls ρ d L := w_q rfl ⟨a, b, ex, ey, rfl⟩ h

/-! ### guards -/
theorem w_gT {g : Nat} {want : Bool} {i : GI} {dst : Option Nat} (e : ρ g = .bool want) (h : gws P pan Qn (.op tk ⟨dst, none, i⟩ s) Ls ρ d L) : gws P pan Qn (.op tk ⟨dst, some (g, want), i⟩ s) Ls ρ d L := by
  cases tk with
  | true => simp only [gws, gop] at h ⊢; exact .inl ⟨want, e, fun _ => h, fun e => by cases want <;> cases e⟩
  | false => obtain ⟨d1, L1, h1, h2⟩ := h; exact ⟨d1, L1, h1, by simp only [gop] at h2 ⊢; exact .inl ⟨want, e, fun _ => h2, fun e => by cases want <;> cases e⟩⟩
theorem w_gFp {g : Nat} {want : Bool} {i : GI} {dst : Option Nat} (e : ρ g = .bool (!want)) (h : gws P pan Qn s Ls (put ρ dst undef) d L) : gws P pan Qn (.op tk ⟨dst, some (g, want), i⟩ s) Ls ρ d L := by
  cases tk with
  | true => simp only [gws, gop] at h ⊢; exact .inl ⟨!want, e, (fun e => by cases want <;> cases e), fun _ => h⟩
  | false => exact ⟨d, L, Vs.refl d L, by simp only [gop]; exact .inl ⟨!want, e, (fun e => by cases want <;> cases e), fun _ => ⟨d, L, Vs.refl d L, h⟩⟩⟩
theorem w_gUp {g : Nat} {want : Bool} {i : GI} {dst : Option Nat} (e : ρ g = undef) (h : gws P pan Qn s Ls (put ρ dst undef) d L) : gws P pan Qn (.op tk ⟨dst, some (g, want), i⟩ s) Ls ρ d L := by
  cases tk with
  | true => simp only [gws, gop] at h ⊢; exact .inr ⟨e, h⟩
  | false => exact ⟨d, L, Vs.refl d L, by simp only [gop]; exact .inr ⟨e, d, L, Vs.refl d L, h⟩⟩
theorem w_gU {g t : Nat} {want : Bool} {i : GI} (e : ρ g = undef) (h : gws P pan Qn s Ls (upd ρ t undef) d L) : gws P pan Qn (.op tk ⟨some t, some (g, want), i⟩ s) Ls ρ d L := w_gUp e h
theorem w_gF {g t : Nat} {want : Bool} {i : GI} (e : ρ g = .bool (!want)) (h : gws P pan Qn s Ls (upd ρ t undef) d L) : gws P pan Qn (.op tk ⟨some t, some (g, want), i⟩ s) Ls ρ d L := w_gFp e h
theorem upd_same {g : Nat} {v : Value} (e : ρ g = v) : upd ρ g v = ρ := by
  funext i
  simp only [upd]
  cases h : Nat.beq i g with
  | false => rfl
  | true => have := Nat.eq_of_beq_eq_true h; subst this; exact e.symm
theorem gws_env {g : Nat} {v : Value} (e : ρ g = v) (h : gws P pan Qn s Ls (upd ρ g v) d L) : gws P pan Qn s Ls ρ d L := by rwa [upd_same e] at h
/-- A guard that is not known: both ways. -/
theorem w_gs {g : Nat} {want b : Bool} {i : GI} {dst : Option Nat} (e : ρ g = .bool b) (h1 : b = true → gws P pan Qn (.op tk ⟨dst, some (g, want), i⟩ s) Ls (upd ρ g (.bool true)) d L)
    (h2 : b = false → gws P pan Qn (.op tk ⟨dst, some (g, want), i⟩ s) Ls (upd ρ g (.bool false)) d L) : gws P pan Qn (.op tk ⟨dst, some (g, want), i⟩ s) Ls ρ d L := by
  cases b with
  | true => exact gws_env e (h1 rfl)
  | false => exact gws_env e (h2 rfl)
theorem w_gsd {g : Nat} {want : Bool} {i : GI} {dst : Option Nat} {p : Prop} [Decidable p] (e : ρ g = .bool (decide p)) (h1 : p → gws P pan Qn (.op tk ⟨dst, some (g, want), i⟩ s) Ls (upd ρ g (.bool true)) d L)
    (h2 : ¬ p → gws P pan Qn (.op tk ⟨dst, some (g, want), i⟩ s) Ls (upd ρ g (.bool false)) d L) : gws P pan Qn (.op tk ⟨dst, some (g, want), i⟩ s) Ls ρ d L :=
  w_gs e (fun h => h1 (of_decide_eq_true h)) (fun h => h2 (of_decide_eq_false h))

theorem w_gdT {g : Nat} {want : Bool} {i : GI} {dst : Option Nat} {p : Prop} [Decidable p] (e : ρ g = .bool (decide p)) (hp : p) (h : gws P pan Qn (.op tk ⟨dst, some (g, want), i⟩ s) Ls (upd ρ g (.bool true)) d L) :
    gws P pan Qn (.op tk ⟨dst, some (g, want), i⟩ s) Ls ρ d L := gws_env (by rw [e]; simp [hp]) h
theorem w_gdF {g : Nat} {want : Bool} {i : GI} {dst : Option Nat} {p : Prop} [Decidable p] (e : ρ g = .bool (decide p)) (hp : ¬ p) (h : gws P pan Qn (.op tk ⟨dst, some (g, want), i⟩ s) Ls (upd ρ g (.bool false)) d L) :
    gws P pan Qn (.op tk ⟨dst, some (g, want), i⟩ s) Ls ρ d L := gws_env (by rw [e]; simp [hp]) h
theorem w_gbT {g : Nat} {want b : Bool} {i : GI} {dst : Option Nat} (e : ρ g = .bool b) (hp : b = true) (h : gws P pan Qn (.op tk ⟨dst, some (g, want), i⟩ s) Ls (upd ρ g (.bool true)) d L) :
    gws P pan Qn (.op tk ⟨dst, some (g, want), i⟩ s) Ls ρ d L := gws_env (by rw [e, hp]) h
theorem w_gbF {g : Nat} {want b : Bool} {i : GI} {dst : Option Nat} (e : ρ g = .bool b) (hp : b = false) (h : gws P pan Qn (.op tk ⟨dst, some (g, want), i⟩ s) Ls (upd ρ g (.bool false)) d L) :
    gws P pan Qn (.op tk ⟨dst, some (g, want), i⟩ s) Ls ρ d L := gws_env (by rw [e, hp]) h

/-! ### the end of a region -/
theorem w_done0 (h : Qn ρ d L) : gws P pan Qn .done [] ρ d L := ⟨d, L, Vs.refl _ _, h⟩
theorem w_done (h : Qn ρ d (Ls ++ L)) : gws P pan Qn .done Ls ρ d L := ⟨d, Ls ++ L, Vs.refl _ _, h⟩
theorem w_bar (h : gws P pan Qn s [] ρ d (Ls ++ L)) : gws P pan Qn (.bar s) Ls ρ d L := h

/-! ### memory -/
theorem w_box {x : Operand} {v : Value} (ex : ev ρ x = v) (h : ∀ b T, gws P pan Qn s Ls (upd ρ t (.pointer (some ⟨b, 0, none⟩))) d (bx b T v.cells.toList :: L)) :
    gws P pan Qn (.op false ⟨some t, none, .box x⟩ s) Ls ρ d L := ⟨d, L, Vs.refl d L, fun b T => ⟨_, _, Vs.refl _ _, by subst ex; exact h b T⟩⟩
theorem w_boxa {x : Operand} {l : List Value} (ex : ev ρ x = .agg l.toArray) (h : ∀ b T, gws P pan Qn s Ls (upd ρ t (.pointer (some ⟨b, 0, none⟩))) d (bx b T l :: L)) :
    gws P pan Qn (.op false ⟨some t, none, .box x⟩ s) Ls ρ d L := w_box ex h
theorem w_alo {z : Value} (h : ∀ b T, gws P pan Qn s Ls (upd ρ t (.pointer (some ⟨b, 0, none⟩))) d (bx b T z.cells.toList :: L)) :
    gws P pan Qn (.op false ⟨some t, none, .alo z⟩ s) Ls ρ d L := ⟨d, L, Vs.refl d L, fun b T => ⟨_, _, Vs.refl _ _, h b T⟩⟩
theorem w_st {n : Nat} {x y : Operand} {b o : Nat} {T : TypeId} {l : List Value} {v : Value} (i : Nat) (hi : L[i]? = some (bx b T l)) (ex : ev ρ x = .pointer (some ⟨b, o, none⟩)) (ey : ev ρ y = v)
    (hn : v.cells.size = n) (hl : o + n ≤ l.length) (h1 : (v.cells.toList.all (·.oneCell')) = true) (h : gws P pan Qn s Ls ρ d (L.set i (bx b T (patch l o v.cells.toList)))) :
    gws P pan Qn (.op false ⟨none, none, .st n x y⟩ s) Ls ρ d L := ⟨d, L, Vs.refl d L, i, b, o, T, l, hi, ex, by rw [ey]; exact hn, hl, by rw [ey]; exact h1, _, _, Vs.refl _ _, by rw [ey]; exact h⟩
theorem w_bsl {n sz : Nat} {z : List Value} {ps : List (Nat × Operand)} {cs : List Value} (hn : n * sz ≤ 16777216) (e : Instr.fill (fun i => some (i * sz, sz)) (zrow z (n * sz)).toArray (ps.map fun p => (p.1, ev ρ p.2)) = some cs.toArray)
    (h : ∀ b T, gws P pan Qn s Ls (upd ρ t (.slice (some ⟨b, 0, none⟩) n n)) d (bx b T cs :: L)) : gws P pan Qn (.op false ⟨some t, none, .bsl n sz z ps⟩ s) Ls ρ d L :=
  ⟨d, L, Vs.refl d L, hn, cs.toArray, e, fun b T => ⟨_, _, Vs.refl _ _, h b T⟩⟩
theorem w_mks {sz by_ : Nat} {z : List Value} {x y : Operand} {k k' : IntKind} {n c : Nat} (ex : ev ρ x = .int k (n : Nat)) (ey : ev ρ y = .int k' (c : Nat)) (h1 : n ≤ c) (h2 : c ≤ 9223372036854775807) (h3 : by_ * c ≤ 281474976710656)
    (h : ∀ b T, gws P pan Qn s Ls (upd ρ t (.slice (some ⟨b, 0, none⟩) n c)) d (bx b T (zrow z (c * sz)) :: L)) : gws P pan Qn (.op false ⟨some t, none, .mks sz by_ z x y⟩ s) Ls ρ d L :=
  ⟨d, L, Vs.refl d L, k, k', n, c, ex, ey, h1, h2, h3, fun b T => ⟨_, _, Vs.refl _ _, h b T⟩⟩

/-! ### calls -/
/-- A callee that wants no block and leaves none. -/
theorem w_call0 {f : FuncId} {args : List Operand} {R : Value → PHeap → List PHeap → Prop} {vs : List Value} (ea : args.map (ev ρ) = vs) (hc : GCall P f vs d [] (Ret R))
    (h : ∀ v d' L', Le d d' → R v d' L' → gws P pan Qn s Ls (upd ρ t v) d' (L' ++ L)) : gws P pan Qn (.op false ⟨some t, none, .call f args⟩ s) Ls ρ d L :=
  ⟨d, L, Vs.refl d L, [], L, Ret R, rfl, by rw [ea]; exact hc, fun e d' L' hl hr => by
    cases e with
    | returned v => exact ⟨_, _, Vs.refl _ _, h v d' L' hl hr⟩
    | panicked c => exact hr.elim
    | outgrown => exact hr⟩
/-- A callee that takes the first n blocks. -/
theorem w_calln (n : Nat) {f : FuncId} {args : List Operand} {R : Value → PHeap → List PHeap → Prop} {vs : List Value} (ea : args.map (ev ρ) = vs) (hc : GCall P f vs d (L.take n) (Ret R))
    (h : ∀ v d' L', Le d d' → R v d' L' → gws P pan Qn s Ls (upd ρ t v) d' (L' ++ L.drop n)) : gws P pan Qn (.op false ⟨some t, none, .call f args⟩ s) Ls ρ d L :=
  ⟨d, L, Vs.refl d L, L.take n, L.drop n, Ret R, by simp, by rw [ea]; exact hc, fun e d' L' hl hr => by
    cases e with
    | returned v => exact ⟨_, _, Vs.refl _ _, h v d' L' hl hr⟩
    | panicked c => exact hr.elim
    | outgrown => exact hr⟩
theorem w_callv (n : Nat) {f : Operand} {g : FuncId} {first cap : Array Value} {args : List Operand} {R : Value → PHeap → List PHeap → Prop} {vs : List Value} (ef : ev ρ f = .func (.func g) first cap)
    (ea : first.toList ++ args.map (ev ρ) ++ cap.toList = vs) (hc : GCall P g vs d (L.take n) (Ret R))
    (h : ∀ v d' L', Le d d' → R v d' L' → gws P pan Qn s Ls (upd ρ t v) d' (L' ++ L.drop n)) : gws P pan Qn (.op false ⟨some t, none, .callv f args⟩ s) Ls ρ d L :=
  ⟨d, L, Vs.refl d L, g, first, cap, L.take n, L.drop n, Ret R, ef, by simp, by rw [ea]; exact hc, fun e d' L' hl hr => by
    cases e with
    | returned v => exact ⟨_, _, Vs.refl _ _, h v d' L' hl hr⟩
    | panicked c => exact hr.elim
    | outgrown => exact hr⟩
end

/-! ### more may follow -/
theorem gop_mono {P : Program} {pan : List PanicEntry → Post} {g : GOp} {ρ : Env} {d : PHeap} {Lk L : List PHeap} {K K' : Env → Post} (hk : ∀ ρ d L, K ρ d L → K' ρ d L) (h : gop P pan g ρ d Lk L K) : gop P pan g ρ d Lk L K' := by
  have key : ∀ i, gi P pan ρ d Lk L (fun v d' L' => K (put ρ g.dst v) d' L') i → gi P pan ρ d Lk L (fun v d' L' => K' (put ρ g.dst v) d' L') i := by
    intro i h
    cases hq : i.quiet with
    | true =>
      rw [gi_quiet hq] at h ⊢
      obtain ⟨v, h1, h2⟩ := h
      exact ⟨v, h1, hk _ _ _ h2⟩
    | false =>
      cases i <;> try (simp [GI.quiet] at hq; done)
      · exact fun b T => hk _ _ _ (h b T)
      · exact fun b T => hk _ _ _ (h b T)
      · obtain ⟨i, b, o, T, l, h1, h2, h3, h4, h5, h6⟩ := h
        exact ⟨i, b, o, T, l, h1, h2, h3, h4, h5, hk _ _ _ h6⟩
      · obtain ⟨h1, cs, h2, h3⟩ := h
        exact ⟨h1, cs, h2, fun b T => hk _ _ _ (h3 b T)⟩
      · obtain ⟨k, k', n, c, h1, h2, h3, h4, h5, h6⟩ := h
        exact ⟨k, k', n, c, h1, h2, h3, h4, h5, fun b T => hk _ _ _ (h6 b T)⟩
      · obtain ⟨sa, n, c, xa, m, xc, news, h1, h2, h3, h4, h5, h6, h7, h8, h9, h10⟩ := h
        refine ⟨sa, n, c, xa, m, xc, news, h1, h2, h3, h4, h5, h6, h7, h8, fun hle => ?_, fun hlt => ?_⟩
        · rcases h9 hle with ⟨a, c⟩ | ⟨i, b, o, T, l, a1, a2, a3, a4⟩
          · exact .inl ⟨a, hk _ _ _ c⟩
          · exact .inr ⟨i, b, o, T, l, a1, a2, a3, hk _ _ _ a4⟩
        · obtain ⟨k1, olds, k2, k3, k4, k5⟩ := h10 hlt
          exact ⟨k1, olds, k2, k3, k4, fun b T c' e1 e2 => hk _ _ _ (k5 b T c' e1 e2)⟩
      · obtain ⟨L1, L2, R, h1, h2, h3⟩ := h
        refine ⟨L1, L2, R, h1, h2, fun e d' L' hl hr => ?_⟩
        have := h3 e d' L' hl hr
        cases e with
        | returned v => exact hk _ _ _ this
        | panicked c => exact this
        | outgrown => exact this
      · obtain ⟨g', first, cap, L1, L2, R, h0, h1, h2, h3⟩ := h
        refine ⟨g', first, cap, L1, L2, R, h0, h1, h2, fun e d' L' hl hr => ?_⟩
        have := h3 e d' L' hl hr
        cases e with
        | returned v => exact hk _ _ _ this
        | panicked c => exact this
        | outgrown => exact this
      · exact h
      · obtain ⟨l, h1, h2, h3⟩ := h
        exact ⟨l, h1, h2, fun b T c e1 e2 => hk _ _ _ (h3 b T c e1 e2)⟩
  unfold gop at h ⊢
  split at h
  · exact key _ h
  · rcases h with ⟨b, h1, h2, h3⟩ | ⟨h1, h2⟩
    · exact .inl ⟨b, h1, fun e => key _ (h2 e), fun e => hk _ _ _ (h3 e)⟩
    · exact .inr ⟨h1, hk _ _ _ h2⟩

theorem gws_mono {P : Program} {pan : List PanicEntry → Post} {Qn Qn' : Env → Post} (hq : ∀ ρ d L, Qn ρ d L → Qn' ρ d L) : ∀ (s : GS) {Ls : List PHeap} {ρ : Env} {d : PHeap} {L : List PHeap}, gws P pan Qn s Ls ρ d L → gws P pan Qn' s Ls ρ d L
  | .done, _, _, _, _, ⟨d1, L1, h1, h2⟩ => ⟨d1, L1, h1, hq _ _ _ h2⟩
  | .op true _ s, _, _, _, _, h => gop_mono (fun _ _ _ h => gws_mono hq s h) h
  | .op false _ s, _, _, _, _, ⟨d1, L1, h1, h2⟩ => ⟨d1, L1, h1, gop_mono (fun _ _ _ ⟨d3, L3, h3, h⟩ => ⟨d3, L3, h3, gws_mono hq s h⟩) h2⟩
  | .alt _ s t, _, _, _, _, ⟨⟨d1, L1, h1, h2⟩, h3⟩ => ⟨⟨d1, L1, h1, gop_mono (fun _ _ _ ⟨d3, L3, h3, h⟩ => ⟨d3, L3, h3, gws_mono hq s h⟩) h2⟩, gws_mono hq t h3⟩
  | .bar s, _, _, _, _, h => gws_mono hq s h

theorem gwp_mono' {P : Program} : ∀ (c : GCode) {Q Q' : GPost} {ρ : Env} {d : PHeap} {L : List PHeap}, gwp P c Q ρ d L → (∀ ρ d L, Q.n ρ d L → Q'.n ρ d L) → (∀ i ρ d L, Q.ex i ρ d L → Q'.ex i ρ d L) →
    (∀ ρ d L, Q.ret ρ d L → Q'.ret ρ d L) → Q.pan = Q'.pan → gwp P c Q' ρ d L
  | .skip, _, _, _, _, _, h, h1, _, _, _ => h1 _ _ _ h
  | .reg false s, _, _, _, _, _, h, h1, _, _, h4 => by simp only [gwp] at h ⊢; rw [← h4]; exact gws_mono h1 s h
  | .reg true s, _, _, _, _, _, h, h1, _, _, h4 => by
    simp only [gwp] at h ⊢
    obtain ⟨d1, Ls, L1, hv, h⟩ := h
    exact ⟨d1, Ls, L1, hv, by rw [← h4]; exact gws_mono h1 s h⟩
  | .seq a b, _, _, _, _, _, h, h1, h2, h3, h4 => by
    simp only [gwp] at h ⊢
    exact gwp_mono' a h (fun ρ d L h => gwp_mono' b h h1 h2 h3 h4) h2 h3 h4
  | .cond c a b, _, _, _, _, _, h, h1, h2, h3, h4 => by
    simp only [gwp] at h ⊢
    obtain ⟨t, ht, ha, hb⟩ := h
    exact ⟨t, ht, fun e => gwp_mono' a (ha e) h1 h2 h3 h4, fun e => gwp_mono' b (hb e) h1 h2 h3 h4⟩
  | .block id a, _, _, _, _, _, h, h1, h2, h3, h4 => by
    simp only [gwp] at h ⊢
    refine gwp_mono' a h h1 (fun i ρ d L h => ?_) h3 h4
    simp only at h ⊢
    split
    · rename_i e; rw [if_pos e] at h; exact h1 _ _ _ h
    · rename_i e; rw [if_neg e] at h; exact h2 _ _ _ _ h
  | .loop a, _, _, _, _, _, h, _, h2, h3, h4 => by
    simp only [gwp] at h ⊢
    obtain ⟨I, hI, round⟩ := h
    exact ⟨I, hI, fun m ρ d L hm => gwp_mono' a (round m ρ d L hm) (fun _ _ _ h => h) h2 h3 h4⟩
  | .exit i, _, _, _, _, _, h, _, h2, _, _ => h2 i _ _ _ h
  | .ret, _, _, _, _, _, h, _, _, h3, _ => h3 _ _ _ h
  | .bad, _, _, _, _, _, h, _, _, _, _ => h.elim

theorem gwp_mono {P : Program} {c : GCode} {Q : GPost} {N N' : Env → Post} (hn : ∀ ρ d L, N ρ d L → N' ρ d L) {ρ : Env} {d : PHeap} {L : List PHeap} (h : gwp P c { Q with n := N } ρ d L) : gwp P c { Q with n := N' } ρ d L :=
  gwp_mono' c h hn (fun _ _ _ _ h => h) (fun _ _ _ h => h) rfl

/-! ### structured code -/
theorem dcs_bx {d : PHeap} {b : Nat} {T : TypeId} {l : List Value} (h : Le (bx b T l) d) : DCs d b 0 l :=
  ⟨l.toArray, T, (0, 0), h _ _ (sg_self _ _), fun i u hu => by simpa using hu⟩
section
variable {P : Program} {Q : GPost} {ρ : Env} {d : PHeap} {L : List PHeap}
theorem w_reg {s : GS} (h : gws P Q.pan Q.n s [] ρ d L) : gwp P (.reg false s) Q ρ d L := h
/-- A region that draws its order, all blocks staying as they are up to its last operations. -/
theorem w_drawn {s : GS} (h : gws P Q.pan Q.n s L ρ d []) : gwp P (.reg true s) Q ρ d L := ⟨d, L, [], by rw [List.append_nil]; exact Vs.refl d L, h⟩
/-- A region that draws its order: the blocks 'is' stay, the blocks 'js' may be written. -/
theorem w_drawnS {s : GS} (is js : List Nat) (hp : (is ++ js).isPerm (List.range L.length) = true) (h : gws P Q.pan Q.n s (pick L is) ρ d (pick L js)) : gwp P (.reg true s) Q ρ d L :=
  ⟨d, pick L is, pick L js, by have := Vs.pick (d := d) (L := L) (is ++ js) hp; simpa [pick] using this, h⟩
theorem w_sq {a b : GCode} (h : gwp P a { Q with n := gwp P b Q } ρ d L) : gwp P (.seq a b) Q ρ d L := h
theorem w_skip (h : Q.n ρ d L) : gwp P .skip Q ρ d L := h
theorem w_ret (h : Q.ret ρ d L) : gwp P .ret Q ρ d L := h
theorem w_exit {i : Nat} (h : Q.ex i ρ d L) : gwp P (.exit i) Q ρ d L := h
theorem w_block {i : Nat} {a : GCode} (h : gwp P a { Q with ex := fun j => if j = i then Q.n else Q.ex j } ρ d L) : gwp P (.block i a) Q ρ d L := h
theorem w_if {c : Operand} {a b : GCode} {t : Bool} (e : ev ρ c = .bool t) (h1 : t = true → gwp P a Q ρ d L) (h2 : t = false → gwp P b Q ρ d L) : gwp P (.cond c a b) Q ρ d L := ⟨t, e, h1, h2⟩
theorem w_ifd {c : Operand} {a b : GCode} {p : Prop} [Decidable p] (e : ev ρ c = .bool (decide p)) (h1 : p → gwp P a Q ρ d L) (h2 : ¬ p → gwp P b Q ρ d L) : gwp P (.cond c a b) Q ρ d L :=
  ⟨decide p, e, fun h => h1 (of_decide_eq_true h), fun h => h2 (of_decide_eq_false h)⟩
theorem w_ifT {c : Operand} {a b : GCode} (e : ev ρ c = .bool true) (h : gwp P a Q ρ d L) : gwp P (.cond c a b) Q ρ d L := ⟨true, e, fun _ => h, fun e => by cases e⟩
theorem w_ifF {c : Operand} {a b : GCode} (e : ev ρ c = .bool false) (h : gwp P b Q ρ d L) : gwp P (.cond c a b) Q ρ d L := ⟨false, e, (fun e => by cases e), fun _ => h⟩
theorem w_ifdT {c : Operand} {a b : GCode} {p : Prop} [Decidable p] (e : ev ρ c = .bool (decide p)) (hp : p) (h : gwp P a Q ρ d L) : gwp P (.cond c a b) Q ρ d L := w_ifT (by rw [e]; simp [hp]) h
theorem w_ifdF {c : Operand} {a b : GCode} {p : Prop} [Decidable p] (e : ev ρ c = .bool (decide p)) (hp : ¬ p) (h : gwp P b Q ρ d L) : gwp P (.cond c a b) Q ρ d L := w_ifF (by rw [e]; simp [hp]) h
theorem w_ifbT {c : Operand} {a b : GCode} {t : Bool} (e : ev ρ c = .bool t) (hp : t = true) (h : gwp P a Q ρ d L) : gwp P (.cond c a b) Q ρ d L := w_ifT (by rw [e, hp]) h
theorem w_ifbF {c : Operand} {a b : GCode} {t : Bool} (e : ev ρ c = .bool t) (hp : t = false) (h : gwp P b Q ρ d L) : gwp P (.cond c a b) Q ρ d L := w_ifF (by rw [e, hp]) h
theorem w_loop {a : GCode} (I : Nat → Env → Post) (m : Nat) (h0 : I m ρ d L) (round : ∀ m ρ d L, I m ρ d L → gwp P a { Q with n := fun ρ d L => ∃ m', m' < m ∧ I m' ρ d L } ρ d L) : gwp P (.loop a) Q ρ d L :=
  ⟨I, ⟨m, h0⟩, round⟩

theorem gwp_env {g : Nat} {v : Value} {c : GCode} (e : ρ g = v) (h : gwp P c Q (upd ρ g v) d L) : gwp P c Q ρ d L := by rwa [upd_same e] at h
/-- The slots of a list hold what the list says. -/
def SlotsAre (ρ : Env) : List (Nat × Value) → Prop
  | [] => True
  | p :: l => ρ p.1 = p.2 ∧ SlotsAre ρ l
def updL (ρ : Env) : List (Nat × Value) → Env
  | [] => ρ
  | p :: l => upd (updL ρ l) p.1 p.2
theorem updL_same {ρ : Env} : ∀ {l : List (Nat × Value)}, SlotsAre ρ l → updL ρ l = ρ
  | [], _ => rfl
  | p :: l, ⟨h1, h2⟩ => by simp only [updL]; rw [updL_same h2]; exact upd_same h1
theorem gwp_slots {c : GCode} (l : List (Nat × Value)) (e : SlotsAre ρ l) (h : gwp P c Q (updL ρ l) d L) : gwp P c Q ρ d L := by rwa [updL_same e] at h
/-- A loop: 'x' is what goes from round to round; 'slots x': what the slots hold; 'inv x': data and blocks. -/
theorem w_loopS {α : Type} {a : GCode} (slots : α → List (Nat × Value)) (inv : α → PHeap → List PHeap → Prop) (meas : α → Nat) (x0 : α) (h0 : SlotsAre ρ (slots x0)) (i0 : inv x0 d L)
    (round : ∀ x ρ d L, inv x d L → gwp P a { Q with n := fun ρ d L => ∃ x', meas x' < meas x ∧ SlotsAre ρ (slots x') ∧ inv x' d L } (updL ρ (slots x)) d L) : gwp P (.loop a) Q ρ d L := by
  refine w_loop (fun m ρ d L => ∃ x, meas x = m ∧ SlotsAre ρ (slots x) ∧ inv x d L) (meas x0) ⟨x0, rfl, h0, i0⟩ ?_
  rintro m ρ d L ⟨x, rfl, h1, h2⟩
  refine gwp_slots _ h1 (gwp_mono (fun ρ' d' L' ⟨x', k1, k2, k3⟩ => ⟨meas x', k1, x', rfl, k2, k3⟩) (round x ρ d L h2))
/-- The same where the data stay, and the blocks are a function of 'x'. -/
theorem w_loopN {α : Type} {a : GCode} (slots : α → List (Nat × Value)) (Lx : α → List PHeap) (ok : α → Prop) (meas : α → Nat) (x0 : α) (h0 : SlotsAre ρ (slots x0)) (hL : L = Lx x0) (hok : ok x0)
    (round : ∀ x ρ, ok x → gwp P a { Q with n := fun ρ d' L' => ∃ x', meas x' < meas x ∧ SlotsAre ρ (slots x') ∧ d' = d ∧ L' = Lx x' ∧ ok x' } (updL ρ (slots x)) d (Lx x)) : gwp P (.loop a) Q ρ d L :=
  w_loopS slots (fun x d' L' => d' = d ∧ L' = Lx x ∧ ok x) meas x0 h0 ⟨rfl, hL, hok⟩ (fun x ρ d' L' ⟨h1, h2, h3⟩ => by subst h1; subst h2; exact round x ρ h3)
/-- Ways meet again: 'M' is what holds there. -/
theorem w_mid {a b : GCode} (M : Env → Post) (h1 : gwp P a { Q with n := M } ρ d L) (h2 : ∀ ρ d L, M ρ d L → gwp P b Q ρ d L) : gwp P (.seq a b) Q ρ d L :=
  w_sq (gwp_mono h2 h1)

/-- All blocks become data. -/
theorem Vs.frzAll (d : PHeap) : ∀ L : List PHeap, ∃ d', Vs d L d' [] ∧ Le d d' ∧ ∀ h ∈ L, Le h d'
  | [] => ⟨d, Vs.refl d [], Le.refl d, fun _ h => by cases h⟩
  | h :: L => by
    obtain ⟨d', h1, h2, h3⟩ := Vs.frzAll (Gk.join d h) L
    refine ⟨d', Vs.freeze.trans h1, (Le.join_left d h).trans h2, fun k hk => ?_⟩
    rcases List.mem_cons.1 hk with rfl | hk
    · exact (Le.join_right d k).trans h2
    · exact h3 k hk

/-! ### the end -/
theorem fin1F {R : Ending → PHeap → List PHeap → Prop} {t : Nat} {v : Value} (e : ρ t = v) (h : ∀ d', Le d d' → (∀ k ∈ L, Le k d') → R (.returned v) d' []) : retPost [.tmp t] R ρ d L :=
  let ⟨d', h1, h2, h3⟩ := Vs.frzAll d L
  ⟨[v], ⟨e.symm, trivial⟩, d', [], h1, h d' h2 h3⟩
theorem fin2F {R : Ending → PHeap → List PHeap → Prop} {t u : Nat} {v w : Value} (e : ρ t = v) (e' : ρ u = w) (h : ∀ d', Le d d' → (∀ k ∈ L, Le k d') → R (.returned (.tuple #[v, w])) d' []) : retPost [.tmp t, .tmp u] R ρ d L :=
  let ⟨d', h1, h2, h3⟩ := Vs.frzAll d L
  ⟨[v, w], ⟨e.symm, e'.symm, trivial⟩, d', [], h1, h d' h2 h3⟩
theorem fin1 {R : Ending → PHeap → List PHeap → Prop} {t : Nat} {v : Value} {L' : List PHeap} (e : ρ t = v) (hs : L'.Sublist L) (h : R (.returned v) d L') : retPost [.tmp t] R ρ d L :=
  ⟨[v], ⟨e.symm, trivial⟩, d, L', Vs.drop hs, h⟩
theorem fin1n {R : Ending → PHeap → List PHeap → Prop} {t : Nat} {v : Value} (e : ρ t = v) (h : R (.returned v) d []) : retPost [.tmp t] R ρ d L := fin1 e (List.nil_sublist L) h
theorem fin2 {R : Ending → PHeap → List PHeap → Prop} {t u : Nat} {v w : Value} {L' : List PHeap} (e : ρ t = v) (e' : ρ u = w) (hs : L'.Sublist L) (h : R (.returned (.tuple #[v, w])) d L') : retPost [.tmp t, .tmp u] R ρ d L :=
  ⟨[v, w], ⟨e.symm, e'.symm, trivial⟩, d, L', Vs.drop hs, h⟩
theorem fin2n {R : Ending → PHeap → List PHeap → Prop} {t u : Nat} {v w : Value} (e : ρ t = v) (e' : ρ u = w) (h : R (.returned (.tuple #[v, w])) d []) : retPost [.tmp t, .tmp u] R ρ d L := fin2 e e' (List.nil_sublist L) h
end

end Go.Gk
end

section
/-
  Data as a program reads it: slices of whatever elements, byte slices, strings, integers; contracts that only compute.
-/
namespace Go.Gk
open Go

/-- A contract of a function that only computes. -/
def GPure (P : Program) (f : FuncId) (args : List Value) (d : PHeap) (v : Value) : Prop := GCall P f args d [] (Ret fun r d' L' => r = v ∧ d' = d ∧ L' = [])

section
variable {P : Program} {pan : List PanicEntry → Post} {Qn : Env → Post} {Ls L : List PHeap} {ρ : Env} {d : PHeap} {tk : Bool} {s : GS} {t : Nat}
theorem w_pure {f : FuncId} {args : List Operand} {vs : List Value} {v : Value} (ea : args.map (ev ρ) = vs) (hc : GPure P f vs d v)
    (h : gws P pan Qn s Ls (upd ρ t v) d L) : gws P pan Qn (.op false ⟨some t, none, .call f args⟩ s) Ls ρ d L :=
  w_call0 ea hc (fun r d' L' _ ⟨h1, h2, h3⟩ => by subst h1; subst h2; subst h3; exact h)
end

section
variable {P : Program} {pan : List PanicEntry → Post} {Qn : Env → Post} {Ls L : List PHeap} {ρ : Env} {d : PHeap} {tk : Bool} {s : GS} {t : Nat}
theorem w_purev {f : Operand} {g : FuncId} {first cap : Array Value} {args : List Operand} {vs : List Value} {v : Value} (ef : ev ρ f = .func (.func g) first cap) (ea : first.toList ++ args.map (ev ρ) ++ cap.toList = vs) (hc : GPure P g vs d v)
    (h : gws P pan Qn s Ls (upd ρ t v) d L) : gws P pan Qn (.op false ⟨some t, none, .callv f args⟩ s) Ls ρ d L :=
  w_callv 0 ef ea hc (fun r d' L' _ ⟨h1, h2, h3⟩ => by subst h1; subst h2; subst h3; exact h)
end

theorem int_eq {k : IntKind} {a b : Int} (h : a = b) : Value.int k a = Value.int k b := by rw [h]
theorem bool_eq {a b : Bool} (h : a = b) : Value.bool a = Value.bool b := by rw [h]
theorem finPi {ρ : Env} {d : PHeap} {L : List PHeap} {t : Nat} {k : IntKind} {a b : Int} (e : ρ t = .int k a) (h : a = b) : retPost [.tmp t] (Ret fun r d' L' => r = .int k b ∧ d' = d ∧ L' = []) ρ d L :=
  fin1n e ⟨by rw [h], rfl, rfl⟩
theorem finPb {ρ : Env} {d : PHeap} {L : List PHeap} {t : Nat} {a b : Bool} (e : ρ t = .bool a) (h : a = b) : retPost [.tmp t] (Ret fun r d' L' => r = .bool b ∧ d' = d ∧ L' = []) ρ d L :=
  fin1n e ⟨by rw [h], rfl, rfl⟩

theorem finPv {ρ : Env} {d : PHeap} {L : List PHeap} {t : Nat} {v : Value} (e : ρ t = v) : retPost [.tmp t] (Ret fun r d' L' => r = v ∧ d' = d ∧ L' = []) ρ d L := fin1n e ⟨rfl, rfl, rfl⟩
theorem finPv2 {ρ : Env} {d : PHeap} {L : List PHeap} {t u : Nat} {v w : Value} (e : ρ t = v) (e' : ρ u = w) : retPost [.tmp t, .tmp u] (Ret fun r d' L' => r = .tuple #[v, w] ∧ d' = d ∧ L' = []) ρ d L := fin2n e e' ⟨rfl, rfl, rfl⟩

theorem finPib {ρ : Env} {d : PHeap} {L : List PHeap} {t u : Nat} {k : IntKind} {a a' : Int} {p q : Bool} (e : ρ t = .int k a) (e' : ρ u = .bool p) (h : a = a') (h' : p = q) :
    retPost [.tmp t, .tmp u] (Ret fun r d' L' => r = .tuple #[.int k a', .bool q] ∧ d' = d ∧ L' = []) ρ d L := fin2n e e' ⟨by rw [h, h'], rfl, rfl⟩

/-- A slice that reads as the list 'xs': each element lies in 'sz' cells, which read as R says. -/
def RSl {α : Type} (sz : Nat) (R : PHeap → List Value → α → Prop) (d : PHeap) (v : Value) (xs : List α) : Prop :=
  ∃ a c b o, v = .slice a xs.length c ∧ SAd a xs.length b o ∧ (c ≠ 0 → ∀ a', a = some a' → a'.spot = none) ∧ (a = none → c = 0) ∧ xs.length ≤ c ∧ c ≤ 9223372036854775807 ∧ xs.length ≤ 140737488355328 ∧
    ∀ i (h : i < xs.length), ∃ cs, cs.length = sz ∧ DCs d b (o + i * sz) cs ∧ R d cs xs[i]

theorem RSl.mono {α : Type} {sz : Nat} {R : PHeap → List Value → α → Prop} (hR : ∀ {d d' cs x}, Le d d' → R d cs x → R d' cs x) {d d' : PHeap} {v : Value} {xs : List α} (h : RSl sz R d v xs) (hl : Le d d') : RSl sz R d' v xs :=
  let ⟨a, c, b, o, h1, h2, h3, h4, h5, h6, h7, h8⟩ := h
  ⟨a, c, b, o, h1, h2, h3, h4, h5, h6, h7, fun i hi => let ⟨cs, k1, k2, k3⟩ := h8 i hi; ⟨cs, k1, k2.mono hl, hR hl k3⟩⟩

theorem RSl.nil {α : Type} {sz : Nat} {R : PHeap → List Value → α → Prop} {d : PHeap} : RSl sz R d (.slice none 0 0) ([] : List α) :=
  ⟨none, 0, 0, 0, rfl, fun h => absurd rfl h, fun _ _ h => (nomatch h), fun _ => rfl, Nat.le_refl _, by omega, Nat.zero_le _, fun i h => absurd h (Nat.not_lt_zero i)⟩

theorem RSl.len_le {α : Type} {sz : Nat} {R : PHeap → List Value → α → Prop} {d : PHeap} {v : Value} {xs : List α} (h : RSl sz R d v xs) : xs.length ≤ 140737488355328 :=
  let ⟨_, _, _, _, _, _, _, _, _, _, h7, _⟩ := h
  h7

def RByte (_ : PHeap) (cs : List Value) (x : UInt8) : Prop := cs = [byteV x]
def RInt (_ : PHeap) (cs : List Value) (x : Int) : Prop := cs = [.int .i64 x] ∧ -9223372036854775808 ≤ x ∧ x ≤ 9223372036854775807
def RStr (_ : PHeap) (cs : List Value) (x : List UInt8) : Prop := cs = [strV x] ∧ x.length ≤ 140737488355328
def RBytes (d : PHeap) (v : Value) (l : List UInt8) : Prop := RSl 1 RByte d v l
def RInts (d : PHeap) (v : Value) (l : List Int) : Prop := RSl 1 RInt d v l
def RStrs (d : PHeap) (v : Value) (l : List (List UInt8)) : Prop := RSl 1 RStr d v l
def RBs (d : PHeap) (cs : List Value) (l : List UInt8) : Prop := ∃ u, cs = [u] ∧ RBytes d u l
def RBss (d : PHeap) (v : Value) (l : List (List UInt8)) : Prop := RSl 1 RBs d v l

theorem RBytes.len_le {d : PHeap} {v : Value} {l : List UInt8} (h : RBytes d v l) : l.length ≤ 140737488355328 := RSl.len_le h
theorem RBytes.mono {d d' : PHeap} {v : Value} {l : List UInt8} (h : RBytes d v l) (hl : Le d d') : RBytes d' v l := RSl.mono (fun _ h => h) h hl
theorem RInts.mono {d d' : PHeap} {v : Value} {l : List Int} (h : RInts d v l) (hl : Le d d') : RInts d' v l := RSl.mono (fun _ h => h) h hl
theorem RStrs.mono {d d' : PHeap} {v : Value} {l : List (List UInt8)} (h : RStrs d v l) (hl : Le d d') : RStrs d' v l := RSl.mono (fun _ h => h) h hl
theorem RBss.mono {d d' : PHeap} {v : Value} {l : List (List UInt8)} (h : RBss d v l) (hl : Le d d') : RBss d' v l := RSl.mono (fun hl ⟨u, h1, h2⟩ => ⟨u, h1, h2.mono hl⟩) h hl


/-! ### steps over what is read -/
section
variable {P : Program} {pan : List PanicEntry → Post} {Qn : Env → Post} {Ls L : List PHeap} {ρ : Env} {d : PHeap} {tk : Bool} {s : GS} {t : Nat}
theorem w_lenR {α : Type} {sz : Nat} {R : PHeap → List Value → α → Prop} {x : Operand} {v : Value} {xs : List α} (ex : ev ρ x = v) (hr : RSl sz R d v xs) (h : gws P pan Qn s Ls (upd ρ t (.int .i64 xs.length)) d L) :
    gws P pan Qn (.op tk ⟨some t, none, .len x⟩ s) Ls ρ d L := by
  obtain ⟨a, c, b, o, rfl, _⟩ := hr
  exact w_len ex h
theorem w_b2sR {x : Operand} {v : Value} {l : List UInt8} (ex : ev ρ x = v) (hr : RBytes d v l) (h : gws P pan Qn s Ls (upd ρ t (strV l)) d L) : gws P pan Qn (.op tk ⟨some t, none, .b2s x⟩ s) Ls ρ d L := by
  obtain ⟨a, c, b, o, rfl, h2, h3, h4, h5, h6, h7, h8⟩ := hr
  refine w_b2s (b := b) (o := o) ex rfl h2 (fun i u hu => ?_) h
  obtain ⟨hi, rfl⟩ := List.getElem?_eq_some_iff.1 hu
  obtain ⟨cs, k1, k2, k3⟩ := h8 i hi
  have k3 : cs = [byteV l[i]] := k3
  subst k3
  rw [Nat.mul_one] at k2
  exact hc_d k2.one
theorem bytesAt_R {C : Addr → Value → Prop} {v : Value} {l : List UInt8} (hr : RBytes d v l) (hC : ∀ b o u, DC d b o u → C ⟨b, o, none⟩ u) : bytesAt C v l := by
  obtain ⟨a, c, b, o, rfl, h2, h3, h4, h5, h6, h7, h8⟩ := hr
  refine .inr ⟨a, c, rfl, fun e => ?_, fun a' ha i u hu => ?_⟩
  · cases l with
    | nil => rfl
    | cons u us => have := h2 (by simp); rw [e] at this; cases this
  · obtain ⟨hi, rfl⟩ := List.getElem?_eq_some_iff.1 hu
    have e := h2 (by omega)
    rw [ha] at e; cases e
    obtain ⟨cs, k1, k2, k3⟩ := h8 i hi
    have k3 : cs = [byteV l[i]] := k3
    subst k3
    rw [Nat.mul_one] at k2
    rw [Addr.add_lit]
    exact hC _ _ _ k2.one
theorem w_bcmpR {x y : Operand} {v w : Value} {l m : List UInt8} (ex : ev ρ x = v) (ey : ev ρ y = w) (hr : RBytes d v l) (hr' : RBytes d w m) (h : gws P pan Qn s Ls (upd ρ t (.int .i64 (Lib.compareBytes l m))) d L) :
    gws P pan Qn (.op tk ⟨some t, none, .bcmp x y⟩ s) Ls ρ d L := by
  subst ex; subst ey
  exact w_bcmp (bytesAt_R hr fun _ _ _ h => hc_d h) (bytesAt_R hr' fun _ _ _ h => hc_d h) h
theorem w_bcmpS {x y : Operand} {l m : List UInt8} (ex : ev ρ x = strV l) (ey : ev ρ y = strV m) (h : gws P pan Qn s Ls (upd ρ t (.int .i64 (Lib.compareBytes l m))) d L) :
    gws P pan Qn (.op tk ⟨some t, none, .bcmp x y⟩ s) Ls ρ d L := w_bcmp (.inl ex) (.inl ey) h
end

/-! ### the order of byte strings -/
theorem bl_irrefl : ∀ a : List UInt8, Op.bytesLess a a = false
  | [] => rfl
  | a :: l => by simp [Op.bytesLess, bl_irrefl l]
theorem bl_trans : ∀ {a b c : List UInt8}, Op.bytesLess a b = true → Op.bytesLess b c = true → Op.bytesLess a c = true
  | _, [], _, h, _ => by cases ‹List UInt8› <;> simp [Op.bytesLess] at h
  | _, _ :: _, [], _, h => by simp [Op.bytesLess] at h
  | [], _ :: _, _ :: _, _, _ => by simp [Op.bytesLess]
  | a :: l, b :: m, c :: n, h1, h2 => by
    simp only [Op.bytesLess, Bool.or_eq_true, Bool.and_eq_true, decide_eq_true_eq, beq_iff_eq, UInt8.lt_iff_toNat_lt] at h1 h2 ⊢
    rcases h1 with h1 | ⟨rfl, h1⟩
    · rcases h2 with h2 | ⟨rfl, h2⟩
      · exact .inl (by omega)
      · exact .inl h1
    · rcases h2 with h2 | ⟨rfl, h2⟩
      · exact .inl h2
      · exact .inr ⟨rfl, bl_trans h1 h2⟩
theorem bl_total : ∀ a b : List UInt8, Op.bytesLess a b = true ∨ a = b ∨ Op.bytesLess b a = true
  | [], [] => .inr (.inl rfl)
  | [], _ :: _ => .inl rfl
  | _ :: _, [] => .inr (.inr rfl)
  | a :: l, b :: m => by
    simp only [Op.bytesLess, Bool.or_eq_true, Bool.and_eq_true, decide_eq_true_eq, beq_iff_eq, UInt8.lt_iff_toNat_lt, List.cons.injEq]
    rcases Nat.lt_trichotomy a.toNat b.toNat with h | h | h
    · exact .inl (.inl h)
    · have h : a = b := UInt8.toNat_inj.1 h
      subst h
      rcases bl_total l m with h | h | h
      · exact .inl (.inr ⟨rfl, h⟩)
      · exact .inr (.inl ⟨rfl, h⟩)
      · exact .inr (.inr (.inr ⟨rfl, h⟩))
    · exact .inr (.inr (.inl h))
theorem bl_asymm {a b : List UInt8} (h : Op.bytesLess a b = true) : Op.bytesLess b a = false := by
  cases e : Op.bytesLess b a with
  | false => rfl
  | true => have := bl_trans h e; rw [bl_irrefl] at this; cases this
theorem cmp_lt : ∀ a b : List UInt8, Lib.compareBytes a b < 0 ↔ Op.bytesLess a b = true
  | [], [] => by simp [Lib.compareBytes, Op.bytesLess]
  | [], _ :: _ => by simp [Lib.compareBytes, Op.bytesLess]
  | _ :: _, [] => by simp [Lib.compareBytes, Op.bytesLess]
  | a :: l, b :: m => by
    have ih := cmp_lt l m
    simp only [Lib.compareBytes, Op.bytesLess, Bool.or_eq_true, Bool.and_eq_true, decide_eq_true_eq, beq_iff_eq, UInt8.lt_iff_toNat_lt]
    split
    · simp_all
    · split
      · rename_i h1 h2
        constructor
        · intro h; omega
        · rintro (h | ⟨rfl, _⟩) <;> omega
      · rename_i h1 h2
        have : a = b := UInt8.toNat_inj.1 (by omega)
        subst this
        rw [ih]; simp
theorem cmp_eq0 : ∀ a b : List UInt8, Lib.compareBytes a b = 0 ↔ a = b
  | [], [] => by simp [Lib.compareBytes]
  | [], _ :: _ => by simp [Lib.compareBytes]
  | _ :: _, [] => by simp [Lib.compareBytes]
  | a :: l, b :: m => by
    have ih := cmp_eq0 l m
    simp only [Lib.compareBytes, UInt8.lt_iff_toNat_lt, List.cons.injEq]
    split
    · rename_i h
      constructor
      · intro h; omega
      · rintro ⟨rfl, _⟩; omega
    · split
      · rename_i h1 h2
        constructor
        · intro h; omega
        · rintro ⟨rfl, _⟩; omega
      · rename_i h1 h2
        have : a = b := UInt8.toNat_inj.1 (by omega)
        subst this
        rw [ih]; simp

end Go.Gk
end
