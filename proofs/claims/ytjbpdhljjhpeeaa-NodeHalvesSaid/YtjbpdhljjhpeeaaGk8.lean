/-
  Data as a program reads it: slices of whatever elements, byte slices, strings, integers; contracts that only compute.
-/
import Derived.Test.YtjbpdhljjhpeeaaGk7
namespace Go.Gk
open Go

/-- A contract of a function that only computes. -/
def GPure (P : Program) (f : FuncId) (args : List Value) (d : PHeap) (v : Value) : Prop := GCall P f args d [] (Ret fun r d' L' => r = v ∧ d' = d ∧ L' = [])

section
variable {P : Program} {pan : List PanicEntry → Post} {Qn : Env → Post} {Ls L : List PHeap} {ρ : Env} {d : PHeap} {tk : Bool} {s : GS} {t : Nat}
theorem w_pure {f : FuncId} {args : List Operand} {vs : List Value} {v : Value} (ea : args.map (ev ρ) = vs) (hc : GPure P f vs d v)
    (h : gws P pan Qn s Ls (upd ρ t v) d L) : gws P pan Qn (.op false ⟨some t, none, .call f args⟩ s) Ls ρ d L :=
  w_call0 ea hc (fun r d' L' _ ⟨h1, h2, h3⟩ => by subst h1; subst h2; subst h3; exact h)
end

section
variable {P : Program} {pan : List PanicEntry → Post} {Qn : Env → Post} {Ls L : List PHeap} {ρ : Env} {d : PHeap} {tk : Bool} {s : GS} {t : Nat}
theorem w_purev {f : Operand} {g : FuncId} {first cap : Array Value} {args : List Operand} {vs : List Value} {v : Value} (ef : ev ρ f = .func (.func g) first cap) (ea : first.toList ++ args.map (ev ρ) ++ cap.toList = vs) (hc : GPure P g vs d v)
    (h : gws P pan Qn s Ls (upd ρ t v) d L) : gws P pan Qn (.op false ⟨some t, none, .callv f args⟩ s) Ls ρ d L :=
  w_callv 0 ef ea hc (fun r d' L' _ ⟨h1, h2, h3⟩ => by subst h1; subst h2; subst h3; exact h)
end

theorem int_eq {k : IntKind} {a b : Int} (h : a = b) : Value.int k a = Value.int k b := by rw [h]
theorem bool_eq {a b : Bool} (h : a = b) : Value.bool a = Value.bool b := by rw [h]
theorem finPi {ρ : Env} {d : PHeap} {L : List PHeap} {t : Nat} {k : IntKind} {a b : Int} (e : ρ t = .int k a) (h : a = b) : retPost [.tmp t] (Ret fun r d' L' => r = .int k b ∧ d' = d ∧ L' = []) ρ d L :=
  fin1n e ⟨by rw [h], rfl, rfl⟩
theorem finPb {ρ : Env} {d : PHeap} {L : List PHeap} {t : Nat} {a b : Bool} (e : ρ t = .bool a) (h : a = b) : retPost [.tmp t] (Ret fun r d' L' => r = .bool b ∧ d' = d ∧ L' = []) ρ d L :=
  fin1n e ⟨by rw [h], rfl, rfl⟩

theorem finPv {ρ : Env} {d : PHeap} {L : List PHeap} {t : Nat} {v : Value} (e : ρ t = v) : retPost [.tmp t] (Ret fun r d' L' => r = v ∧ d' = d ∧ L' = []) ρ d L := fin1n e ⟨rfl, rfl, rfl⟩
theorem finPv2 {ρ : Env} {d : PHeap} {L : List PHeap} {t u : Nat} {v w : Value} (e : ρ t = v) (e' : ρ u = w) : retPost [.tmp t, .tmp u] (Ret fun r d' L' => r = .tuple #[v, w] ∧ d' = d ∧ L' = []) ρ d L := fin2n e e' ⟨rfl, rfl, rfl⟩

theorem finPib {ρ : Env} {d : PHeap} {L : List PHeap} {t u : Nat} {k : IntKind} {a a' : Int} {p q : Bool} (e : ρ t = .int k a) (e' : ρ u = .bool p) (h : a = a') (h' : p = q) :
    retPost [.tmp t, .tmp u] (Ret fun r d' L' => r = .tuple #[.int k a', .bool q] ∧ d' = d ∧ L' = []) ρ d L := fin2n e e' ⟨by rw [h, h'], rfl, rfl⟩

/-- A slice that reads as the list 'xs': each element lies in 'sz' cells, which read as R says. -/
def RSl {α : Type} (sz : Nat) (R : PHeap → List Value → α → Prop) (d : PHeap) (v : Value) (xs : List α) : Prop :=
  ∃ a c b o, v = .slice a xs.length c ∧ SAd a xs.length b o ∧ (c ≠ 0 → ∀ a', a = some a' → a'.spot = none) ∧ (a = none → c = 0) ∧ xs.length ≤ c ∧ c ≤ 9223372036854775807 ∧ xs.length ≤ 140737488355328 ∧
    ∀ i (h : i < xs.length), ∃ cs, cs.length = sz ∧ DCs d b (o + i * sz) cs ∧ R d cs xs[i]

theorem RSl.mono {α : Type} {sz : Nat} {R : PHeap → List Value → α → Prop} (hR : ∀ {d d' cs x}, Le d d' → R d cs x → R d' cs x) {d d' : PHeap} {v : Value} {xs : List α} (h : RSl sz R d v xs) (hl : Le d d') : RSl sz R d' v xs :=
  let ⟨a, c, b, o, h1, h2, h3, h4, h5, h6, h7, h8⟩ := h
  ⟨a, c, b, o, h1, h2, h3, h4, h5, h6, h7, fun i hi => let ⟨cs, k1, k2, k3⟩ := h8 i hi; ⟨cs, k1, k2.mono hl, hR hl k3⟩⟩

theorem RSl.nil {α : Type} {sz : Nat} {R : PHeap → List Value → α → Prop} {d : PHeap} : RSl sz R d (.slice none 0 0) ([] : List α) :=
  ⟨none, 0, 0, 0, rfl, fun h => absurd rfl h, fun _ _ h => (nomatch h), fun _ => rfl, Nat.le_refl _, by omega, Nat.zero_le _, fun i h => absurd h (Nat.not_lt_zero i)⟩

theorem RSl.len_le {α : Type} {sz : Nat} {R : PHeap → List Value → α → Prop} {d : PHeap} {v : Value} {xs : List α} (h : RSl sz R d v xs) : xs.length ≤ 140737488355328 :=
  let ⟨_, _, _, _, _, _, _, _, _, _, h7, _⟩ := h
  h7

def RByte (_ : PHeap) (cs : List Value) (x : UInt8) : Prop := cs = [byteV x]
def RInt (_ : PHeap) (cs : List Value) (x : Int) : Prop := cs = [.int .i64 x] ∧ -9223372036854775808 ≤ x ∧ x ≤ 9223372036854775807
def RStr (_ : PHeap) (cs : List Value) (x : List UInt8) : Prop := cs = [strV x] ∧ x.length ≤ 140737488355328
def RBytes (d : PHeap) (v : Value) (l : List UInt8) : Prop := RSl 1 RByte d v l
def RInts (d : PHeap) (v : Value) (l : List Int) : Prop := RSl 1 RInt d v l
def RStrs (d : PHeap) (v : Value) (l : List (List UInt8)) : Prop := RSl 1 RStr d v l
def RBs (d : PHeap) (cs : List Value) (l : List UInt8) : Prop := ∃ u, cs = [u] ∧ RBytes d u l
def RBss (d : PHeap) (v : Value) (l : List (List UInt8)) : Prop := RSl 1 RBs d v l

theorem RBytes.len_le {d : PHeap} {v : Value} {l : List UInt8} (h : RBytes d v l) : l.length ≤ 140737488355328 := RSl.len_le h
theorem RBytes.mono {d d' : PHeap} {v : Value} {l : List UInt8} (h : RBytes d v l) (hl : Le d d') : RBytes d' v l := RSl.mono (fun _ h => h) h hl
theorem RInts.mono {d d' : PHeap} {v : Value} {l : List Int} (h : RInts d v l) (hl : Le d d') : RInts d' v l := RSl.mono (fun _ h => h) h hl
theorem RStrs.mono {d d' : PHeap} {v : Value} {l : List (List UInt8)} (h : RStrs d v l) (hl : Le d d') : RStrs d' v l := RSl.mono (fun _ h => h) h hl
theorem RBss.mono {d d' : PHeap} {v : Value} {l : List (List UInt8)} (h : RBss d v l) (hl : Le d d') : RBss d' v l := RSl.mono (fun hl ⟨u, h1, h2⟩ => ⟨u, h1, h2.mono hl⟩) h hl


/-! ### steps over what is read -/
section
variable {P : Program} {pan : List PanicEntry → Post} {Qn : Env → Post} {Ls L : List PHeap} {ρ : Env} {d : PHeap} {tk : Bool} {s : GS} {t : Nat}
theorem w_lenR {α : Type} {sz : Nat} {R : PHeap → List Value → α → Prop} {x : Operand} {v : Value} {xs : List α} (ex : ev ρ x = v) (hr : RSl sz R d v xs) (h : gws P pan Qn s Ls (upd ρ t (.int .i64 xs.length)) d L) :
    gws P pan Qn (.op tk ⟨some t, none, .len x⟩ s) Ls ρ d L := by
  obtain ⟨a, c, b, o, rfl, _⟩ := hr
  exact w_len ex h
theorem w_b2sR {x : Operand} {v : Value} {l : List UInt8} (ex : ev ρ x = v) (hr : RBytes d v l) (h : gws P pan Qn s Ls (upd ρ t (strV l)) d L) : gws P pan Qn (.op tk ⟨some t, none, .b2s x⟩ s) Ls ρ d L := by
  obtain ⟨a, c, b, o, rfl, h2, h3, h4, h5, h6, h7, h8⟩ := hr
  refine w_b2s (b := b) (o := o) ex rfl h2 (fun i u hu => ?_) h
  obtain ⟨hi, rfl⟩ := List.getElem?_eq_some_iff.1 hu
  obtain ⟨cs, k1, k2, k3⟩ := h8 i hi
  have k3 : cs = [byteV l[i]] := k3
  subst k3
  rw [Nat.mul_one] at k2
  exact hc_d k2.one
theorem bytesAt_R {C : Addr → Value → Prop} {v : Value} {l : List UInt8} (hr : RBytes d v l) (hC : ∀ b o u, DC d b o u → C ⟨b, o, none⟩ u) : bytesAt C v l := by
  obtain ⟨a, c, b, o, rfl, h2, h3, h4, h5, h6, h7, h8⟩ := hr
  refine .inr ⟨a, c, rfl, fun e => ?_, fun a' ha i u hu => ?_⟩
  · cases l with
    | nil => rfl
    | cons u us => have := h2 (by simp); rw [e] at this; cases this
  · obtain ⟨hi, rfl⟩ := List.getElem?_eq_some_iff.1 hu
    have e := h2 (by omega)
    rw [ha] at e; cases e
    obtain ⟨cs, k1, k2, k3⟩ := h8 i hi
    have k3 : cs = [byteV l[i]] := k3
    subst k3
    rw [Nat.mul_one] at k2
    rw [Addr.add_lit]
    exact hC _ _ _ k2.one
theorem w_bcmpR {x y : Operand} {v w : Value} {l m : List UInt8} (ex : ev ρ x = v) (ey : ev ρ y = w) (hr : RBytes d v l) (hr' : RBytes d w m) (h : gws P pan Qn s Ls (upd ρ t (.int .i64 (Lib.compareBytes l m))) d L) :
    gws P pan Qn (.op tk ⟨some t, none, .bcmp x y⟩ s) Ls ρ d L := by
  subst ex; subst ey
  exact w_bcmp (bytesAt_R hr fun _ _ _ h => hc_d h) (bytesAt_R hr' fun _ _ _ h => hc_d h) h
theorem w_bcmpS {x y : Operand} {l m : List UInt8} (ex : ev ρ x = strV l) (ey : ev ρ y = strV m) (h : gws P pan Qn s Ls (upd ρ t (.int .i64 (Lib.compareBytes l m))) d L) :
    gws P pan Qn (.op tk ⟨some t, none, .bcmp x y⟩ s) Ls ρ d L := w_bcmp (.inl ex) (.inl ey) h
end

/-! ### the order of byte strings -/
theorem bl_irrefl : ∀ a : List UInt8, Op.bytesLess a a = false
  | [] => rfl
  | a :: l => by simp [Op.bytesLess, bl_irrefl l]
theorem bl_trans : ∀ {a b c : List UInt8}, Op.bytesLess a b = true → Op.bytesLess b c = true → Op.bytesLess a c = true
  | _, [], _, h, _ => by cases ‹List UInt8› <;> simp [Op.bytesLess] at h
  | _, _ :: _, [], _, h => by simp [Op.bytesLess] at h
  | [], _ :: _, _ :: _, _, _ => by simp [Op.bytesLess]
  | a :: l, b :: m, c :: n, h1, h2 => by
    simp only [Op.bytesLess, Bool.or_eq_true, Bool.and_eq_true, decide_eq_true_eq, beq_iff_eq, UInt8.lt_iff_toNat_lt] at h1 h2 ⊢
    rcases h1 with h1 | ⟨rfl, h1⟩
    · rcases h2 with h2 | ⟨rfl, h2⟩
      · exact .inl (by omega)
      · exact .inl h1
    · rcases h2 with h2 | ⟨rfl, h2⟩
      · exact .inl h2
      · exact .inr ⟨rfl, bl_trans h1 h2⟩
theorem bl_total : ∀ a b : List UInt8, Op.bytesLess a b = true ∨ a = b ∨ Op.bytesLess b a = true
  | [], [] => .inr (.inl rfl)
  | [], _ :: _ => .inl rfl
  | _ :: _, [] => .inr (.inr rfl)
  | a :: l, b :: m => by
    simp only [Op.bytesLess, Bool.or_eq_true, Bool.and_eq_true, decide_eq_true_eq, beq_iff_eq, UInt8.lt_iff_toNat_lt, List.cons.injEq]
    rcases Nat.lt_trichotomy a.toNat b.toNat with h | h | h
    · exact .inl (.inl h)
    · have h : a = b := UInt8.toNat_inj.1 h
      subst h
      rcases bl_total l m with h | h | h
      · exact .inl (.inr ⟨rfl, h⟩)
      · exact .inr (.inl ⟨rfl, h⟩)
      · exact .inr (.inr (.inr ⟨rfl, h⟩))
    · exact .inr (.inr (.inl h))
theorem bl_asymm {a b : List UInt8} (h : Op.bytesLess a b = true) : Op.bytesLess b a = false := by
  cases e : Op.bytesLess b a with
  | false => rfl
  | true => have := bl_trans h e; rw [bl_irrefl] at this; cases this
theorem cmp_lt : ∀ a b : List UInt8, Lib.compareBytes a b < 0 ↔ Op.bytesLess a b = true
  | [], [] => by simp [Lib.compareBytes, Op.bytesLess]
  | [], _ :: _ => by simp [Lib.compareBytes, Op.bytesLess]
  | _ :: _, [] => by simp [Lib.compareBytes, Op.bytesLess]
  | a :: l, b :: m => by
    have ih := cmp_lt l m
    simp only [Lib.compareBytes, Op.bytesLess, Bool.or_eq_true, Bool.and_eq_true, decide_eq_true_eq, beq_iff_eq, UInt8.lt_iff_toNat_lt]
    split
    · simp_all
    · split
      · rename_i h1 h2
        constructor
        · intro h; omega
        · rintro (h | ⟨rfl, _⟩) <;> omega
      · rename_i h1 h2
        have : a = b := UInt8.toNat_inj.1 (by omega)
        subst this
        rw [ih]; simp
theorem cmp_eq0 : ∀ a b : List UInt8, Lib.compareBytes a b = 0 ↔ a = b
  | [], [] => by simp [Lib.compareBytes]
  | [], _ :: _ => by simp [Lib.compareBytes]
  | _ :: _, [] => by simp [Lib.compareBytes]
  | a :: l, b :: m => by
    have ih := cmp_eq0 l m
    simp only [Lib.compareBytes, UInt8.lt_iff_toNat_lt, List.cons.injEq]
    split
    · rename_i h
      constructor
      · intro h; omega
      · rintro ⟨rfl, _⟩; omega
    · split
      · rename_i h1 h2
        constructor
        · intro h; omega
        · rintro ⟨rfl, _⟩; omega
      · rename_i h1 h2
        have : a = b := UInt8.toNat_inj.1 (by omega)
        subst this
        rw [ih]; simp

end Go.Gk
