/-
  Data as a program reads it: slices of whatever elements, byte slices, strings, integers; contracts that only compute.
-/
import Derived.Test.YtghnbcbceeoejaaGk7
namespace Go.Gk
open Go

/-- A contract of a function that only computes. -/
def GPure (P : Program) (f : FuncId) (args : List Value) (d : PHeap) (v : Value) : Prop := GCall P f args d [] (Ret fun r d' L' => r = v ∧ d' = d ∧ L' = [])

section
variable {P : Program} {pan : List PanicEntry → Post} {Qn : Env → Post} {Ls L : List PHeap} {ρ : Env} {d : PHeap} {tk : Bool} {s : GS} {t : Nat}
theorem w_pure {f : FuncId} {args : List Operand} {vs : List Value} {v : Value} (ea : args.map (ev ρ) = vs) (hc : GPure P f vs d v)
    (h : gws P pan Qn s Ls (upd ρ t v) d L) : gws P pan Qn (.op false ⟨some t, none, .call f args⟩ s) Ls ρ d L :=
  w_call0 ea hc (fun r d' L' _ ⟨h1, h2, h3⟩ => by subst h1; subst h2; subst h3; exact h)
end

theorem int_eq {k : IntKind} {a b : Int} (h : a = b) : Value.int k a = Value.int k b := by rw [h]
theorem bool_eq {a b : Bool} (h : a = b) : Value.bool a = Value.bool b := by rw [h]
theorem finPi {ρ : Env} {d : PHeap} {L : List PHeap} {t : Nat} {k : IntKind} {a b : Int} (e : ρ t = .int k a) (h : a = b) : retPost [.tmp t] (Ret fun r d' L' => r = .int k b ∧ d' = d ∧ L' = []) ρ d L :=
  fin1n e ⟨by rw [h], rfl, rfl⟩
theorem finPb {ρ : Env} {d : PHeap} {L : List PHeap} {t : Nat} {a b : Bool} (e : ρ t = .bool a) (h : a = b) : retPost [.tmp t] (Ret fun r d' L' => r = .bool b ∧ d' = d ∧ L' = []) ρ d L :=
  fin1n e ⟨by rw [h], rfl, rfl⟩

theorem finPv {ρ : Env} {d : PHeap} {L : List PHeap} {t : Nat} {v : Value} (e : ρ t = v) : retPost [.tmp t] (Ret fun r d' L' => r = v ∧ d' = d ∧ L' = []) ρ d L := fin1n e ⟨rfl, rfl, rfl⟩
theorem finPv2 {ρ : Env} {d : PHeap} {L : List PHeap} {t u : Nat} {v w : Value} (e : ρ t = v) (e' : ρ u = w) : retPost [.tmp t, .tmp u] (Ret fun r d' L' => r = .tuple #[v, w] ∧ d' = d ∧ L' = []) ρ d L := fin2n e e' ⟨rfl, rfl, rfl⟩

/-- A slice that reads as the list 'xs': each element lies in 'sz' cells, which read as R says. -/
def RSl {α : Type} (sz : Nat) (R : PHeap → List Value → α → Prop) (d : PHeap) (v : Value) (xs : List α) : Prop :=
  ∃ a c b o, v = .slice a xs.length c ∧ SAd a xs.length b o ∧ (∀ a', a = some a' → a'.spot = none) ∧ (a = none → c = 0) ∧ xs.length ≤ c ∧ c ≤ 9223372036854775807 ∧ xs.length ≤ 140737488355328 ∧
    ∀ i (h : i < xs.length), ∃ cs, cs.length = sz ∧ DCs d b (o + i * sz) cs ∧ R d cs xs[i]

theorem RSl.mono {α : Type} {sz : Nat} {R : PHeap → List Value → α → Prop} (hR : ∀ {d d' cs x}, Le d d' → R d cs x → R d' cs x) {d d' : PHeap} {v : Value} {xs : List α} (h : RSl sz R d v xs) (hl : Le d d') : RSl sz R d' v xs :=
  let ⟨a, c, b, o, h1, h2, h3, h4, h5, h6, h7, h8⟩ := h
  ⟨a, c, b, o, h1, h2, h3, h4, h5, h6, h7, fun i hi => let ⟨cs, k1, k2, k3⟩ := h8 i hi; ⟨cs, k1, k2.mono hl, hR hl k3⟩⟩

theorem RSl.nil {α : Type} {sz : Nat} {R : PHeap → List Value → α → Prop} {d : PHeap} : RSl sz R d (.slice none 0 0) ([] : List α) :=
  ⟨none, 0, 0, 0, rfl, fun h => absurd rfl h, fun _ h => (nomatch h), fun _ => rfl, Nat.le_refl _, by omega, Nat.zero_le _, fun i h => absurd h (Nat.not_lt_zero i)⟩

def RByte (_ : PHeap) (cs : List Value) (x : UInt8) : Prop := cs = [byteV x]
def RInt (_ : PHeap) (cs : List Value) (x : Int) : Prop := cs = [.int .i64 x] ∧ -9223372036854775808 ≤ x ∧ x ≤ 9223372036854775807
def RStr (_ : PHeap) (cs : List Value) (x : List UInt8) : Prop := cs = [strV x] ∧ x.length ≤ 140737488355328
def RBytes (d : PHeap) (v : Value) (l : List UInt8) : Prop := RSl 1 RByte d v l
def RInts (d : PHeap) (v : Value) (l : List Int) : Prop := RSl 1 RInt d v l
def RStrs (d : PHeap) (v : Value) (l : List (List UInt8)) : Prop := RSl 1 RStr d v l
def RBs (d : PHeap) (cs : List Value) (l : List UInt8) : Prop := ∃ u, cs = [u] ∧ RBytes d u l
def RBss (d : PHeap) (v : Value) (l : List (List UInt8)) : Prop := RSl 1 RBs d v l

theorem RBytes.mono {d d' : PHeap} {v : Value} {l : List UInt8} (h : RBytes d v l) (hl : Le d d') : RBytes d' v l := RSl.mono (fun _ h => h) h hl
theorem RInts.mono {d d' : PHeap} {v : Value} {l : List Int} (h : RInts d v l) (hl : Le d d') : RInts d' v l := RSl.mono (fun _ h => h) h hl
theorem RStrs.mono {d d' : PHeap} {v : Value} {l : List (List UInt8)} (h : RStrs d v l) (hl : Le d d') : RStrs d' v l := RSl.mono (fun _ h => h) h hl
theorem RBss.mono {d d' : PHeap} {v : Value} {l : List (List UInt8)} (h : RBss d v l) (hl : Le d d') : RBss d' v l := RSl.mono (fun hl ⟨u, h1, h2⟩ => ⟨u, h1, h2.mono hl⟩) h hl

end Go.Gk
