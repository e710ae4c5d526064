/-
  Two bytes as a number.
-/
import Derived.Test.YtjbpdhljjhpeeaaGk14
namespace Go.Gk
open Go
def flat : List (List PHeap) → List PHeap
  | [] => []
  | [l] => l
  | l :: m :: Ls => l ++ flat (m :: Ls)
theorem flat_eq : ∀ Ls : List (List PHeap), flat Ls = Ls.flatten
  | [] => rfl
  | [l] => by simp [flat]
  | l :: m :: Ls => by simp only [flat]; rw [flat_eq (m :: Ls)]; simp
/-- Rows of blocks, in another order; some go: the row that is there by 'rfl', the row wanted by 'simp'. -/
theorem Vs.picksE {d : PHeap} {L L' : List PHeap} (Ls : List (List PHeap)) (is js : List Nat) (hp : (is ++ js).isPerm (List.range Ls.length) = true) (hL : L = flat Ls) (hL' : (is.map fun i => Ls.getD i []).flatten = L') : Vs d L d L' := by
  subst hL'; rw [hL, flat_eq]; exact Vs.picks Ls is js hp
/-- What is owned may be read as data while a call runs that leaves all data as they are. -/
theorem GCall.borrow {P : Program} {f : FuncId} {vs : List Value} {d : PHeap} {L : List PHeap} {Q : Value → List PHeap → Prop} (h : ∀ d1, Le d d1 → (∀ k ∈ L, Le k d1) → GCall P f vs d1 [] (Ret fun r d' L' => d' = d1 ∧ Q r L')) :
    GCall P f vs d L (Ret fun r d' L' => d' = d ∧ ∃ L1, L' = L1 ++ L ∧ Q r L1) := by
  have h := h (joinL (d :: L)) (joinL_le (List.mem_cons_self ..)) (fun k hk => joinL_le (List.mem_cons_of_mem _ hk))
  refine ⟨h.1, fun F W x => ?_⟩
  have hp := x.pw
  have y : Ok (joinL (d :: L) :: ([] ++ F)) W := by
    have := (Vs.packL (d := emp) (L0 := F) (L := d :: L)).2 [] W (by simpa using x.emp)
    simpa using this.tail
  refine (h.2 F W y).mono fun e W' ⟨d', L', a, b, c, r⟩ => ?_
  cases e with
  | panicked c => exact r.elim
  | outgrown => exact r.elim
  | returned u =>
    obtain ⟨rfl, r⟩ := r
    refine ⟨d, L' ++ L, ?_, Le.refl d, c, rfl, L', rfl, r⟩
    have := (Vs.openL (d := emp) (L0 := L' ++ F) hp).2 [] W' (by simpa using a.emp)
    have z : Ok ((d :: L) ++ (L' ++ F)) W' := by simpa using this.tail
    refine z.perm ?_
    simp only [List.cons_append, List.append_assoc]
    refine List.Perm.cons d ?_
    rw [← List.append_assoc, ← List.append_assoc]
    exact List.Perm.append_right F List.perm_append_comm
section
variable {P : Program} {pan : List PanicEntry → Post} {Qn : Env → Post} {Ls L : List PHeap} {ρ : Env} {d : PHeap} {s : GS} {t : Nat} {tk : Bool}
/-- A store, with what the block holds then. -/
theorem w_stE {n : Nat} {x y : Operand} {b o : Nat} {T : TypeId} {l : List Value} {v : Value} (i : Nat) (l' : List Value) (hi : L[i]? = some (bx b T l)) (ex : ev ρ x = .pointer (some ⟨b, o, none⟩)) (ey : ev ρ y = v)
    (hn : v.cells.size = n) (hl : o + n ≤ l.length) (h1 : (v.cells.toList.all (·.oneCell')) = true) (hp : patch l o v.cells.toList = l') (h : gws P pan Qn s Ls ρ d (L.set i (bx b T l'))) :
    gws P pan Qn (.op false ⟨none, none, .st n x y⟩ s) Ls ρ d L := by subst hp; exact w_st i hi ex ey hn hl h1 h
theorem w_callB {f : FuncId} {args : List Operand} {Q : Value → List PHeap → Prop} {vs : List Value} (ea : args.map (ev ρ) = vs) (hc : ∀ d1, Le d d1 → (∀ k ∈ L, Le k d1) → GCall P f vs d1 [] (Ret fun r d' L' => d' = d1 ∧ Q r L'))
    (h : ∀ r L', Q r L' → gws P pan Qn s Ls (upd ρ t r) d (L' ++ L)) : gws P pan Qn (.op false ⟨some t, none, .call f args⟩ s) Ls ρ d L := by
  refine w_calln (R := fun r d' L' => d' = d ∧ ∃ L1, L' = L1 ++ L ∧ Q r L1) L.length ea (by rw [List.take_length]; exact GCall.borrow hc) (fun r d' L' _ ⟨h1, L1, h2, h3⟩ => ?_)
  subst h1; subst h2
  rw [List.drop_length, List.append_nil]; exact h r L1 h3
theorem w_shl8 {x y : Operand} {k' : IntKind} {a : Nat} (ex : ev ρ x = .int .i64 a) (ey : ev ρ y = .int k' 8) (ha : a ≤ 1000000000000) (h : gws P pan Qn s Ls (upd ρ t (.int .i64 (a * 256 : Nat))) d L) :
    gws P pan Qn (.op tk ⟨some t, none, .bin .shl x y⟩ s) Ls ρ d L := by
  refine w_bin ?_ h
  have h1 : min (Int.toNat 8) IntKind.i64.bits = 8 := by simp [IntKind.bits]
  rw [ex, ey]
  simp only [binV, h1]
  rw [if_neg (by omega), wrap64_eq (by omega) (by omega)]
  congr 2
theorem w_or8 {x y : Operand} {a b : Nat} (ex : ev ρ x = .int .i64 (a * 256 : Nat)) (ey : ev ρ y = .int .i64 b) (ha : a ≤ 1000000000000) (hb : b < 256) (h : gws P pan Qn s Ls (upd ρ t (.int .i64 (a * 256 + b : Nat))) d L) :
    gws P pan Qn (.op tk ⟨some t, none, .bin .or x y⟩ s) Ls ρ d L := by
  refine w_bin ?_ h
  have e : (BitVec.ofInt IntKind.i64.bits ((a * 256 : Nat) : Int) ||| BitVec.ofInt IntKind.i64.bits ((b : Nat) : Int)).toNat = a * 256 + b := by
    have h1 := Nat.shiftLeft_add_eq_or_of_lt (i := 8) hb a
    rw [Nat.shiftLeft_eq] at h1
    show ((BitVec.ofInt 64 ((a * 256 : Nat) : Int) : BitVec 64) ||| (BitVec.ofInt 64 ((b : Nat) : Int) : BitVec 64)).toNat = _
    rw [BitVec.toNat_or, BitVec.ofInt_natCast, BitVec.ofInt_natCast, BitVec.toNat_ofNat, BitVec.toNat_ofNat]
    rw [Nat.mod_eq_of_lt (by omega), Nat.mod_eq_of_lt (by omega)]
    exact h1.symm
  rw [ex, ey]
  simp only [binV, e]
  rw [wrap64_eq (by omega) (by omega)]
  simp
theorem w_add8 {x y : Operand} {a b : Int} (ex : ev ρ x = .int .u8 a) (ey : ev ρ y = .int .u8 b) (h1 : 0 ≤ a + b) (h2 : a + b ≤ 255)
    (h : gws P pan Qn s Ls (upd ρ t (.int .u8 (a + b))) d L) : gws P pan Qn (.op tk ⟨some t, none, .bin .add x y⟩ s) Ls ρ d L :=
  w_bin (by
    have e : IntKind.u8.wrap (a + b) = a + b := by simp [IntKind.wrap, IntKind.signed, IntKind.bits]; omega
    rw [ex, ey]; simp [binV, e]) h
end
theorem Vs.frzSome (B : List PHeap) : ∀ (A : List PHeap) (d : PHeap), ∃ d', Vs d (A ++ B) d' B ∧ Le d d' ∧ ∀ h ∈ A, Le h d'
  | [], d => ⟨d, Vs.refl d B, Le.refl d, fun _ h => by cases h⟩
  | h :: A, d => by
    obtain ⟨d', h1, h2, h3⟩ := Vs.frzSome B A (Gk.join d h)
    refine ⟨d', Vs.freeze.trans h1, (Le.join_left d h).trans h2, fun k hk => ?_⟩
    rcases List.mem_cons.1 hk with rfl | hk
    · exact (Le.join_right d k).trans h2
    · exact h3 k hk
theorem w_drawnV {P : Program} {Q : GPost} {ρ : Env} {d : PHeap} {L : List PHeap} {s : GS} {d1 : PHeap} (Ls L1 : List PHeap) (hv : Vs d L d1 (Ls ++ L1)) (h : gws P Q.pan Q.n s Ls ρ d1 L1) : gwp P (.reg true s) Q ρ d L := ⟨d1, Ls, L1, hv, h⟩
theorem GRow.monoBs {d d' : PHeap} {v : Value} {xs : List (List UInt8)} {h : PHeap} (o : GRow 1 RBs d v xs h) (hl : Le d d') : GRow 1 RBs d' v xs h := GRow.mono (R := RBs) mono_bs o hl
theorem GRow.monoI {d d' : PHeap} {v : Value} {xs : List Int} {h : PHeap} (o : GRow 1 RInt d v xs h) (hl : Le d d') : GRow 1 RInt d' v xs h := GRow.mono (R := RInt) mono_int o hl
end Go.Gk
