/-
  Our own texts, one behind the other: GkC0 GkC4 GkPg0 GkE2 GkC1 GkC2 GkC3 GkCl GkPg1 GkPg2 GkPg3 GkPg4 GkPg5 GkC5 GkPg6 GkPg7 GkPg8 GkPgL GkPgM Gk28 Gk29 Gk40 GkH1 GkH2 GkH3 GkH4 GkH5 GkHD GkTN.
-/
import Derived.Recover
import Derived.BigFrame
import Derived.Test.YtpkcbopokjffhaaGreatPkB
section
namespace Go.Gk.Cch
open Go Go.Gk Go.Gk.Dev

structure Fr where
  held : Bool
  sec : Nat
  pins : Nat
  late : Bool
  b : Sec
def fz : Fr := ⟨false, 0, 0, false, []⟩
structure CD where
  fr : List Fr
  free : List Nat
  hand : Nat
  hits : Nat
  miss : Nat
def findF (k : Nat) : List Fr → Option Nat
  | [] => none
  | f :: l => if f.held = true ∧ f.sec = k then some 0 else (findF k l).map (· + 1)
theorem findF_some {k : Nat} : ∀ {l : List Fr} {i : Nat}, findF k l = some i → ∃ h : i < l.length, l[i].held = true ∧ l[i].sec = k
  | [], i, h => by cases h
  | f :: l, i, h => by
    rw [findF] at h
    split at h
    · rename_i e; cases h; exact ⟨by simp, e⟩
    · cases hf : findF k l with
      | none => rw [hf] at h; cases h
      | some j =>
        rw [hf] at h; cases h
        obtain ⟨h1, h2⟩ := findF_some hf
        exact ⟨by simpa using h1, by simpa using h2⟩
theorem findF_none {k : Nat} : ∀ {l : List Fr}, findF k l = none → ∀ f ∈ l, ¬ (f.held = true ∧ f.sec = k)
  | f :: l, h, g, hg => by
    rw [findF] at h
    split at h
    · cases h
    · rename_i e
      rcases List.mem_cons.1 hg with rfl | hg
      · exact e
      · refine findF_none ?_ g hg
        cases hf : findF k l with
        | none => rfl
        | some j => rw [hf] at h; cases h
def pinnedF (l : List Fr) : Bool := l.all fun f => f.pins != 0

def takenF (l : List Fr) (h : Nat) : Bool := (l.getD h fz).pins == 0 && !(l.getD h fz).late
def passF (l : List Fr) (h : Nat) : List Fr := if (l.getD h fz).pins = 0 then l.set h { l.getD h fz with late := false } else l
def nextH (l : List Fr) (h : Nat) : Nat := (h + 1) % l.length
def sweepF : Nat → List Fr → Nat → List Fr × Nat × Nat
  | 0, l, h => (l, nextH l h, h)
  | n + 1, l, h => if takenF l h then (l, nextH l h, h) else sweepF n (passF l h) (nextH l h)
theorem passF_len (l : List Fr) (h : Nat) : (passF l h).length = l.length := by unfold passF; split <;> simp
def lates (l : List Fr) : Nat := l.countP fun f => f.pins == 0 && f.late
def dist (l : List Fr) : Nat → Nat → Nat
  | 0, _ => 0
  | n + 1, h => if (l.getD h fz).pins = 0 then 0 else dist l n (nextH l h) + 1
def measF (l : List Fr) (h : Nat) : Nat := lates l * (l.length + 1) + dist l l.length h
theorem dist_le (l : List Fr) : ∀ n h, dist l n h ≤ n
  | 0, _ => Nat.le_refl _
  | n + 1, h => by rw [dist]; split; omega; have := dist_le l n (nextH l h); omega
theorem dist_hit {l : List Fr} {j : Nat} (hj : j < l.length) (hp : (l.getD j fz).pins = 0) : ∀ (n h : Nat), h < l.length → (h + n) % l.length = j → ∀ m, n < m → dist l m h = dist l (n + 1) h
  | 0, h, hh, e, m, hm => by
    rw [Nat.add_zero, Nat.mod_eq_of_lt hh] at e
    subst e
    cases m with
    | zero => omega
    | succ m => rw [dist, dist, if_pos hp, if_pos hp]
  | n + 1, h, hh, e, m, hm => by
    cases m with
    | zero => omega
    | succ m =>
      rw [dist, dist]
      by_cases q : (l.getD h fz).pins = 0
      · rw [if_pos q, if_pos q]
      · rw [if_neg q, if_neg q]
        have h1 : nextH l h < l.length := Nat.mod_lt _ (by omega)
        have h2 : (nextH l h + n) % l.length = j := by
          rw [nextH, Nat.mod_add_mod, ← e]; congr 1; omega
        rw [dist_hit hj hp n (nextH l h) h1 h2 m (by omega)]
theorem dist_step {l : List Fr} {h : Nat} (hh : h < l.length) (hn : pinnedF l = false) (hp : (l.getD h fz).pins ≠ 0) : dist l l.length (nextH l h) < dist l l.length h := by
  obtain ⟨f, hf, hq⟩ := by simpa [pinnedF] using hn
  obtain ⟨j, hj, rfl⟩ := List.getElem_of_mem hf
  have hj0 : (l.getD j fz).pins = 0 := by rw [List.getD_eq_getElem?_getD, List.getElem?_eq_getElem hj]; exact hq
  have hpos : 0 < l.length := by omega
  -- how far j is from the next place
  have key : ∃ n, n < l.length ∧ (nextH l h + n) % l.length = j := by
    have h1 : nextH l h < l.length := Nat.mod_lt _ hpos
    refine ⟨(j + l.length - nextH l h) % l.length, Nat.mod_lt _ hpos, ?_⟩
    rw [Nat.add_mod_mod, show nextH l h + (j + l.length - nextH l h) = j + l.length by omega, Nat.add_mod_right, Nat.mod_eq_of_lt hj]
  obtain ⟨n, hn1, hn2⟩ := key
  have h1 : nextH l h < l.length := Nat.mod_lt _ hpos
  have hn3 : n ≠ l.length - 1 := by
    intro e
    subst e
    rw [nextH, Nat.mod_add_mod, show h + 1 + (l.length - 1) = h + l.length by omega, Nat.add_mod_right, Nat.mod_eq_of_lt hh] at hn2
    subst hn2
    exact hp hj0
  obtain ⟨m, hm⟩ : ∃ m, l.length = m + 1 := ⟨l.length - 1, by omega⟩
  have e1 := dist_hit hj hj0 n (nextH l h) h1 hn2 l.length hn1
  have e2 := dist_hit hj hj0 n (nextH l h) h1 hn2 m (by omega)
  have e3 : dist l l.length h = dist l m (nextH l h) + 1 := by
    rw [hm, dist, if_neg hp]
  rw [e3, e1, e2]; omega
theorem lates_set {l : List Fr} {h : Nat} (hh : h < l.length) (hp : (l.getD h fz).pins = 0) (hl : (l.getD h fz).late = true) : lates (l.set h { l.getD h fz with late := false }) + 1 = lates l := by
  unfold lates
  have e : l.getD h fz = l[h] := by rw [List.getD_eq_getElem?_getD, List.getElem?_eq_getElem hh]; rfl
  rw [e] at hp hl ⊢
  rw [List.countP_set hh]
  simp only [hp, hl]
  have : 0 < l.countP fun f => f.pins == 0 && f.late := List.countP_pos_iff.2 ⟨l[h], List.getElem_mem hh, by simp [hp, hl]⟩
  simp
  omega
theorem meas_step {l : List Fr} {h : Nat} (hh : h < l.length) (hn : pinnedF l = false) (ht : takenF l h = false) : measF (passF l h) (nextH l h) < measF l h := by
  have hd := dist_le (passF l h) (passF l h).length (nextH l h)
  rw [passF_len] at hd
  unfold measF
  rw [passF_len]
  by_cases hp : (l.getD h fz).pins = 0
  · have hl : (l.getD h fz).late = true := by
      unfold takenF at ht
      rw [hp] at ht
      simpa using ht
    have := lates_set hh hp hl
    have e : passF l h = l.set h { l.getD h fz with late := false } := by rw [passF, if_pos hp]
    rw [e] at hd ⊢
    rw [← this, Nat.add_mul, Nat.one_mul]
    omega
  · have e : passF l h = l := by rw [passF, if_neg hp]
    rw [e]
    have := dist_step hh hn hp
    omega
theorem pinned_pass {l : List Fr} {h : Nat} : pinnedF (passF l h) = pinnedF l := by
  unfold passF
  split
  · rename_i hp
    by_cases hh : h < l.length
    · have e : l.getD h fz = l[h] := by rw [List.getD_eq_getElem?_getD, List.getElem?_eq_getElem hh]; rfl
      rw [e] at hp ⊢
      have h1 : pinnedF l = false := by
        unfold pinnedF; rw [List.all_eq_false]; exact ⟨l[h], List.getElem_mem hh, by simp [hp]⟩
      have h2 : pinnedF (l.set h { l[h] with late := false }) = false := by
        unfold pinnedF; rw [List.all_eq_false]
        exact ⟨_, List.mem_set hh _, by simp [hp]⟩
      rw [h1, h2]
    · rw [List.set_eq_of_length_le (by omega)]
  · rfl
def roomF (c : CD) : CD × Option Nat :=
  match c.free with
  | i :: r => ({ c with free := r }, some i)
  | [] => if pinnedF c.fr then (c, none) else let s := sweepF (measF c.fr c.hand + 1) c.fr c.hand; ({ c with fr := s.1, hand := s.2.1 }, some s.2.2)
def getF (b : Sec) (c : CD) (k : Nat) : CD × Option Sec :=
  match findF k c.fr with
  | some i => ({ c with fr := c.fr.set i { c.fr.getD i fz with pins := (c.fr.getD i fz).pins + 1, late := true }, hits := c.hits + 1 }, some (c.fr.getD i fz).b)
  | none => match roomF c with
    | (c', none) => (c', none)
    | (c', some i) => ({ c' with fr := c'.fr.set i ⟨true, k, 1, true, b⟩, miss := c'.miss + 1 }, some b)
def leaveF (c : CD) (k : Nat) : CD × Int :=
  match findF k c.fr with
  | none => (c, 240)
  | some i => if (c.fr.getD i fz).pins = 0 then (c, 180) else ({ c with fr := c.fr.set i { c.fr.getD i fz with pins := (c.fr.getD i fz).pins - 1 } }, 0)
def forgetF (c : CD) (k : Nat) : CD × Int :=
  match findF k c.fr with
  | none => (c, 240)
  | some i => if (c.fr.getD i fz).pins > 0 then (c, 180) else ({ c with fr := c.fr.set i fz, free := c.free ++ [i] }, 0)
def heldF (c : CD) : List Int := c.fr.map fun f => if f.held then (f.sec : Int) else -1
end Go.Gk.Cch
namespace Go.Gk.Cch
open Go Go.Gk Go.Gk.Dev
def PinB (c : CD) (n : Nat) : Prop := ∀ f ∈ c.fr, f.pins ≤ n
theorem sweep_lt : ∀ (n : Nat) {l : List Fr} {h : Nat}, h < l.length → (sweepF n l h).1.length = l.length ∧ (sweepF n l h).2.2 < l.length ∧ (sweepF n l h).2.1 < l.length
  | 0, l, h, hh => ⟨rfl, hh, Nat.mod_lt _ (by omega)⟩
  | n + 1, l, h, hh => by
    rw [sweepF]
    split
    · exact ⟨rfl, hh, Nat.mod_lt _ (by omega)⟩
    · have := sweep_lt n (l := passF l h) (h := nextH l h) (by rw [passF_len]; exact Nat.mod_lt _ (by omega))
      rw [passF_len] at this
      exact this
theorem room_lt {c c1 : CD} {i : Nat} (hh : c.hand < c.fr.length) (hf : ∀ i ∈ c.free, i < c.fr.length) (h : roomF c = (c1, some i)) : i < c1.fr.length := by
  unfold roomF at h
  split at h
  · rename_i j r e
    cases h
    exact hf _ (by rw [e]; exact List.mem_cons_self ..)
  · split at h
    · cases h
    · cases h
      have := sweep_lt (measF c.fr c.hand + 1) hh
      simp only
      omega
end Go.Gk.Cch
end

section
namespace Go.Gk.Cch
open Go Go.Gk Go.Gk.Dev

theorem nodup_sub_len : ∀ {l m : List Nat}, l.Nodup → (∀ x ∈ l, x ∈ m) → l.length ≤ m.length
  | [], _, _, _ => Nat.zero_le _
  | x :: l, m, h, hs => by
    have hx := hs x (List.mem_cons_self ..)
    have := nodup_sub_len (l := l) (m := m.erase x) (List.nodup_cons.1 h).2 (fun y hy => by
      have hne : y ≠ x := fun e => (List.nodup_cons.1 h).1 (e ▸ hy)
      exact (List.mem_erase_of_ne hne).2 (hs y (List.mem_cons_of_mem _ hy)))
    rw [List.length_erase_of_mem hx] at this
    have := List.length_pos_of_mem hx
    simp only [List.length_cons]; omega

abbrev CD.at (c : CD) (i : Nat) : Fr := c.fr.getD i fz
structure Inv (cur : Nat → Sec) (N : Nat) (c : CD) : Prop where
  n1 : 1 ≤ c.fr.length
  n2 : c.fr.length ≤ 64
  hd : c.hand < c.fr.length
  fl : ∀ i ∈ c.free, i < c.fr.length
  nd : c.free.Nodup
  fh : ∀ i, i < c.fr.length → ((c.at i).held = false ↔ i ∈ c.free)
  ds : ∀ i j, i < c.fr.length → j < c.fr.length → (c.at i).held = true → (c.at j).held = true → (c.at i).sec = (c.at j).sec → i = j
  vl : ∀ i, i < c.fr.length → (c.at i).held = true → (c.at i).sec < N ∧ (c.at i).b = cur (c.at i).sec
  pz : ∀ i, i < c.fr.length → (c.at i).held = false → (c.at i).pins = 0 ∧ (c.at i).sec = 0

def pinOf (c : CD) (k : Nat) : Nat := match findF k c.fr with | some i => (c.at i).pins | none => 0
theorem at_set {l : List Fr} {i j : Nat} {f : Fr} (hi : i < l.length) : (l.set i f).getD j fz = if j = i then f else l.getD j fz := by
  simp only [List.getD_eq_getElem?_getD, List.getElem?_set]
  by_cases e : i = j
  · subst e; simp [hi]
  · rw [if_neg e, if_neg (fun h => e h.symm)]
theorem getD_get {l : List Fr} {i : Nat} (hi : i < l.length) : l.getD i fz = l[i] := by rw [List.getD_eq_getElem?_getD, List.getElem?_eq_getElem hi]; rfl
theorem findF_at {c : CD} {k i : Nat} (h : findF k c.fr = some i) : i < c.fr.length ∧ (c.at i).held = true ∧ (c.at i).sec = k := by
  obtain ⟨h1, h2, h3⟩ := findF_some h
  exact ⟨h1, by rw [CD.at, getD_get h1]; exact h2, by rw [CD.at, getD_get h1]; exact h3⟩
theorem findF_not {c : CD} {k : Nat} (h : findF k c.fr = none) {i : Nat} (hi : i < c.fr.length) (hh : (c.at i).held = true) : (c.at i).sec ≠ k := by
  intro e
  rw [CD.at, getD_get hi] at hh e
  exact findF_none h _ (List.getElem_mem hi) ⟨hh, e⟩
theorem Inv.find {cur : Nat → Sec} {N : Nat} {c : CD} (h : Inv cur N c) {k i : Nat} (hi : i < c.fr.length) (hh : (c.at i).held = true) (hs : (c.at i).sec = k) : findF k c.fr = some i := by
  cases hf : findF k c.fr with
  | none => exact absurd hs (findF_not hf hi hh)
  | some j =>
    obtain ⟨h1, h2, h3⟩ := findF_at hf
    rw [h.ds j i h1 hi h2 hh (h3.trans hs.symm)]
theorem pinOf_at {cur : Nat → Sec} {N : Nat} {c : CD} (h : Inv cur N c) {i : Nat} (hi : i < c.fr.length) (hh : (c.at i).held = true) : pinOf c (c.at i).sec = (c.at i).pins := by
  rw [pinOf, h.find hi hh rfl]
def SameB (l m : List Fr) : Prop := l.length = m.length ∧ ∀ i, (l.getD i fz).held = (m.getD i fz).held ∧ (l.getD i fz).sec = (m.getD i fz).sec ∧ (l.getD i fz).pins = (m.getD i fz).pins ∧ (l.getD i fz).b = (m.getD i fz).b
theorem SameB.refl (l : List Fr) : SameB l l := ⟨rfl, fun _ => ⟨rfl, rfl, rfl, rfl⟩⟩
theorem SameB.trans {a b c : List Fr} (h : SameB a b) (k : SameB b c) : SameB a c :=
  ⟨h.1.trans k.1, fun i => let ⟨x, y, z, w⟩ := h.2 i; let ⟨x', y', z', w'⟩ := k.2 i; ⟨x.trans x', y.trans y', z.trans z', w.trans w'⟩⟩
theorem pass_same (l : List Fr) (h : Nat) : SameB (passF l h) l := by
  unfold passF
  split
  · by_cases hh : h < l.length
    · refine ⟨by simp, fun i => ?_⟩
      rw [at_set hh]
      by_cases e : i = h
      · subst e; rw [if_pos rfl]; exact ⟨rfl, rfl, rfl, rfl⟩
      · rw [if_neg e]; exact ⟨rfl, rfl, rfl, rfl⟩
    · rw [List.set_eq_of_length_le (by omega)]; exact SameB.refl l
  · exact SameB.refl l
theorem sweep_same : ∀ (n : Nat) (l : List Fr) (h : Nat), SameB (sweepF n l h).1 l
  | 0, l, _ => SameB.refl l
  | n + 1, l, h => by
    rw [sweepF]
    split
    · exact SameB.refl l
    · exact (sweep_same n _ _).trans (pass_same l h)
theorem sweep_pins : ∀ (n : Nat) {l : List Fr} {h : Nat}, h < l.length → pinnedF l = false → measF l h < n → (l.getD (sweepF n l h).2.2 fz).pins = 0
  | 0, _, _, _, _, hm => by omega
  | n + 1, l, h, hh, hn, hm => by
    rw [sweepF]
    cases ht : takenF l h with
    | true =>
      simp only [if_true]
      unfold takenF at ht
      simp only [Bool.and_eq_true, beq_iff_eq] at ht
      exact ht.1
    | false =>
      simp only [Bool.false_eq_true, if_false]
      have := sweep_pins n (l := passF l h) (h := nextH l h) (by rw [passF_len]; exact Nat.mod_lt _ (by omega)) (by rw [pinned_pass]; exact hn) (by have := meas_step hh hn ht; omega)
      rw [((pass_same l h).2 _).2.2.1] at this
      exact this
theorem Inv.same {cur : Nat → Sec} {N : Nat} {c c' : CD} (h : Inv cur N c) (hl : c'.fr.length = c.fr.length) (hf : c'.free = c.free) (hh : c'.hand < c.fr.length)
    (he : ∀ i, (c'.at i).held = (c.at i).held ∧ (c'.at i).sec = (c.at i).sec ∧ (c'.at i).b = (c.at i).b ∧ ((c.at i).held = false → (c'.at i).pins = (c.at i).pins)) : Inv cur N c' where
  n1 := by rw [hl]; exact h.n1
  n2 := by rw [hl]; exact h.n2
  hd := by rw [hl]; exact hh
  fl := by rw [hl, hf]; exact h.fl
  nd := by rw [hf]; exact h.nd
  fh := fun i hi => by rw [(he i).1, hf]; exact h.fh i (hl ▸ hi)
  ds := fun i j hi hj h1 h2 h3 => by rw [(he i).1] at h1; rw [(he j).1] at h2; rw [(he i).2.1, (he j).2.1] at h3; exact h.ds i j (hl ▸ hi) (hl ▸ hj) h1 h2 h3
  vl := fun i hi h1 => by rw [(he i).1] at h1; rw [(he i).2.1, (he i).2.2.1]; exact h.vl i (hl ▸ hi) h1
  pz := fun i hi h1 => by rw [(he i).1] at h1; rw [(he i).2.2.2 h1, (he i).2.1]; exact h.pz i (hl ▸ hi) h1
theorem Inv.take {cur : Nat → Sec} {N : Nat} {c c1 : CD} (h : Inv cur N c) (hl : SameB c1.fr c.fr) (hh : c1.hand < c.fr.length) {i k : Nat} (hi : i < c.fr.length) (hk : k < N) (hn : findF k c.fr = none)
    (hf : (c.free = i :: c1.free) ∨ (c.free = [] ∧ c1.free = [] ∧ (c.at i).pins = 0)) {m : Nat} (c2 : CD) (e : c2 = { c1 with fr := c1.fr.set i ⟨true, k, 1, true, cur k⟩, miss := m }) :
    Inv cur N c2 ∧ (∀ s, pinOf c2 s = if s = k then pinOf c s + 1 else pinOf c s) ∧ findF k c2.fr = some i := by
  have hi1 : i < c1.fr.length := by rw [hl.1]; exact hi
  have hlen : c2.fr.length = c.fr.length := by subst e; simp [hl.1]
  have hat : ∀ j, c2.at j = if j = i then ⟨true, k, 1, true, cur k⟩ else c1.fr.getD j fz := fun j => by subst e; exact at_set hi1
  have hsame : ∀ j, j ≠ i → (c2.at j).held = (c.at j).held ∧ (c2.at j).sec = (c.at j).sec ∧ (c2.at j).pins = (c.at j).pins ∧ (c2.at j).b = (c.at j).b := fun j hj => by
    rw [hat, if_neg hj]; exact hl.2 j
  have hself : c2.at i = ⟨true, k, 1, true, cur k⟩ := by rw [hat, if_pos rfl]
  have hfree : c2.free = c1.free := by subst e; rfl
  have hsub : ∀ j, j ≠ i → (j ∈ c1.free ↔ j ∈ c.free) := fun j hj => by
    rcases hf with hf | ⟨hf1, hf2, _⟩
    · rw [hf]; simp [hj]
    · rw [hf1, hf2]
  have hni : i ∉ c1.free := by
    rcases hf with hf | ⟨_, hf2, _⟩
    · have := h.nd; rw [hf] at this; exact (List.nodup_cons.1 this).1
    · rw [hf2]; exact List.not_mem_nil
  have hpi : (c.at i).pins = 0 := by
    rcases hf with hf | ⟨_, _, hp⟩
    · exact (h.pz i hi ((h.fh i hi).2 (by rw [hf]; exact List.mem_cons_self ..))).1
    · exact hp
  have I : Inv cur N c2 :=
  { n1 := by rw [hlen]; exact h.n1
    n2 := by rw [hlen]; exact h.n2
    hd := by rw [hlen]; subst e; exact hh
    fl := fun j hj => by
      rw [hfree] at hj; rw [hlen]
      by_cases q : j = i
      · subst q; exact absurd hj hni
      · exact h.fl j ((hsub j q).1 hj)
    nd := by
      rw [hfree]
      rcases hf with hf | ⟨_, hf2, _⟩
      · have := h.nd; rw [hf] at this; exact (List.nodup_cons.1 this).2
      · rw [hf2]; exact List.nodup_nil
    fh := fun j hj => by
      rw [hlen] at hj; rw [hfree]
      by_cases q : j = i
      · subst q; rw [hself]; exact ⟨(fun z => by cases z), fun z => absurd z hni⟩
      · rw [(hsame j q).1, hsub j q]; exact h.fh j hj
    ds := fun a b ha hb h1 h2 h3 => by
      rw [hlen] at ha hb
      by_cases qa : a = i
      · by_cases qb : b = i
        · omega
        · subst qa
          rw [hself, (hsame b qb).2.1] at h3; rw [(hsame b qb).1] at h2
          exact absurd h3.symm (findF_not hn hb h2)
      · by_cases qb : b = i
        · subst qb
          rw [hself, (hsame a qa).2.1] at h3; rw [(hsame a qa).1] at h1
          exact absurd h3 (findF_not hn ha h1)
        · rw [(hsame a qa).1] at h1; rw [(hsame b qb).1] at h2; rw [(hsame a qa).2.1, (hsame b qb).2.1] at h3
          exact h.ds a b ha hb h1 h2 h3
    vl := fun a ha h1 => by
      rw [hlen] at ha
      by_cases qa : a = i
      · subst qa; rw [hself]; exact ⟨hk, rfl⟩
      · rw [(hsame a qa).1] at h1; rw [(hsame a qa).2.1, (hsame a qa).2.2.2]; exact h.vl a ha h1
    pz := fun a ha h1 => by
      rw [hlen] at ha
      by_cases qa : a = i
      · subst qa; rw [hself] at h1; cases h1
      · rw [(hsame a qa).1] at h1; rw [(hsame a qa).2.2.1, (hsame a qa).2.1]; exact h.pz a ha h1 }
  have hfk : findF k c2.fr = some i := I.find (by rw [hlen]; exact hi) (by rw [hself]) (by rw [hself])
  refine ⟨I, fun s => ?_, hfk⟩
  by_cases q : s = k
  · subst q
    rw [if_pos rfl, pinOf, hfk, pinOf, hn]
    show (c2.at i).pins = _
    rw [hself]
  · rw [if_neg q]
    cases hs : findF s c.fr with
    | some j =>
      obtain ⟨h1, h2, h3⟩ := findF_at hs
      by_cases qj : j = i
      · subst qj
        have e1 : pinOf c s = 0 := by rw [pinOf, hs]; exact hpi
        rw [e1, pinOf]
        cases ht : findF s c2.fr with
        | none => rfl
        | some a =>
          obtain ⟨g1, g2, g3⟩ := findF_at ht
          by_cases qa : a = j
          · subst qa; rw [hself] at g3; exact absurd g3.symm q
          · rw [hlen] at g1
            rw [(hsame a qa).1] at g2; rw [(hsame a qa).2.1] at g3
            exact absurd (h.ds a j g1 h1 g2 h2 (g3.trans h3.symm)) qa
      · have : findF s c2.fr = some j := I.find (by rw [hlen]; exact h1) (by rw [(hsame j qj).1]; exact h2) (by rw [(hsame j qj).2.1]; exact h3)
        rw [pinOf, this, pinOf, hs]
        exact (hsame j qj).2.2.1
    | none =>
      have e1 : pinOf c s = 0 := by rw [pinOf, hs]
      rw [e1, pinOf]
      cases ht : findF s c2.fr with
      | none => rfl
      | some a =>
        obtain ⟨g1, g2, g3⟩ := findF_at ht
        rw [hlen] at g1
        by_cases qa : a = i
        · subst qa; rw [hself] at g3; exact absurd g3.symm q
        · rw [(hsame a qa).1] at g2; rw [(hsame a qa).2.1] at g3
          exact absurd g3 (findF_not hs g1 g2)

theorem get_some {cur : Nat → Sec} {N : Nat} {c c' : CD} {k : Nat} {b : Sec} (h : Inv cur N c) (hk : k < N) (hg : getF (cur k) c k = (c', some b)) :
    Inv cur N c' ∧ b = cur k ∧ (∀ s, pinOf c' s = if s = k then pinOf c s + 1 else pinOf c s) ∧ (∃ i, findF k c'.fr = some i) ∧ c'.fr.length = c.fr.length ∧
      (match findF k c.fr with | some _ => c'.hits = c.hits + 1 ∧ c'.miss = c.miss | none => c'.hits = c.hits ∧ c'.miss = c.miss + 1) ∧
      (c.free ≠ [] ∨ findF k c.fr ≠ none → ∀ s, s ≠ k → (findF s c'.fr = none ↔ findF s c.fr = none)) := by
  unfold getF at hg
  cases hf : findF k c.fr with
  | some i =>
    rw [hf] at hg
    cases hg
    obtain ⟨h1, h2, h3⟩ := findF_at hf
    have hat : ∀ j, ((c.fr.set i { c.fr.getD i fz with pins := (c.fr.getD i fz).pins + 1, late := true }).getD j fz) = if j = i then { c.fr.getD i fz with pins := (c.fr.getD i fz).pins + 1, late := true } else c.fr.getD j fz := fun j => at_set h1
    have hsame : SameB (c.fr.set i { c.fr.getD i fz with pins := (c.fr.getD i fz).pins, late := true }) c.fr := ⟨by simp, fun j => by
      rw [at_set h1]
      by_cases q : j = i
      · subst q; rw [if_pos rfl]; exact ⟨rfl, rfl, rfl, rfl⟩
      · rw [if_neg q]; exact ⟨rfl, rfl, rfl, rfl⟩⟩
    have hfind : ∀ s, findF s (c.fr.set i { c.fr.getD i fz with pins := (c.fr.getD i fz).pins + 1, late := true }) = findF s c.fr := by
      intro s
      have gen : ∀ (l : List Fr) (i : Nat) (f : Fr), f.held = (l.getD i fz).held → f.sec = (l.getD i fz).sec → findF s (l.set i f) = findF s l := by
        intro l
        induction l with
        | nil => intro i f _ _; rfl
        | cons g l ih =>
          intro i f e1 e2
          cases i with
          | zero => simp only [List.getD_cons_zero] at e1 e2; rw [List.set_cons_zero, findF, findF, e1, e2]
          | succ i => simp only [List.getD_cons_succ] at e1 e2; rw [List.set_cons_succ, findF, findF, ih i f e1 e2]
      exact gen c.fr i _ rfl rfl
    refine ⟨h.same (by simp) rfl h.hd (fun j => ?_), ?_, fun s => ?_, ⟨i, by rw [hfind]; exact hf⟩, by simp, ⟨rfl, rfl⟩, fun _ s _ => by rw [hfind]⟩
    · simp only [CD.at, hat]
      by_cases q : j = i
      · subst q; rw [if_pos rfl]; exact ⟨rfl, rfl, rfl, fun z => by rw [CD.at] at h2; rw [h2] at z; cases z⟩
      · rw [if_neg q]; exact ⟨rfl, rfl, rfl, fun _ => rfl⟩
    · rw [(h.vl i h1 h2).2, h3]
    · simp only [pinOf, hfind, CD.at]
      by_cases q : s = k
      · subst q
        rw [if_pos rfl, hf]
        simp only [hat, if_true]
      · rw [if_neg q]
        cases hs : findF s c.fr with
        | none => rfl
        | some j =>
          have hj : j ≠ i := by
            rintro rfl
            obtain ⟨_, _, g3⟩ := findF_at hs
            exact q (g3.symm.trans h3)
          simp only [hat, if_neg hj]
  | none =>
    rw [hf] at hg
    simp only at hg
    unfold roomF at hg
    cases hfr : c.free with
    | cons i r =>
      rw [hfr] at hg
      simp only at hg
      cases hg
      have hi := h.fl i (by rw [hfr]; exact List.mem_cons_self ..)
      obtain ⟨g1, g2, g3⟩ := h.take (c1 := { c with free := r }) (SameB.refl _) h.hd hi hk hf (.inl hfr) _ rfl
      refine ⟨g1, rfl, g2, ⟨i, g3⟩, by simp, ⟨rfl, rfl⟩, fun _ s hs => ?_⟩
      -- nothing else goes
      have hnh : (c.at i).held = false := (h.fh i hi).2 (by rw [hfr]; exact List.mem_cons_self ..)
      constructor
      · intro z
        cases q : findF s c.fr with
        | none => rfl
        | some j =>
          obtain ⟨y1, y2, y3⟩ := findF_at q
          have hj : j ≠ i := by rintro rfl; rw [hnh] at y2; cases y2
          have e : (c.fr.set i ⟨true, k, 1, true, cur k⟩).getD j fz = c.fr.getD j fz := by rw [at_set hi, if_neg hj]
          have := g1.find (k := s) (i := j) (by simpa using y1) (by simp only [CD.at]; rw [e]; exact y2) (by simp only [CD.at]; rw [e]; exact y3)
          rw [this] at z; cases z
      · intro z
        cases q : findF s (c.fr.set i ⟨true, k, 1, true, cur k⟩) with
        | none => rfl
        | some j =>
          obtain ⟨y1, y2, y3⟩ := findF_at (c := { c with free := r, fr := c.fr.set i ⟨true, k, 1, true, cur k⟩ }) q
          simp only [CD.at] at y2 y3
          rw [at_set hi] at y2 y3
          by_cases hj : j = i
          · rw [if_pos hj] at y3; exact absurd y3.symm hs
          · rw [if_neg hj] at y2 y3
            exact absurd y3 (findF_not z (by simpa using y1) y2)
    | nil =>
      rw [hfr] at hg
      simp only at hg
      cases hp : pinnedF c.fr with
      | true => rw [hp] at hg; simp only [if_true] at hg; cases hg
      | false =>
        rw [hp] at hg
        simp only [Bool.false_eq_true, if_false] at hg
        cases hg
        have hs := sweep_same (measF c.fr c.hand + 1) c.fr c.hand
        have hl := sweep_lt (measF c.fr c.hand + 1) h.hd
        have hpz := sweep_pins _ h.hd hp (Nat.lt_succ_self _)
        obtain ⟨g1, g2, g3⟩ := h.take (c1 := ⟨(sweepF (measF c.fr c.hand + 1) c.fr c.hand).1, [], (sweepF (measF c.fr c.hand + 1) c.fr c.hand).2.1, c.hits, c.miss⟩) hs hl.2.2 hl.2.1 hk hf (.inr ⟨hfr, rfl, hpz⟩) _ rfl
        exact ⟨g1, rfl, g2, ⟨_, g3⟩, by simp [hl.1], ⟨rfl, rfl⟩, fun z => by rcases z with z | z <;> exact absurd rfl z⟩
theorem get_none {cur : Nat → Sec} {N : Nat} {c c' : CD} {k : Nat} (h : Inv cur N c) (hg : getF (cur k) c k = (c', none)) : c' = c ∧ findF k c.fr = none ∧ c.free = [] ∧ pinnedF c.fr = true := by
  unfold getF at hg
  cases hf : findF k c.fr with
  | some i => rw [hf] at hg; cases hg
  | none =>
    rw [hf] at hg
    simp only at hg
    unfold roomF at hg
    cases hfr : c.free with
    | cons i r => rw [hfr] at hg; cases hg
    | nil =>
      rw [hfr] at hg
      simp only at hg
      cases hp : pinnedF c.fr with
      | true => rw [hp] at hg; simp only [if_true] at hg; cases hg; exact ⟨rfl, rfl, rfl, rfl⟩
      | false => rw [hp] at hg; simp only [Bool.false_eq_true, if_false] at hg; cases hg
theorem Inv.full {cur : Nat → Sec} {N : Nat} {c : CD} (h : Inv cur N c) (hf : c.free = []) {S : List Nat} (hS : ∀ i, i < c.fr.length → (c.at i).sec ∈ S) : c.fr.length ≤ S.length := by
  have hheld : ∀ i, i < c.fr.length → (c.at i).held = true := fun i hi => by
    cases q : (c.at i).held with
    | true => rfl
    | false => have := (h.fh i hi).1 q; rw [hf] at this; cases this
  have hn : ((List.range c.fr.length).map fun i => (c.at i).sec).Nodup := by
    refine List.pairwise_map.2 (List.Pairwise.imp_of_mem (fun {a b} ha hb hne e => hne ?_) List.nodup_range)
    exact h.ds a b (List.mem_range.1 ha) (List.mem_range.1 hb) (hheld a (List.mem_range.1 ha)) (hheld b (List.mem_range.1 hb)) e
  have := nodup_sub_len hn (m := S) (fun x hx => by
    obtain ⟨i, hi, rfl⟩ := List.mem_map.1 hx
    exact hS i (List.mem_range.1 hi))
  simpa using this
theorem leave_inv {cur : Nat → Sec} {N : Nat} {c : CD} {k : Nat} (h : Inv cur N c) (hp : pinOf c k ≠ 0) :
    Inv cur N (leaveF c k).1 ∧ (leaveF c k).2 = 0 ∧ (∀ s, pinOf (leaveF c k).1 s = if s = k then pinOf c s - 1 else pinOf c s) ∧ (leaveF c k).1.fr.length = c.fr.length ∧ (leaveF c k).1.hits = c.hits ∧ (leaveF c k).1.miss = c.miss ∧ (leaveF c k).1.free = c.free ∧
      ∀ s, findF s (leaveF c k).1.fr = findF s c.fr := by
  unfold leaveF
  cases hf : findF k c.fr with
  | none => rw [pinOf, hf] at hp; exact absurd rfl hp
  | some i =>
    have hpi : (c.fr.getD i fz).pins ≠ 0 := by rw [pinOf, hf] at hp; exact hp
    simp only [if_neg hpi]
    obtain ⟨h1, h2, h3⟩ := findF_at hf
    have hfind : ∀ s, findF s (c.fr.set i { c.fr.getD i fz with pins := (c.fr.getD i fz).pins - 1 }) = findF s c.fr := by
      intro s
      have gen : ∀ (l : List Fr) (i : Nat) (f : Fr), f.held = (l.getD i fz).held → f.sec = (l.getD i fz).sec → findF s (l.set i f) = findF s l := by
        intro l
        induction l with
        | nil => intro i f _ _; rfl
        | cons g l ih =>
          intro i f e1 e2
          cases i with
          | zero => simp only [List.getD_cons_zero] at e1 e2; rw [List.set_cons_zero, findF, findF, e1, e2]
          | succ i => simp only [List.getD_cons_succ] at e1 e2; rw [List.set_cons_succ, findF, findF, ih i f e1 e2]
      exact gen c.fr i _ rfl rfl
    refine ⟨h.same (by simp) rfl h.hd (fun j => ?_), trivial, fun s => ?_, by simp, trivial, trivial, trivial, hfind⟩
    · simp only [CD.at, at_set h1]
      by_cases q : j = i
      · subst q; rw [if_pos rfl]; exact ⟨rfl, rfl, rfl, fun z => by rw [CD.at] at h2; rw [h2] at z; cases z⟩
      · rw [if_neg q]; exact ⟨rfl, rfl, rfl, fun _ => rfl⟩
    · simp only [pinOf, hfind, CD.at]
      by_cases q : s = k
      · subst q
        rw [if_pos rfl, hf]
        simp only [at_set h1, if_true]
      · rw [if_neg q]
        cases hs : findF s c.fr with
        | none => rfl
        | some j =>
          have hj : j ≠ i := by
            rintro rfl
            obtain ⟨_, _, g3⟩ := findF_at hs
            exact q (g3.symm.trans h3)
          simp only [at_set h1, if_neg hj]
theorem inv_new (cur : Nat → Sec) (N n : Nat) (h1 : 1 ≤ n) (h2 : n ≤ 64) : Inv cur N ⟨List.replicate n fz, List.range n, 0, 0, 0⟩ := by
  have hat : ∀ i, (List.replicate n fz).getD i fz = fz := fun i => by
    rw [List.getD_eq_getElem?_getD, List.getElem?_replicate]; split <;> rfl
  exact
  { n1 := by simpa using h1
    n2 := by simpa using h2
    hd := by simp only [List.length_replicate]; omega
    fl := fun i hi => by simpa using hi
    nd := List.nodup_range
    fh := fun i hi => by simp only [CD.at, hat]; simp at hi; simpa [fz] using hi
    ds := fun i j _ _ hh _ _ => by simp only [CD.at, hat] at hh; cases hh
    vl := fun i _ hh => by simp only [CD.at, hat] at hh; cases hh
    pz := fun i _ _ => by simp only [CD.at, hat]; exact ⟨rfl, rfl⟩ }
theorem find_new (n k : Nat) : findF k (List.replicate n fz) = none := by
  induction n with
  | zero => rfl
  | succ n ih => rw [List.replicate_succ, findF, ih]; simp [fz]
theorem Inv.held {cur : Nat → Sec} {N : Nat} {c : CD} (h : Inv cur N c) : ∀ i (hi : i < (heldF c).length), (heldF c)[i] < N ∧ (∀ j (hj : j < i), 0 ≤ (heldF c)[i] → (heldF c)[j] ≠ (heldF c)[i]) := by
  have hlen : (heldF c).length = c.fr.length := by simp [heldF]
  have hget : ∀ i (hi : i < (heldF c).length), (heldF c)[i] = if (c.at i).held then ((c.at i).sec : Int) else -1 := fun i hi => by
    have e : c.at i = c.fr[i]'(hlen ▸ hi) := getD_get _
    rw [e]; simp [heldF]
  intro i hi
  rw [hget i hi]
  cases q : (c.at i).held with
  | false => exact ⟨by simp only [Bool.false_eq_true, if_false]; omega, fun j _ z => by simp at z⟩
  | true =>
    refine ⟨by simp only [if_true]; have := (h.vl i (hlen ▸ hi) q).1; omega, fun j hj _ e => ?_⟩
    rw [hget j (by omega)] at e
    cases q' : (c.at j).held with
    | false => rw [q'] at e; simp at e
    | true =>
      rw [q'] at e
      simp only [if_true] at e
      have := h.ds j i (by omega) (hlen ▸ hi) q' q (by omega)
      omega
theorem pinB_of {cur : Nat → Sec} {N : Nat} {c : CD} (h : Inv cur N c) {m : Nat} (hp : ∀ s, pinOf c s ≤ m) : ∀ f ∈ c.fr, f.pins ≤ m := by
  intro f hf
  obtain ⟨i, hi, rfl⟩ := List.getElem_of_mem hf
  have e : c.at i = c.fr[i] := getD_get hi
  cases q : (c.at i).held with
  | true => have := pinOf_at h hi q; have := hp (c.at i).sec; rw [← e]; omega
  | false => have := (h.pz i hi q).1; rw [e] at this; omega
end Go.Gk.Cch
end

section
namespace Go.Gk.Pgr
open Go Go.Gk Go.Gk.Dev Go.Gk.Cch

structure PD where
  frm : Nat
  kinds : List Int
  fb : Nat → Sec
  syn : List Sec
  round : Nat
  tc : Nat
abbrev PD.kd (s : PD) (i : Nat) : Int := s.kinds.getD i 0
def PD.kind (s : PD) (k : Int) : Int := if (s.frm : Int) ≤ k ∧ k < (s.frm : Int) + s.kinds.length then s.kd (k - s.frm).toNat else -1
def setB (fb : Nat → Sec) (i : Nat) (b : Sec) : Nat → Sec := fun j => if j = i then b else fb j
def place0 (x : Int) : List Int → Option Nat
  | [] => none
  | y :: l => if x = y then some 0 else (place0 x l).map (· + 1)
def PD.takeAt (s : PD) (i : Nat) : PD := { s with kinds := s.kinds.set i 1, fb := setB s.fb i zsec }
def PD.take (s : PD) : Option (Nat × PD) := (place0 0 s.kinds).map fun i => (s.frm + i, s.takeAt i)
def PD.put (s : PD) (k : Int) (b : Sec) : PD × Int := if s.kind k = 1 then (if b.length = 256 then ({ s with fb := setB s.fb (k - s.frm).toNat b }, 0) else (s, 2)) else (s, 240)
def PD.get (s : PD) (k : Int) : PD × Option Sec :=
  if s.kind k = 1 then ({ s with tc := s.tc + 1 }, some (s.fb (k - s.frm).toNat)) else if s.kind k = 2 then ({ s with tc := s.tc + 1 }, some (s.syn.getD k.toNat [])) else (s, none)
def PD.drop (s : PD) (k : Int) : PD × Int :=
  if s.kind k = 1 then ({ s with kinds := s.kinds.set (k - s.frm).toNat 0 }, 0) else if s.kind k = 2 then ({ s with kinds := s.kinds.set (k - s.frm).toNat 3 }, 0) else (s, 240)
def PD.writes (s : PD) : Nat → List (Nat × Sec)
  | 0 => []
  | n + 1 => s.writes n ++ (if s.kd n = 1 then [(s.frm + n, s.fb n)] else [])
def PD.flush (s : PD) : PD := { s with syn := synced (s.writes s.kinds.length) s.syn }
def doneK (x : Int) : Int := if x = 3 then 0 else if x = 1 then 2 else x
def PD.done (s : PD) : PD := { s with kinds := s.kinds.map doneK, round := s.round + 1 }
structure MD where
  kinds : List Int
  fb : Nat → Sec
  round : Nat
def PD.free (s : PD) : Nat := s.kinds.countP (· == 0)
def oldsF (frm : Nat) : List Int → Nat → List Int
  | [], _ => []
  | x :: l, i => if x = 2 then ((frm + i : Nat) : Int) :: oldsF frm l (i + 1) else oldsF frm l (i + 1)
def PD.olds (s : PD) : List Int := oldsF s.frm s.kinds 0

structure Good (s : PD) : Prop where
  one : 1 ≤ s.kinds.length
  len : s.kinds.length ≤ 8192
  inn : s.frm + s.kinds.length ≤ s.syn.length
  syn : s.syn.length ≤ 8192
  kd : ∀ i, 0 ≤ s.kd i ∧ s.kd i ≤ 3
structure CacheOk (s : PD) (c : CD) : Prop where
  inv : Inv (fun k => s.syn.getD k []) s.syn.length c
  zer : ∀ k, pinOf c k = 0
  hold : ∀ k, findF k c.fr ≠ none → s.frm ≤ k ∧ k < s.frm + s.kinds.length ∧ 2 ≤ s.kd (k - s.frm)

theorem place0_some {x : Int} : ∀ {l : List Int} {i : Nat}, place0 x l = some i → ∃ h : i < l.length, l[i] = x
  | y :: l, i, h => by
    rw [place0] at h
    split at h
    · rename_i e; cases h; exact ⟨by simp, by simp [e]⟩
    · cases q : place0 x l with
      | none => rw [q] at h; cases h
      | some j =>
        rw [q] at h; cases h
        obtain ⟨h1, h2⟩ := place0_some q
        exact ⟨by simpa using h1, by simpa using h2⟩
theorem kd_get {s : PD} {i : Nat} (h : i < s.kinds.length) : s.kd i = s.kinds[i] := by rw [PD.kd, List.getD_eq_getElem?_getD, List.getElem?_eq_getElem h]; rfl
theorem getD_set {l : List Int} {i j : Nat} {x : Int} (hi : i < l.length) : (l.set i x).getD j 0 = if j = i then x else l.getD j 0 := by
  simp only [List.getD_eq_getElem?_getD, List.getElem?_set]
  by_cases e : i = j
  · subst e; simp [hi]
  · rw [if_neg e, if_neg (fun h => e h.symm)]
theorem kind_in {s : PD} {k : Int} {x : Int} (h : s.kind k = x) (hx : 0 ≤ x) : ∃ i, i < s.kinds.length ∧ k = ((s.frm + i : Nat) : Int) ∧ s.kd i = x ∧ (k - s.frm).toNat = i := by
  unfold PD.kind at h
  split at h
  · rename_i e
    exact ⟨(k - s.frm).toNat, by omega, by omega, h, rfl⟩
  · omega
def Og (l m : List Int) : Prop := l.length = m.length ∧ ∀ i, 2 ≤ l.getD i 0 ↔ 2 ≤ m.getD i 0
theorem Og.refl (l : List Int) : Og l l := ⟨rfl, fun _ => Iff.rfl⟩
theorem Og.trans {a b c : List Int} (h : Og a b) (k : Og b c) : Og a c := ⟨h.1.trans k.1, fun i => (h.2 i).trans (k.2 i)⟩
theorem Og.symm {a b : List Int} (h : Og a b) : Og b a := ⟨h.1.symm, fun i => (h.2 i).symm⟩
theorem Og.set {l : List Int} {i : Nat} {x : Int} (h : 2 ≤ x ↔ 2 ≤ l.getD i 0) : Og (l.set i x) l := by
  refine ⟨by simp, fun j => ?_⟩
  by_cases hi : i < l.length
  · rw [getD_set hi]
    by_cases e : j = i
    · subst e; rw [if_pos rfl]; exact h
    · rw [if_neg e]
  · rw [List.set_eq_of_length_le (by omega)]
theorem getF_shape {b b' : Sec} {c c' : CD} {k : Nat} (hf : ∀ i ∈ c.free, i < c.fr.length) (hh : c.hand < c.fr.length) (h : getF b c k = (c', some b')) : ∃ m i f, c'.fr = m.set i f ∧ SameB m c.fr ∧ i < m.length ∧ f.sec = k := by
  unfold getF at h
  cases hq : findF k c.fr with
  | some i =>
    rw [hq] at h
    cases h
    obtain ⟨h1, h2, h3⟩ := findF_at hq
    exact ⟨c.fr, i, _, rfl, SameB.refl _, h1, h3⟩
  | none =>
    rw [hq] at h
    simp only at h
    cases hr : roomF c with
    | mk c1 o =>
    rw [hr] at h
    cases o with
    | none => cases h
    | some i =>
      cases h
      have hi := room_lt hh hf hr
      refine ⟨c1.fr, i, _, rfl, ?_, hi, rfl⟩
      unfold roomF at hr
      split at hr
      · cases hr; exact SameB.refl _
      · split at hr
        · cases hr
        · cases hr; exact sweep_same _ _ _
theorem get_sub {cur : Nat → Sec} {N : Nat} {c c' : CD} {k : Nat} {b b' : Sec} (h : Inv cur N c) (hg : getF b c k = (c', some b')) {s : Nat} (hs : s ≠ k) (hn : findF s c.fr = none) : findF s c'.fr = none := by
  obtain ⟨m, i, f, e1, e2, e3, e4⟩ := getF_shape h.fl h.hd hg
  cases q : findF s c'.fr with
  | none => rfl
  | some j =>
    obtain ⟨g1, g2, g3⟩ := findF_at q
    simp only [CD.at, e1] at g1 g2 g3
    rw [at_set e3] at g2 g3
    by_cases hj : j = i
    · rw [if_pos hj] at g3; exact absurd (g3.symm.trans e4) hs
    · rw [if_neg hj] at g2 g3
      rw [(e2.2 j).1] at g2; rw [(e2.2 j).2.1] at g3
      exact absurd g3 (findF_not hn (by rw [← e2.1]; simpa using g1) g2)
theorem CacheOk.get {s : PD} {c : CD} (h : CacheOk s c) {k : Nat} (hk : k < s.syn.length) (h1 : s.frm ≤ k) (h2 : k < s.frm + s.kinds.length) (h3 : 2 ≤ s.kd (k - s.frm)) :
    ∃ c', getF (s.syn.getD k []) c k = (c', some (s.syn.getD k [])) ∧ PinB c 4611686018427387904 ∧ PinB c' 4611686018427387904 ∧ (leaveF c' k).2 = 0 ∧ CacheOk s (leaveF c' k).1 := by
  have hpb : ∀ {c : CD} {n : Nat}, Inv (fun k => s.syn.getD k []) s.syn.length c → (∀ s, pinOf c s ≤ n) → n ≤ 1000 → PinB c 4611686018427387904 := fun hi hz hn f hf => by
    have := pinB_of hi hz f hf; omega
  cases hr : getF (s.syn.getD k []) c k with
  | mk c' o =>
  cases o with
  | none =>
    obtain ⟨-, g2, g3, g4⟩ := get_none (cur := fun k => s.syn.getD k []) h.inv hr
    exfalso
    have h0 := h.inv.n1
    have hheld : (c.at 0).held = true := by
      cases q : (c.at 0).held with
      | true => rfl
      | false => have := (h.inv.fh 0 h0).1 q; rw [g3] at this; cases this
    have e := pinOf_at h.inv h0 hheld
    rw [h.zer] at e
    have := List.all_eq_true.1 g4 _ (List.getElem_mem h0)
    rw [show c.at 0 = c.fr[0] from getD_get h0] at e
    simp [← e] at this
  | some b' =>
    obtain ⟨g1, rfl, g3, g4, g5, g6, g7⟩ := get_some (cur := fun k => s.syn.getD k []) h.inv hk hr
    obtain ⟨q1, q2, q3, q4, q5, q6, q7, q8⟩ := leave_inv g1 (k := k) (by rw [g3, if_pos rfl]; omega)
    refine ⟨c', rfl, hpb h.inv (n := 0) (fun s => by rw [h.zer]; omega) (by omega), hpb g1 (n := 1) (fun s => by rw [g3, h.zer]; split <;> omega) (by omega), q2, q1, fun s => ?_, fun t ht => ?_⟩
    · rw [q3, g3, h.zer]; split <;> omega
    · rw [q8] at ht
      by_cases e : t = k
      · subst e; exact ⟨h1, h2, h3⟩
      · exact h.hold t (fun z => ht (get_sub h.inv hr e z))
end Go.Gk.Pgr
namespace Go.Gk.Pgr
open Go Go.Gk Go.Gk.Dev Go.Gk.Cch
def PD.takeR (s : PD) : PD × Int × Int := match place0 0 s.kinds with | some i => (s.takeAt i, ((s.frm + i : Nat) : Int), 0) | none => (s, 0, 190)
theorem Good.to' {s s' : PD} (h : Good s) (h1 : s'.frm = s.frm) (h2 : s'.syn.length = s.syn.length) (e : s'.kinds = s.kinds) : Good s' :=
  ⟨by rw [e]; exact h.one, by rw [e]; exact h.len, by rw [h1, h2, e]; exact h.inn, by rw [h2]; exact h.syn, fun i => by rw [PD.kd, e]; exact h.kd i⟩
end Go.Gk.Pgr
namespace Go.Gk.Pgr
open Go Go.Gk Go.Gk.Dev Go.Gk.Cch
theorem synced_at {k : Nat} : ∀ {l : List (Nat × Sec)} {s : List Sec}, (∀ w ∈ l, w.1 ≠ k) → (synced l s).getD k [] = s.getD k []
  | [], _, _ => rfl
  | w :: l, s, h => by
    have e : synced (w :: l) s = synced l (s.set w.1 w.2) := by simp [synced]
    rw [e, synced_at (fun w' hw => h w' (List.mem_cons_of_mem _ hw)), List.getD_eq_getElem?_getD, List.getElem?_set, if_neg (h w (List.mem_cons_self ..)), ← List.getD_eq_getElem?_getD]
theorem writes_mem {s : PD} : ∀ {n : Nat} {w : Nat × Sec}, w ∈ s.writes n → ∃ i, i < n ∧ s.kd i = 1 ∧ w = (s.frm + i, s.fb i)
  | n + 1, w, h => by
    rw [PD.writes, List.mem_append] at h
    rcases h with h | h
    · obtain ⟨i, h1, h2⟩ := writes_mem h
      exact ⟨i, by omega, h2⟩
    · split at h
      · rename_i e
        rw [List.mem_singleton] at h
        exact ⟨n, by omega, e, h⟩
      · cases h
theorem Inv.cur_to {cur cur' : Nat → Sec} {N : Nat} {c : CD} (h : Inv cur N c) (he : ∀ k, findF k c.fr ≠ none → cur' k = cur k) : Inv cur' N c :=
  { h with vl := fun i hi hh => ⟨(h.vl i hi hh).1, by rw [(h.vl i hi hh).2, he _ (by rw [h.find hi hh rfl]; simp)]⟩ }
theorem CacheOk.flush {s : PD} {c : CD} (h : CacheOk s c) : CacheOk s.flush c := by
  refine ⟨?_, h.zer, h.hold⟩
  have hl : s.flush.syn.length = s.syn.length := synced_len _ _
  rw [hl]
  refine Inv.cur_to h.inv (fun k hk => ?_)
  obtain ⟨h1, h2, h3⟩ := h.hold k hk
  refine synced_at (fun w hw e => ?_)
  obtain ⟨i, h4, h5, rfl⟩ := writes_mem hw
  simp only at e
  rw [← e, show s.frm + i - s.frm = i by omega] at h3
  omega
theorem Good.flush {s : PD} (h : Good s) : Good s.flush := h.to' rfl (synced_len _ _) rfl
def Mid (i : Nat) (l m : List Int) : Prop := m.length = l.length ∧ ∀ j, m.getD j 0 = if j < i then doneK (l.getD j 0) else l.getD j 0
theorem Mid.zero (l : List Int) : Mid 0 l l := ⟨rfl, fun j => by rw [if_neg (by omega)]⟩
theorem Mid.next {i : Nat} {l m : List Int} (h : Mid i l m) (hi : i < l.length) : Mid (i + 1) l (m.set i (doneK (l.getD i 0))) := by
  refine ⟨by simpa using h.1, fun j => ?_⟩
  rw [getD_set (by rw [h.1]; exact hi), h.2]
  by_cases e : j = i
  · subst e; rw [if_pos rfl, if_pos (by omega)]
  · rw [if_neg e]
    by_cases q : j < i
    · rw [if_pos q, if_pos (by omega)]
    · rw [if_neg q, if_neg (by omega)]
theorem Mid.same {i : Nat} {l m : List Int} (h : Mid i l m) (hi : i < l.length) (hs : doneK (l.getD i 0) = l.getD i 0) : Mid (i + 1) l m := by
  refine ⟨h.1, fun j => ?_⟩
  rw [h.2]
  by_cases e : j = i
  · subst e; rw [if_neg (by omega), if_pos (by omega), hs]
  · by_cases q : j < i
    · rw [if_pos q, if_pos (by omega)]
    · rw [if_neg q, if_neg (by omega)]
theorem ext_getD {l m : List Int} (h : l.length = m.length) (he : ∀ j, l.getD j 0 = m.getD j 0) : l = m := by
  refine List.ext_getElem h (fun j h1 h2 => ?_)
  have := he j
  rwa [List.getD_eq_getElem?_getD, List.getD_eq_getElem?_getD, List.getElem?_eq_getElem h1, List.getElem?_eq_getElem h2] at this
theorem getD_map {l : List Int} {j : Nat} : (l.map doneK).getD j 0 = doneK (l.getD j 0) := by
  simp only [List.getD_eq_getElem?_getD, List.getElem?_map]
  cases l[j]? <;> rfl
theorem Mid.done {i : Nat} {l m : List Int} (h : Mid i l m) (hi : l.length ≤ i) : m = l.map doneK := by
  refine ext_getD (by simpa using h.1) (fun j => ?_)
  rw [h.2, getD_map]
  by_cases e : j < i
  · rw [if_pos e]
  · rw [if_neg e, List.getD_eq_getElem?_getD, List.getElem?_eq_none (by omega)]; rfl
end Go.Gk.Pgr
namespace Go.Gk.Pgr
end Go.Gk.Pgr
namespace Go.Gk.Pgr
open Go Go.Gk Go.Gk.Dev Go.Gk.Cch
end Go.Gk.Pgr
namespace Go.Gk.Pgr
open Go Go.Gk Go.Gk.Dev Go.Gk.Cch
def lives (n : Nat) (l : List Nat) : List Int := l.foldl (fun ks k => ks.set k 2) (List.replicate n 0)
theorem foldl_set_len {l : List Nat} : ∀ {ks : List Int}, (l.foldl (fun ks k => ks.set k 2) ks).length = ks.length := by
  induction l with
  | nil => intro ks; rfl
  | cons x l ih => intro ks; rw [List.foldl_cons, ih, List.length_set]
theorem lives_len {n : Nat} {l : List Nat} : (lives n l).length = n := by rw [lives, foldl_set_len, List.length_replicate]
theorem foldl_set_at {l : List Nat} {j : Nat} : ∀ {ks : List Int}, j < ks.length → (l.foldl (fun ks k => ks.set k 2) ks).getD j 0 = if j ∈ l then 2 else ks.getD j 0 := by
  induction l with
  | nil => intro ks _; simp
  | cons x l ih =>
    intro ks hj
    rw [List.foldl_cons, ih (by rw [List.length_set]; exact hj)]
    by_cases h : j ∈ l
    · rw [if_pos h, if_pos (List.mem_cons_of_mem _ h)]
    · rw [if_neg h]
      by_cases e : j = x
      · subst e; rw [getD_set hj, if_pos rfl, if_pos (List.mem_cons_self ..)]
      · rw [if_neg (by simp [e, h])]
        by_cases hx : x < ks.length
        · rw [getD_set hx, if_neg e]
        · rw [List.set_eq_of_length_le (by omega)]
theorem lives_at {n j : Nat} {l : List Nat} : (lives n l).getD j 0 = if j < n ∧ j ∈ l then 2 else 0 := by
  by_cases hj : j < n
  · rw [lives, foldl_set_at (by rw [List.length_replicate]; exact hj)]
    by_cases h : j ∈ l
    · rw [if_pos h, if_pos ⟨hj, h⟩]
    · rw [if_neg h, if_neg (fun q => h q.2), List.getD_eq_getElem?_getD, List.getElem?_replicate]; split <;> rfl
  · rw [if_neg (fun q => hj q.1), List.getD_eq_getElem?_getD, List.getElem?_eq_none (by rw [lives_len]; omega)]; rfl
theorem find_new {k m : Nat} : findF k (List.replicate m fz) = none := by
  cases h : findF k (List.replicate m fz) with
  | none => rfl
  | some i =>
    obtain ⟨h1, h2, -⟩ := findF_some h
    rw [List.getElem_replicate] at h2
    cases h2
theorem CacheOk.new {s : PD} {m : Nat} (h1 : 1 ≤ m) (h2 : m ≤ 64) : CacheOk s ⟨List.replicate m fz, List.range m, 0, 0, 0⟩ :=
  ⟨inv_new _ _ m h1 h2, fun k => by rw [pinOf, find_new], fun k hk => absurd find_new hk⟩
theorem Good.new {frm n : Nat} {l : List Nat} {fb : Nat → Sec} {syn : List Sec} (h1 : 1 ≤ n) (h2 : frm + n ≤ syn.length) (h3 : syn.length ≤ 8192) : Good ⟨frm, lives n l, fb, syn, 0, 0⟩ :=
  ⟨by rw [lives_len]; exact h1, by rw [lives_len]; omega, by rw [lives_len]; exact h2, h3, fun i => by
    show 0 ≤ (lives n l).getD i 0 ∧ (lives n l).getD i 0 ≤ 3
    rw [lives_at]; split <;> decide⟩
end Go.Gk.Pgr
end

section
namespace Go.Gk.Dev
open Go Go.Gk
attribute [local irreducible] gwp gws
end Go.Gk.Dev
end

section
namespace Go.Gk.Cch
open Go Go.Gk Go.Gk.Dev
attribute [local irreducible] gwp gws
def RFr (d : PHeap) (cs : List Value) (f : Fr) : Prop := ∃ a n c, cs = [.bool f.held, .int .i64 f.sec, .int .i64 f.pins, .bool f.late, .slice a n c] ∧ RBytes d (.slice a n c) f.b
theorem mono_fr : Mono RFr := fun hl ⟨a, n, c, h1, h2⟩ => ⟨a, n, c, h1, h2.mono hl⟩
def wr (n : Nat) : Int := IntKind.i64.wrap (n : Int)
section
variable {P : Program} {pan : List PanicEntry → Post} {Qn : Env → Post} {Ls L : List PHeap} {ρ : Env} {d : PHeap} {s : GS} {t : Nat} {tk : Bool}
end
def Ca (d : PHeap) (c : CD) (dv cv : Value) (L : List PHeap) : Prop :=
  ∃ b T bf cp cb hf s r bd, cv = .pointer (some ⟨b, 0, none⟩) ∧ dv = .pointer (some ⟨bd, 0, none⟩) ∧
    L = [bx b T [dv, .slice (some ⟨bf, 0, none⟩) c.fr.length cp, .chan (some cb), .int .i64 c.hand, .int .i64 (wr c.hits), .int .i64 (wr c.miss)], hf, sg cb (.chan c.fr.length (c.free.map fun i : Nat => Value.int .i64 i).toArray false s r false)] ∧
    GRow 5 RFr d (.slice (some ⟨bf, 0, none⟩) c.fr.length cp) c.fr hf ∧ 1 ≤ c.fr.length ∧ c.fr.length ≤ 64 ∧ c.hand < c.fr.length ∧ ∀ i ∈ c.free, i < c.fr.length
theorem Ca.mono {d d' : PHeap} {c : CD} {dv cv : Value} {L : List PHeap} (h : Ca d c dv cv L) (hl : Le d d') : Ca d' c dv cv L :=
  let ⟨b, T, bf, cp, cb, hf, s, r, bd, h1, h2, h3, h4, h5⟩ := h
  ⟨b, T, bf, cp, cb, hf, s, r, bd, h1, h2, h3, GRow.mono (R := RFr) mono_fr h4 hl, h5⟩
theorem Ca.mk {d : PHeap} {c : CD} {b bf cp cb s r bd n : Nat} {T : TypeId} {hf : PHeap} (hn : c.fr.length = n) (hg : GRow 5 RFr d (.slice (some ⟨bf, 0, none⟩) n cp) c.fr hf) (h1 : 1 ≤ n) (h2 : n ≤ 64) (h3 : c.hand < n) (h4 : ∀ i ∈ c.free, i < n) :
    Ca d c (.pointer (some ⟨bd, 0, none⟩)) (.pointer (some ⟨b, 0, none⟩)) [bx b T [.pointer (some ⟨bd, 0, none⟩), .slice (some ⟨bf, 0, none⟩) n cp, .chan (some cb), .int .i64 c.hand, .int .i64 (wr c.hits), .int .i64 (wr c.miss)], hf,
      sg cb (.chan n (c.free.map fun i : Nat => Value.int .i64 i).toArray false s r false)] := by
  subst hn
  exact ⟨b, T, bf, cp, cb, hf, s, r, bd, rfl, rfl, rfl, hg, h1, h2, h3, h4⟩

end Go.Gk.Cch
end

section
namespace Go.Gk.Cch
open Go Go.Gk Go.Gk.Dev
attribute [local irreducible] gwp gws
def GotB (d : PHeap) (r : Value) (o : Option Sec) : Prop := match o with | some b => ∃ u, r = .tuple #[u, .int .i64 0] ∧ RBytes d u b | none => r = .tuple #[.slice none 0 0, .int .i64 180]
def CGetOk (P : Program) (f : FuncId) : Prop := ∀ {d : PHeap} {c : CD} {D : DevD} {dv cv : Value} {LC LD : List PHeap} {k : Nat}, Ca d c dv cv LC → Dv d D dv LD → PinB c 4611686018427387904 → k < D.syn.length →
  GCall P f [cv, .int .i64 k] d (LC ++ LD) (Ret fun r d' L' => ∃ LC' LD', L' = LC' ++ LD' ∧ Ca d' (getF (D.cur k) c k).1 dv cv LC' ∧ Dv d' D dv LD' ∧ GotB d' r (getF (D.cur k) c k).2)
end Go.Gk.Cch
end

section
namespace Go.Gk.Cch
open Go Go.Gk Go.Gk.Dev
attribute [local irreducible] gwp gws
def CLeaveOk (P : Program) (f : FuncId) : Prop := ∀ {d : PHeap} {c : CD} {dv cv : Value} {L : List PHeap} {k : Nat}, Ca d c dv cv L → PinB c 4611686018427387904 →
  GCall P f [cv, .int .i64 k] d L (Ret fun r d' L' => d' = d ∧ r = .int .i64 (leaveF c k).2 ∧ Ca d (leaveF c k).1 dv cv L')
def CForgetOk (P : Program) (f : FuncId) : Prop := ∀ {d : PHeap} {c : CD} {dv cv : Value} {L : List PHeap} {k : Nat}, Ca d c dv cv L → (∀ i, findF k c.fr = some i → c.free.length < c.fr.length) →
  GCall P f [cv, .int .i64 k] d L (Ret fun r d' L' => d' = d ∧ r = .int .i64 (forgetF c k).2 ∧ Ca d (forgetF c k).1 dv cv L')
def CHeldOk (P : Program) (f : FuncId) : Prop := ∀ {d : PHeap} {c : CD} {dv cv : Value} {L : List PHeap}, Ca d c dv cv L → (∀ f ∈ c.fr, f.sec ≤ 8192) →
  GCall P f [cv] d L (Ret fun r d' L' => L' = L ∧ RInts d' r (heldF c))
def HitsOk (P : Program) (f : FuncId) : Prop := ∀ {d : PHeap} {c : CD} {dv cv : Value} {L : List PHeap}, Ca d c dv cv L → GRead P f [cv] d L (.int .i64 (wr c.hits))
def MissesOk (P : Program) (f : FuncId) : Prop := ∀ {d : PHeap} {c : CD} {dv cv : Value} {L : List PHeap}, Ca d c dv cv L → GRead P f [cv] d L (.int .i64 (wr c.miss))
end Go.Gk.Cch
end

section
namespace Go.Gk.Node
open Go Go.Gk
attribute [local irreducible] gwp gws
end Go.Gk.Node
end

section
namespace Go.Gk.Pgr
open Go Go.Gk Go.Gk.Dev Go.Gk.Cch Go.Gk.Node
attribute [local irreducible] gwp gws
abbrev kI (k : Int) : Value := .int .i64 k
abbrev mpI (mb : Nat) (ms : List (Int × Value × Nat)) (clk : Nat) : PHeap := mp kI id mb ms clk
def MapOk (d : PHeap) (frm : Nat) (kinds : List Int) (fb : Nat → Sec) (ms : List (Int × Value × Nat)) : Prop := ∀ i, i < kinds.length → kinds.getD i 0 = 1 → ∃ v, mGet ((frm + i : Nat) : Int) ms = some v ∧ RBytes d v (fb i) ∧ (fb i).length = 256
theorem MapOk.mono {d d' : PHeap} {frm : Nat} {kinds : List Int} {fb : Nat → Sec} {ms : List (Int × Value × Nat)} (h : MapOk d frm kinds fb ms) (hl : Le d d') : MapOk d' frm kinds fb ms := fun i hi hk =>
  let ⟨v, h1, h2, h3⟩ := h i hi hk
  ⟨v, h1, h2.mono hl, h3⟩
def Pg (d : PHeap) (s : PD) (dv pv : Value) (L : List PHeap) : Prop :=
  ∃ b T cv bk cp hk mb ms clk c LC LD bd, pv = .pointer (some ⟨b, 0, none⟩) ∧ dv = .pointer (some ⟨bd, 0, none⟩) ∧
    L = bx b T [dv, cv, .int .i64 s.frm, .slice (some ⟨bk, 0, none⟩) s.kinds.length cp, .map (some mb), .int .i64 (wr s.round), .int .i64 (wr s.tc)] :: hk :: mpI mb ms clk :: (LC ++ LD) ∧
    GRow 1 RInt d (.slice (some ⟨bk, 0, none⟩) s.kinds.length cp) s.kinds hk ∧ MapOk d s.frm s.kinds s.fb ms ∧ Ca d c dv cv LC ∧ Dv d ⟨s.syn, []⟩ dv LD ∧ CacheOk s c ∧ Good s
theorem Pg.mono {d d' : PHeap} {s : PD} {dv pv : Value} {L : List PHeap} (h : Pg d s dv pv L) (hl : Le d d') : Pg d' s dv pv L :=
  let ⟨b, T, cv, bk, cp, hk, mb, ms, clk, c, LC, LD, bd, h1, h2, h3, h4, h5, h6, h7, h8, h9⟩ := h
  ⟨b, T, cv, bk, cp, hk, mb, ms, clk, c, LC, LD, bd, h1, h2, h3, GRow.mono (R := RInt) mono_int h4 hl, h5.mono hl, h6.mono hl, h7.mono hl, h8, h9⟩
theorem Pg.good {d : PHeap} {s : PD} {dv pv : Value} {L : List PHeap} (h : Pg d s dv pv L) : Good s := let ⟨_, _, _, _, _, _, _, _, _, _, _, _, _, _, _, _, _, _, _, _, _, h9⟩ := h; h9
theorem Pg.mk {d : PHeap} {s : PD} {b : Nat} {T : TypeId} {cv : Value} {bk cp n : Nat} {hk : PHeap} {mb : Nat} {ms : List (Int × Value × Nat)} {clk : Nat} {c : CD} {LC LD : List PHeap} {bd : Nat} (hn : s.kinds.length = n)
    (h4 : GRow 1 RInt d (.slice (some ⟨bk, 0, none⟩) n cp) s.kinds hk) (h5 : MapOk d s.frm s.kinds s.fb ms) (h6 : Ca d c (.pointer (some ⟨bd, 0, none⟩)) cv LC) (h7 : Dv d ⟨s.syn, []⟩ (.pointer (some ⟨bd, 0, none⟩)) LD) (h8 : CacheOk s c) (h9 : Good s) :
    Pg d s (.pointer (some ⟨bd, 0, none⟩)) (.pointer (some ⟨b, 0, none⟩)) (bx b T [.pointer (some ⟨bd, 0, none⟩), cv, .int .i64 s.frm, .slice (some ⟨bk, 0, none⟩) n cp, .map (some mb), .int .i64 (wr s.round), .int .i64 (wr s.tc)] :: hk :: mpI mb ms clk :: (LC ++ LD)) := by
  subst hn
  exact ⟨b, T, cv, bk, cp, hk, mb, ms, clk, c, LC, LD, bd, rfl, rfl, rfl, h4, h5, h6, h7, h8, h9⟩

def g_pager_Pager_none : GFun :=
 ⟨12, [(.tmp 2)],
 (.seq
 (.reg false (.op false ⟨(some 2), none, (.mv (.const (.bool false)))⟩ .done))
 (.seq
 (.reg false (.op false ⟨(some 3), none, (.mv (.tmp 0))⟩
  (.op false ⟨(some 4), none, (.eqp false (.tmp 3) (.const (.pointer none)))⟩
  (.op false ⟨(some 5), none, (.mv (.tmp 4))⟩
  (.op false ⟨(some 6), (some (5, false)), (.mv (.tmp 0))⟩
  (.op false ⟨(some 7), (some (5, false)), (.nilc (.tmp 6))⟩
  (.op false ⟨(some 8), (some (5, false)), (.fld 0 (.tmp 7))⟩
  (.op false ⟨(some 9), (some (5, false)), (.ld none (.tmp 8))⟩
  (.op false ⟨(some 10), (some (5, false)), (.eqp false (.tmp 9) (.const (.pointer none)))⟩
  (.op false ⟨(some 11), none, (.pick (.tmp 5) (.const (.bool true)) (.tmp 10))⟩
  (.op false ⟨(some 2), none, (.mv (.tmp 11))⟩ .done))))))))))) .ret))⟩

end Go.Gk.Pgr
end

section
namespace Go.Gk.Pgr
open Go Go.Gk Go.Gk.Dev Go.Gk.Cch Go.Gk.Node
attribute [local irreducible] gwp gws
def RRow (d : PHeap) (h : Option Sec) (r : Value) : Prop := match h with | some x => RBytes d r x | none => r = .slice none 0 0
def PGetOk (P : Program) (f : FuncId) : Prop := ∀ {d : PHeap} {s : PD} {dv pv : Value} {L : List PHeap} {k : Int}, Pg d s dv pv L →
  GCall P f [pv, .int .i64 k] d L (Ret fun r d' L' => (∃ q, r = .tuple #[q, .int .i64 (match (s.get k).2 with | some _ => 0 | none => 240)] ∧ RRow d' (s.get k).2 q) ∧ Pg d' (s.get k).1 dv pv L')
end Go.Gk.Pgr
end

section
namespace Go.Gk.Pgr
open Go Go.Gk Go.Gk.Dev Go.Gk.Cch Go.Gk.Node
attribute [local irreducible] gwp gws
end Go.Gk.Pgr
end

section
namespace Go.Gk.Pgr
open Go Go.Gk Go.Gk.Dev Go.Gk.Cch Go.Gk.Node
attribute [local irreducible] gwp gws
end Go.Gk.Pgr
end

section
namespace Go.Gk.Pgr
open Go Go.Gk Go.Gk.Dev Go.Gk.Cch Go.Gk.Node
attribute [local irreducible] gwp gws
theorem Le.dcs {d : PHeap} {b : Nat} {T : TypeId} {l : List Value} (h : Le (bx b T l) d) : DCs d b 0 l := ⟨_, _, _, h b _ (sg_self _ _), fun i u hi => by simpa using hi⟩
def Mk (d : PHeap) (m : MD) (frm : Nat) (pv v : Value) : Prop := ∃ bm bk cp mq ms clk, v = .pointer (some ⟨bm, 0, none⟩) ∧ DCs d bm 0 [pv, .int .i64 (wr m.round), .slice (some ⟨bk, 0, none⟩) m.kinds.length cp, .map (some mq)] ∧ RSl 1 RInt d (.slice (some ⟨bk, 0, none⟩) m.kinds.length cp) m.kinds ∧
  Le (mpI mq ms clk) d ∧ MapOk d frm m.kinds m.fb ms
theorem Mk.mono {d d' : PHeap} {m : MD} {frm : Nat} {pv v : Value} (h : Mk d m frm pv v) (hl : Le d d') : Mk d' m frm pv v :=
  let ⟨bm, bk, cp, mq, ms, clk, h1, h2, h3, h4, h5⟩ := h
  ⟨bm, bk, cp, mq, ms, clk, h1, h2.mono hl, RSl.mono (R := RInt) mono_int h3 hl, h4.trans hl, h5.mono hl⟩
def g_pager_Pager_Mark (f_pager_Pager_none f_slices_Clone_int_int f_maps_Clone_map_int_byte_int_byte : Nat) : GFun :=
 ⟨22, [(.tmp 2)],
 (.seq
 (.reg false (.op false ⟨(some 2), none, (.mv (.const (.pointer none)))⟩ .done))
 (.seq (.seq
 (.reg false (.op false ⟨(some 3), none, (.mv (.tmp 0))⟩
  (.op false ⟨(some 4), none, (.call f_pager_Pager_none [(.tmp 3)])⟩ .done))) (.cond (.tmp 4)
 (.seq
 (.reg false (.op false ⟨(some 2), none, (.mv (.const (.pointer none)))⟩ .done)) .ret) .skip))
 (.seq
 (.reg true (.op true ⟨(some 5), none, (.mv (.tmp 0))⟩
  (.op true ⟨(some 6), none, (.mv (.tmp 0))⟩
  (.op true ⟨(some 7), none, (.nilc (.tmp 6))⟩
  (.op true ⟨(some 8), none, (.fld 5 (.tmp 7))⟩
  (.op true ⟨(some 9), none, (.ld none (.tmp 8))⟩
  (.op true ⟨(some 10), none, (.mv (.tmp 0))⟩
  (.op true ⟨(some 11), none, (.nilc (.tmp 10))⟩
  (.op true ⟨(some 12), none, (.fld 3 (.tmp 11))⟩
  (.op true ⟨(some 13), none, (.ld none (.tmp 12))⟩
  (.op true ⟨(some 15), none, (.mv (.tmp 0))⟩
  (.op true ⟨(some 16), none, (.nilc (.tmp 15))⟩
  (.op true ⟨(some 17), none, (.fld 4 (.tmp 16))⟩
  (.op true ⟨(some 18), none, (.ld none (.tmp 17))⟩
  (.op false ⟨(some 14), none, (.call f_slices_Clone_int_int [(.tmp 13)])⟩
  (.op false ⟨(some 19), none, (.call f_maps_Clone_map_int_byte_int_byte [(.tmp 18)])⟩
  (.op true ⟨(some 20), none, (.bld [(0, 1), (1, 1), (2, 1), (3, 1)] [(.pointer none), (.int .i64 0), (.slice none 0 0), (.map none)] [(0, (.tmp 5)), (1, (.tmp 9)), (2, (.tmp 14)), (3, (.tmp 19))])⟩
  (.op false ⟨(some 21), none, (.box (.tmp 20))⟩
  (.bar (.op true ⟨(some 2), none, (.mv (.tmp 21))⟩ .done)))))))))))))))))))) .ret)))⟩

end Go.Gk.Pgr
end

section
namespace Go.Gk.Cch
open Go Go.Gk Go.Gk.Dev
attribute [local irreducible] gwp gws
def Cov (d : PHeap) (c : CD) (D : DevD) (cv : Value) (L : List PHeap) : Prop := ∃ dv LC LD, L = LC ++ LD ∧ Ca d c dv cv LC ∧ Dv d D dv LD
theorem Cov.mono {d d' : PHeap} {c : CD} {D : DevD} {cv : Value} {L : List PHeap} (h : Cov d c D cv L) (hl : Le d d') : Cov d' c D cv L :=
  let ⟨dv, LC, LD, h1, h2, h3⟩ := h
  ⟨dv, LC, LD, h1, h2.mono hl, h3.mono hl⟩
section
variable {P : Program} {f : FuncId} {d : PHeap} {c : CD} {D : DevD} {cv : Value} {L : List PHeap} {k : Nat}
theorem CGetOk.cov (h : CGetOk P f) (hc : Cov d c D cv L) (hp : PinB c 4611686018427387904) (hk : k < D.syn.length) :
    GCall P f [cv, .int .i64 k] d L (Ret fun r d' L' => Cov d' (getF (D.cur k) c k).1 D cv L' ∧ GotB d' r (getF (D.cur k) c k).2) := by
  obtain ⟨dv, LC, LD, rfl, h1, h2⟩ := hc
  refine (h h1 h2 hp hk).mono (fun e d' L' hl hr => ?_)
  cases e with
  | returned v => obtain ⟨LC', LD', rfl, g1, g2, g3⟩ := hr; exact ⟨⟨dv, LC', LD', rfl, g1, g2⟩, g3⟩
  | panicked c => exact hr
  | outgrown => exact hr
theorem frameR {args : List Value} {A B : List PHeap} {R R' : Value → PHeap → List PHeap → Prop} (h : GCall P f args d A (Ret R)) (hR : ∀ v d' A', Le d d' → R v d' A' → R' v d' (A' ++ B)) : GCall P f args d (A ++ B) (Ret R') := by
  refine (h.frame B).mono (fun e d' L' hl hr => ?_)
  obtain ⟨A', rfl, hr⟩ := hr
  cases e with
  | returned v => exact hR v d' A' hl hr
  | panicked c => exact hr
  | outgrown => exact hr
theorem CLeaveOk.cov (h : CLeaveOk P f) (hc : Cov d c D cv L) (hp : PinB c 4611686018427387904) :
    GCall P f [cv, .int .i64 k] d L (Ret fun r d' L' => r = .int .i64 (leaveF c k).2 ∧ Cov d' (leaveF c k).1 D cv L') := by
  obtain ⟨dv, LC, LD, rfl, h1, h2⟩ := hc
  exact frameR (h (k := k) h1 hp) (fun v d' A' hl ⟨g1, g2, g3⟩ => ⟨g2, dv, A', LD, rfl, g3.mono (by rw [g1]; exact Le.refl _), h2.mono hl⟩)
theorem CForgetOk.cov (h : CForgetOk P f) (hc : Cov d c D cv L) (hp : ∀ i, findF k c.fr = some i → c.free.length < c.fr.length) :
    GCall P f [cv, .int .i64 k] d L (Ret fun r d' L' => r = .int .i64 (forgetF c k).2 ∧ Cov d' (forgetF c k).1 D cv L') := by
  obtain ⟨dv, LC, LD, rfl, h1, h2⟩ := hc
  exact frameR (h (k := k) h1 hp) (fun v d' A' hl ⟨g1, g2, g3⟩ => ⟨g2, dv, A', LD, rfl, g3.mono (by rw [g1]; exact Le.refl _), h2.mono hl⟩)
theorem CHeldOk.cov (h : CHeldOk P f) (hc : Cov d c D cv L) (hs : ∀ f ∈ c.fr, f.sec ≤ 8192) : GCall P f [cv] d L (Ret fun r d' L' => L' = L ∧ RInts d' r (heldF c)) := by
  obtain ⟨dv, LC, LD, rfl, h1, h2⟩ := hc
  exact frameR (h h1 hs) (fun v d' A' hl ⟨g1, g2⟩ => ⟨by rw [g1], g2⟩)
theorem HitsOk.cov (h : HitsOk P f) (hc : Cov d c D cv L) : GRead P f [cv] d L (.int .i64 (wr c.hits)) := by
  obtain ⟨dv, LC, LD, rfl, h1, h2⟩ := hc
  exact frameR (h h1) (fun v d' A' hl ⟨g1, g2, g3⟩ => ⟨g1, g2, by rw [g3]⟩)
theorem MissesOk.cov (h : MissesOk P f) (hc : Cov d c D cv L) : GRead P f [cv] d L (.int .i64 (wr c.miss)) := by
  obtain ⟨dv, LC, LD, rfl, h1, h2⟩ := hc
  exact frameR (h h1) (fun v d' A' hl ⟨g1, g2, g3⟩ => ⟨g1, g2, by rw [g3]⟩)
end
end Go.Gk.Cch
end

section
namespace Go.Gk.Pgr
open Go Go.Gk Go.Gk.Dev Go.Gk.Cch Go.Gk.Node
attribute [local irreducible] gwp gws
end Go.Gk.Pgr
end

section
namespace Go.Gk.Pgr
open Go Go.Gk Go.Gk.Dev Go.Gk.Cch Go.Gk.Node
attribute [local irreducible] gwp gws
end Go.Gk.Pgr
end

section
namespace Go.Gk.Pgr
open Go Go.Gk Go.Gk.Dev Go.Gk.Cch Go.Gk.Node
attribute [local irreducible] gwp gws
section
variable {P : Program} {pan : List PanicEntry → Post} {Qn : Env → Post} {Ls L : List PHeap} {ρ : Env} {d : PHeap} {s : GS} {t : Nat} {tk : Bool}
end
structure AD where
  kind : Int
  k : Int
  by_ : UInt8
abbrev fillB (b : UInt8) : Sec := List.replicate 256 b
def PD.act (s : PD) (a : AD) : PD :=
  if a.kind = 0 then (if s.takeR.2.2 = 0 then (s.takeR.1.put s.takeR.2.1 (fillB a.by_)).1 else s.takeR.1)
  else if a.kind = 1 then (s.put (2 + a.k % 8) (fillB a.by_)).1
  else if a.kind = 3 then (s.drop (2 + a.k % 8)).1
  else if a.kind = 4 then s.flush
  else s
def PD.run (s : PD) (l : List AD) : PD := l.foldl PD.act s
end Go.Gk.Pgr
end

section
namespace Go.Gk.Pgr
open Go Go.Gk Go.Gk.Dev Go.Gk.Cch

structure Keep (s t : PD) : Prop where
  frm : t.frm = s.frm
  len : t.kinds.length = s.kinds.length
  syn : t.syn.length = s.syn.length
  old : ∀ i, 2 ≤ s.kd i → 2 ≤ t.kd i
  new : ∀ i, 2 ≤ t.kd i → 2 ≤ s.kd i
  sec : ∀ i, 2 ≤ s.kd i → t.syn.getD (s.frm + i) [] = s.syn.getD (s.frm + i) []
  round : t.round = s.round
theorem Keep.refl (s : PD) : Keep s s := ⟨rfl, rfl, rfl, fun _ h => h, fun _ h => h, fun _ _ => rfl, rfl⟩
theorem Keep.trans {s t u : PD} (h : Keep s t) (k : Keep t u) : Keep s u :=
  ⟨k.frm.trans h.frm, k.len.trans h.len, k.syn.trans h.syn, fun i hi => k.old i (h.old i hi), fun i hi => h.new i (k.new i hi), fun i hi => by have := k.sec i (h.old i hi); rw [h.frm] at this; exact this.trans (h.sec i hi), k.round.trans h.round⟩
theorem Keep.set {s : PD} {i : Nat} {x : Int} {fb : Nat → Sec} (h : 2 ≤ s.kd i ↔ 2 ≤ x) : Keep s { s with kinds := s.kinds.set i x, fb := fb } := by
  have key : ∀ j, 2 ≤ s.kd j ↔ 2 ≤ (s.kinds.set i x).getD j 0 := fun j => by
    by_cases hi : i < s.kinds.length
    · rw [getD_set hi]
      by_cases e : j = i
      · subst e; rw [if_pos rfl]; exact h
      · rw [if_neg e]
    · rw [List.set_eq_of_length_le (by omega)]
  exact ⟨rfl, by simp, rfl, fun j hj => (key j).1 hj, fun j hj => (key j).2 hj, fun _ _ => rfl, rfl⟩
theorem Keep.fb {s : PD} {fb : Nat → Sec} : Keep s { s with fb := fb } := ⟨rfl, rfl, rfl, fun _ h => h, fun _ h => h, fun _ _ => rfl, rfl⟩
theorem Keep.tc {s : PD} {tc : Nat} : Keep s { s with tc := tc } := ⟨rfl, rfl, rfl, fun _ h => h, fun _ h => h, fun _ _ => rfl, rfl⟩
theorem Keep.takeR (s : PD) : Keep s s.takeR.1 := by
  unfold PD.takeR
  cases h : place0 0 s.kinds with
  | none => exact Keep.refl s
  | some i =>
    obtain ⟨h1, h2⟩ := place0_some h
    exact Keep.set (by rw [kd_get h1, h2]; decide)
theorem Keep.put (s : PD) (k : Int) (b : Sec) : Keep s (s.put k b).1 := by
  unfold PD.put
  split
  · split
    · exact Keep.fb
    · exact Keep.refl s
  · exact Keep.refl s
theorem Keep.drop (s : PD) (k : Int) : Keep s (s.drop k).1 := by
  unfold PD.drop
  split
  · rename_i h
    obtain ⟨i, h1, rfl, h2, h3⟩ := kind_in h (by omega)
    rw [h3]
    exact Keep.set (by rw [h2]; decide)
  · split
    · rename_i h
      obtain ⟨i, h1, rfl, h2, h3⟩ := kind_in h (by omega)
      rw [h3]
      exact Keep.set (by rw [h2]; decide)
    · exact Keep.refl s
theorem flush_at {s : PD} {i : Nat} (h : s.kd i ≠ 1) : s.flush.syn.getD (s.frm + i) [] = s.syn.getD (s.frm + i) [] := by
  refine synced_at (fun w hw e => ?_)
  obtain ⟨j, h4, h5, rfl⟩ := writes_mem hw
  simp only at e
  rw [show j = i by omega] at h5
  exact h h5
theorem Keep.flush (s : PD) : Keep s s.flush := ⟨rfl, rfl, synced_len _ _, fun _ h => h, fun _ h => h, fun i hi => flush_at (by omega), rfl⟩
theorem Keep.act (s : PD) (a : AD) : Keep s (s.act a) := by
  unfold PD.act
  split
  · split
    · exact (Keep.takeR s).trans (Keep.put _ _ _)
    · exact Keep.takeR s
  · split
    · exact Keep.put _ _ _
    · split
      · exact Keep.drop _ _
      · split
        · exact Keep.flush s
        · exact Keep.refl s
theorem Keep.run (l : List AD) : ∀ s : PD, Keep s (s.run l) := by
  induction l with
  | nil => exact fun s => Keep.refl s
  | cons a l ih => exact fun s => (Keep.act s a).trans (ih (s.act a))
theorem Dv.sec {d : PHeap} {D : DevD} {v : Value} {L : List PHeap} (h : Dv d D v L) {k : Nat} (hk : k < D.syn.length) : (D.syn.getD k []).length = 256 := by
  obtain ⟨b, T, vs, vo, r, hs, ho, -, -, h3, -⟩ := h
  obtain ⟨cs, h1, h2⟩ := h3
  rw [List.getD_eq_getElem?_getD, List.getElem?_eq_getElem hk]
  exact (h2 k hk).2
theorem Pg.dev {d : PHeap} {s : PD} {dv pv : Value} {L : List PHeap} (h : Pg d s dv pv L) : ∃ A LD, L = A ++ LD ∧ Dv d ⟨s.syn, []⟩ dv LD := by
  obtain ⟨b, T, cv, bk, cp, hk, mb, ms, clk, c, LC, LD, bd, h1, h2, h3, h4, h5, h6, h7, h8, h9⟩ := h
  exact ⟨_ :: hk :: mpI mb ms clk :: LC, LD, h3, h7⟩
def PD.bytes (s : PD) (k : Int) : Sec := if s.kind k = 1 then s.fb (k - s.frm).toNat else if s.kind k = 2 then s.syn.getD k.toNat [] else []
def PD.errK (s : PD) (k : Int) : Int := if s.kind k = 1 then 0 else if s.kind k = 2 then 0 else 240
def eb (x : Int) : UInt8 := UInt8.ofNat (x % 256).toNat
def PD.pages (s : PD) (n : Nat) : List UInt8 := (List.range n).flatMap fun (k : Nat) => s.bytes (k : Int) ++ [eb (s.errK (k : Int))]
def PD.look (s : PD) : List UInt8 := s.pages 12 ++ s.olds.map eb ++ [eb s.free]
theorem bytes_old {s : PD} {k : Int} (h : s.kind k = 2) : s.bytes k = s.syn.getD k.toNat [] := by unfold PD.bytes; rw [if_neg (by omega), if_pos h]
theorem PGetOk.at {P : Program} {f : FuncId} (h : PGetOk P f) {d : PHeap} {s : PD} {dv pv : Value} {L : List PHeap} {k : Int} (hp : Pg d s dv pv L) :
    GCall P f [pv, .int .i64 k] d L (Ret fun r d' L' => ∃ a c tc, r = .tuple #[.slice a (s.bytes k).length c, .int .i64 (s.errK k)] ∧ RBytes d' (.slice a (s.bytes k).length c) (s.bytes k) ∧ Pg d' { s with tc := tc } dv pv L') := by
  refine GCall.monoR (h (k := k) hp) (fun r d' L' _ ⟨⟨q, q1, q2⟩, q3⟩ => ⟨d', L', Vs.refl _ _, ?_⟩)
  subst q1
  unfold PD.bytes PD.errK
  unfold PD.get at q2 q3 ⊢
  by_cases h1 : s.kind k = 1
  · simp only [if_pos h1] at q2 q3 ⊢
    obtain ⟨a, c, rfl⟩ := RSl.val q2
    exact ⟨a, c, _, rfl, q2, q3⟩
  · by_cases h2 : s.kind k = 2
    · simp only [if_neg h1, if_pos h2] at q2 q3 ⊢
      obtain ⟨a, c, rfl⟩ := RSl.val q2
      exact ⟨a, c, _, rfl, q2, q3⟩
    · simp only [if_neg h1, if_neg h2] at q2 q3 ⊢
      obtain rfl : q = .slice none 0 0 := q2
      exact ⟨none, 0, s.tc, rfl, RSl.nil, q3⟩
end Go.Gk.Pgr
end

section
namespace Go.Gk.Pgr
open Go Go.Gk Go.Gk.Dev Go.Gk.Cch

abbrev PD.fin (s : PD) : PD := s.flush.done
theorem Pg.full {d : PHeap} {s : PD} {dv pv : Value} {L : List PHeap} (h : Pg d s dv pv L) {k : Int} (hk : s.kind k = 1 ∨ s.kind k = 2) : (s.bytes k).length = 256 := by
  have hG := h.good
  obtain ⟨A, LD, -, hD⟩ := h.dev
  obtain ⟨b, T, cv, bk, cp, hkk, mb, ms, clk, c, LC, LD, bd, h1, h2, h3, h4, h5, -⟩ := h
  have hin := hG.inn
  rcases hk with hk | hk
  · obtain ⟨i, i1, rfl, i2, i3⟩ := kind_in hk (by omega)
    obtain ⟨v, -, -, q⟩ := h5 i i1 i2
    unfold PD.bytes; rw [if_pos hk, i3]; exact q
  · obtain ⟨i, i1, rfl, i2, i3⟩ := kind_in hk (by omega)
    rw [bytes_old hk]
    exact Dv.sec hD (show ((s.frm + i : Nat) : Int).toNat < s.syn.length by omega)
end Go.Gk.Pgr
end

section
namespace Go.Gk
open Go

def KeptA (X : List Nat) (a0 a : Act) : Prop := ∀ t, t ∉ X → a.tmps[t]? = a0.tmps[t]?
theorem KeptA.put {X : List Nat} {a0 a : Act} (h : KeptA X a0 a) {dst : Option Nat} (hd : ∀ t, dst = some t → t ∈ X) (v : Value) : KeptA X a0 (a.put dst v) := by
  intro t ht
  cases dst with
  | none => exact h t ht
  | some d =>
    have hne : d ≠ t := fun e => ht (e ▸ hd d rfl)
    show (a.tmps.setIfInBounds d v)[t]? = _
    rw [Array.getElem?_setIfInBounds, if_neg hne]
    exact h t ht
section
variable {P : Program} {ops : Array Oper} {Q : Exit → Act → World → Prop} {X : List Nat} {a0 : Act}
end
end Go.Gk
end

section
namespace Go.Gk
open Go

section
variable {pr : Bool} {P : Program}
end
end Go.Gk
end

section
namespace Go.Gk
open Go
section
variable {pr : Bool} {P : Program}
end
end Go.Gk
end

section
namespace Go.Gk.Chn
open Go Go.Gk Go.Gk.Dev Go.Gk.Cch Go.Gk.Pgr Go.Gk.Node
attribute [local irreducible] gwp gws
def takeL (s : PD) (l : List Int) : Nat → PD × List Int × Int
  | 0 => (s, l, 0)
  | n + 1 => if s.takeR.2.2 = 0 then takeL s.takeR.1 (l ++ [s.takeR.2.1]) n else (s.takeR.1, l, s.takeR.2.2)
def dropL (s : PD) (l : List Int) : PD := l.foldl (fun s k => (s.drop k).1) s
def takenF (s : PD) (n : Nat) : PD × List Int × Int := if (takeL s [] n).2.2 = 0 then takeL s [] n else (dropL (takeL s [] n).1 (takeL s [] n).2.1, [], (takeL s [] n).2.2)
end Go.Gk.Chn
end

section
namespace Go.Gk.Chn
open Go Go.Gk Go.Gk.Dev Go.Gk.Cch Go.Gk.Pgr Go.Gk.Node
section
variable {P : Program} {pan : List PanicEntry → Post} {Qn : Env → Post} {Ls L : List PHeap} {ρ : Env} {d : PHeap} {s : GS} {t : Nat} {tk : Bool}
end
attribute [local irreducible] gwp gws
end Go.Gk.Chn
end

section
namespace Go.Gk.Chn
open Go Go.Gk Go.Gk.Dev Go.Gk.Cch Go.Gk.Pgr Go.Gk.Node

section
variable {P : Program} {pan : List PanicEntry → Post} {Qn : Env → Post} {Ls L : List PHeap} {ρ : Env} {d : PHeap} {s : GS} {t : Nat} {tk : Bool}
end
attribute [local irreducible] gwp gws
def liveK (s : PD) (k : Int) : Prop := s.kind k = 1 ∨ s.kind k = 2
instance (s : PD) (k : Int) : Decidable (liveK s k) := inferInstanceAs (Decidable (_ ∨ _))
end Go.Gk.Chn
end

section
namespace Go.Gk.Chn
open Go Go.Gk Go.Gk.Dev Go.Gk.Cch Go.Gk.Pgr Go.Gk.Node
attribute [local irreducible] gwp gws
end Go.Gk.Chn
end

section
namespace Go.Gk.Chn
open Go Go.Gk Go.Gk.Dev Go.Gk.Cch Go.Gk.Pgr Go.Gk.Node
attribute [local irreducible] gwp gws
end Go.Gk.Chn
end

section
namespace Go.Gk.Chn
open Go Go.Gk Go.Gk.Dev Go.Gk.Cch Go.Gk.Pgr Go.Gk.Node
attribute [local irreducible] gwp gws
def Nob (d : PHeap) (v : Value) : Prop := v = .pointer none ∨ ∃ b, v = .pointer (some ⟨b, 0, none⟩) ∧ DC d b 0 (.pointer none)
def NNoneOk (P : Program) (f : FuncId) : Prop := ∀ {d : PHeap} {v : Value}, Nob d v → GPure P f [v] d (.bool true)
theorem nnone_ok {P : Program} {f : FuncId} (hd : dec P f = some g_pager_Pager_none) : NNoneOk P f := by
  intro d v h
  refine GCall_of hd (Nat.le_of_ble_eq_true rfl) ?_
  rcases h with rfl | ⟨b, rfl, hb⟩
  · show gwp P _ _ _ _ _
    (apply w_sq; apply w_reg; apply w_mvb; rfl; apply w_done0; apply w_sq; apply w_reg; apply w_mvp; rfl; apply w_eqpN; rfl; rfl; apply w_mvb; rfl; apply w_gF; rfl; apply w_gF; rfl; apply w_gF; rfl; apply w_gF; rfl; apply w_gF; rfl; apply w_pickTb; rfl; rfl; apply w_mvb; rfl; apply w_done0; apply w_ret)
    (apply finPb; rfl)
    rfl
  · show gwp P _ _ _ _ _
    (apply w_sq; apply w_reg; apply w_mvb; rfl; apply w_done0; apply w_sq; apply w_reg; apply w_mvp; rfl; apply w_eqpS; rfl; rfl; apply w_mvb; rfl; apply w_gT; rfl; apply w_mvp; rfl; apply w_gT; rfl; apply w_nilc; rfl; apply w_gT; rfl; apply w_fld; rfl; apply w_gT; rfl; apply w_ld; rfl; exact hc_d (by assumption); apply w_gT; rfl; apply w_eqpN; rfl; rfl; apply w_pickFb; rfl; rfl; apply w_mvb; rfl; apply w_done0; apply w_ret)
    (apply finPb; rfl)
    rfl
theorem Nob.mono {d d' : PHeap} {v : Value} (h : Nob d v) (hl : Le d d') : Nob d' v := h.imp id fun ⟨b, e, hb⟩ => ⟨b, e, hb.mono hl⟩
end Go.Gk.Chn
end

section
namespace Go.Gk.Tre
open Go Go.Gk Go.Gk.Dev Go.Gk.Cch Go.Gk.Pgr Go.Gk.Chn Go.Gk.Node
attribute [local irreducible] gwp gws
def TNoneNOk (P : Program) (f : FuncId) : Prop := ∀ {d : PHeap} {v : Value}, Nob d v → GPure P f [v] d (.bool true)
def g_tree_Tree_none : GFun :=
 ⟨12, [(.tmp 2)],
 (.seq
 (.reg false (.op false ⟨(some 2), none, (.mv (.const (.bool false)))⟩ .done))
 (.seq
 (.reg false (.op false ⟨(some 3), none, (.mv (.tmp 0))⟩
  (.op false ⟨(some 4), none, (.eqp false (.tmp 3) (.const (.pointer none)))⟩
  (.op false ⟨(some 5), none, (.mv (.tmp 4))⟩
  (.op false ⟨(some 6), (some (5, false)), (.mv (.tmp 0))⟩
  (.op false ⟨(some 7), (some (5, false)), (.nilc (.tmp 6))⟩
  (.op false ⟨(some 8), (some (5, false)), (.fld 0 (.tmp 7))⟩
  (.op false ⟨(some 9), (some (5, false)), (.ld none (.tmp 8))⟩
  (.op false ⟨(some 10), (some (5, false)), (.eqp false (.tmp 9) (.const (.pointer none)))⟩
  (.op false ⟨(some 11), none, (.pick (.tmp 5) (.const (.bool true)) (.tmp 10))⟩
  (.op false ⟨(some 2), none, (.mv (.tmp 11))⟩ .done))))))))))) .ret))⟩

theorem tnone_nob {P : Program} {f : FuncId} (hd : dec P f = some g_tree_Tree_none) : TNoneNOk P f := by
  intro d v h
  refine GCall_of hd (Nat.le_of_ble_eq_true rfl) ?_
  rcases h with rfl | ⟨b, rfl, hb⟩
  · show gwp P _ _ _ _ _
    (apply w_sq; apply w_reg; apply w_mvb; rfl; apply w_done0; apply w_sq; apply w_reg; apply w_mvp; rfl; apply w_eqpN; rfl; rfl; apply w_mvb; rfl; apply w_gF; rfl; apply w_gF; rfl; apply w_gF; rfl; apply w_gF; rfl; apply w_gF; rfl; apply w_pickTb; rfl; rfl; apply w_mvb; rfl; apply w_done0; apply w_ret)
    (apply finPb; rfl)
    rfl
  · show gwp P _ _ _ _ _
    (apply w_sq; apply w_reg; apply w_mvb; rfl; apply w_done0; apply w_sq; apply w_reg; apply w_mvp; rfl; apply w_eqpS; rfl; rfl; apply w_mvb; rfl; apply w_gT; rfl; apply w_mvp; rfl; apply w_gT; rfl; apply w_nilc; rfl; apply w_gT; rfl; apply w_fld; rfl; apply w_gT; rfl; apply w_ld; rfl; exact hc_d (by assumption); apply w_gT; rfl; apply w_eqpN; rfl; rfl; apply w_pickFb; rfl; rfl; apply w_mvb; rfl; apply w_done0; apply w_ret)
    (apply finPb; rfl)
    rfl
def FitsNOk (P : Program) (f : FuncId) : Prop := ∀ {d : PHeap} {v w : Value}, Nob d v → GPure P f [v, w] d (.int .i64 1)
def g_tree_Tree_fits (f_tree_Tree_none : Nat) : GFun :=
 ⟨17, [(.tmp 4)],
 (.seq
 (.reg false (.op false ⟨(some 4), none, (.mv (.const (.int .i64 0)))⟩ .done))
 (.seq (.block 0
 (.seq
 (.reg false (.op false ⟨(some 6), none, (.mv (.tmp 0))⟩
  (.op false ⟨(some 7), none, (.call f_tree_Tree_none [(.tmp 6)])⟩
  (.op false ⟨(some 5), none, (.mv (.tmp 7))⟩ .done)))) (.cond (.tmp 5)
 (.seq
 (.reg false (.op false ⟨(some 4), none, (.mv (.const (.int .i64 1)))⟩ .done)) .ret)
 (.seq
 (.reg false (.op false ⟨(some 9), none, (.mv (.tmp 1))⟩
  (.op false ⟨(some 10), none, (.len (.tmp 9))⟩
  (.op false ⟨(some 11), none, (.bin .lss (.tmp 10) (.const (.int .i64 1)))⟩
  (.op false ⟨(some 12), none, (.mv (.tmp 11))⟩
  (.op false ⟨(some 13), (some (12, false)), (.mv (.tmp 1))⟩
  (.op false ⟨(some 14), (some (12, false)), (.len (.tmp 13))⟩
  (.op false ⟨(some 15), (some (12, false)), (.bin .gtr (.tmp 14) (.const (.int .i64 64)))⟩
  (.op false ⟨(some 16), none, (.pick (.tmp 12) (.const (.bool true)) (.tmp 15))⟩
  (.op false ⟨(some 8), none, (.mv (.tmp 16))⟩ .done)))))))))) (.cond (.tmp 8)
 (.seq
 (.reg false (.op false ⟨(some 4), none, (.mv (.const (.int .i64 2)))⟩ .done)) .ret) .skip)))))
 (.seq
 (.reg false (.op false ⟨(some 4), none, (.mv (.const (.int .i64 0)))⟩ .done)) .ret)))⟩

theorem fits_nob {P : Program} {f f1 : FuncId} (hd : dec P f = some (g_tree_Tree_fits f1)) (h1 : TNoneNOk P f1) : FitsNOk P f := by
  intro d v w h
  refine GCall_of hd (Nat.le_of_ble_eq_true rfl) ?_
  show gwp P _ _ _ _ _
  (apply w_sq; apply w_reg; apply w_mvi; rfl; apply w_done0; apply w_sq; apply w_block; apply w_sq; apply w_reg; apply w_mv)
  refine w_pure rfl (h1 h) ?_
  (apply w_mvb; rfl; apply w_done0; apply w_ifT; rfl; apply w_sq; apply w_reg; apply w_mvi; rfl; apply w_done0; apply w_ret)
  apply finPv; rfl
def TGetNOk (P : Program) (f : FuncId) : Prop := ∀ {d : PHeap} {v w : Value}, Nob d v → GPure P f [v, w] d (.tuple #[.slice none 0 0, .bool false, .int .i64 1])
def TDelNOk (P : Program) (f : FuncId) : Prop := ∀ {d : PHeap} {v : Value} {a : Option Addr} {n c : Nat}, Nob d v → GPure P f [v, .slice a n c] d (.tuple #[.bool false, .int .i64 1])
def TPutNOk (P : Program) (f : FuncId) : Prop := ∀ {d : PHeap} {v : Value} {a a' : Option Addr} {n c n' c' : Nat}, Nob d v → GPure P f [v, .slice a n c, .slice a' n' c'] d (.int .i64 1)
def TPagesNOk (P : Program) (f : FuncId) : Prop := ∀ {d : PHeap} {v : Value}, Nob d v → GPure P f [v] d (.tuple #[.slice none 0 0, .int .i64 1])
def TRootNOk (P : Program) (f : FuncId) : Prop := ∀ {d : PHeap} {v : Value}, Nob d v → GPure P f [v] d (.int .i64 (-1))
def TZeroNOk (P : Program) (f : FuncId) : Prop := ∀ {d : PHeap} {v : Value}, Nob d v → GPure P f [v] d (.int .i64 0)
def g_tree_Tree_Get (f_tree_Tree_fits f_tree_Tree_level f_node_Find f_tree_Tree_value : Nat) : GFun :=
 ⟨71, [(.tmp 4), (.tmp 5), (.tmp 6)],
 (.seq
 (.reg false (.op false ⟨(some 4), none, (.mv (.const (.slice none 0 0)))⟩
  (.op false ⟨(some 5), none, (.mv (.const (.bool false)))⟩
  (.op false ⟨(some 6), none, (.mv (.const (.int .i64 0)))⟩ .done))))
 (.seq (.seq
 (.reg false (.op false ⟨(some 14), none, (.mv (.tmp 0))⟩
  (.op false ⟨(some 15), none, (.mv (.tmp 1))⟩
  (.op false ⟨(some 16), none, (.call f_tree_Tree_fits [(.tmp 14), (.tmp 15)])⟩
  (.op false ⟨(some 7), none, (.mv (.tmp 16))⟩ .done)))))
 (.seq
 (.reg false (.op false ⟨(some 17), none, (.mv (.tmp 7))⟩
  (.op false ⟨(some 18), none, (.bin .neq (.tmp 17) (.const (.int .i64 0)))⟩ .done))) (.cond (.tmp 18)
 (.seq
 (.reg false (.op false ⟨(some 19), none, (.mv (.tmp 7))⟩
  (.op false ⟨(some 4), none, (.mv (.const (.slice none 0 0)))⟩
  (.op false ⟨(some 5), none, (.mv (.const (.bool false)))⟩
  (.op false ⟨(some 6), none, (.mv (.tmp 19))⟩ .done))))) .ret) .skip)))
 (.seq
 (.reg false (.op false ⟨(some 20), none, (.mv (.tmp 0))⟩
  (.op false ⟨(some 21), none, (.nilc (.tmp 20))⟩
  (.op false ⟨(some 22), none, (.fld 1 (.tmp 21))⟩
  (.op false ⟨(some 23), none, (.ld none (.tmp 22))⟩
  (.op false ⟨(some 8), none, (.mv (.tmp 23))⟩ .done))))))
 (.seq (.seq
 (.reg false (.op false ⟨(some 24), none, (.mv (.tmp 0))⟩
  (.op false ⟨(some 25), none, (.nilc (.tmp 24))⟩
  (.op false ⟨(some 26), none, (.fld 2 (.tmp 25))⟩
  (.op false ⟨(some 27), none, (.ld none (.tmp 26))⟩
  (.op false ⟨(some 9), none, (.mv (.tmp 27))⟩ .done)))))) (.block 0 (.loop
 (.seq (.seq
 (.reg false (.op false ⟨(some 28), none, (.mv (.tmp 9))⟩
  (.op false ⟨(some 29), none, (.bin .gtr (.tmp 28) (.const (.int .i64 0)))⟩ .done))) (.cond (.tmp 29) .skip (.exit 0)))
 (.seq (.block 1
 (.seq
 (.reg false (.op false ⟨(some 33), none, (.mv (.tmp 0))⟩
  (.op false ⟨(some 34), none, (.mv (.tmp 8))⟩
  (.op false ⟨(some 35), none, (.mv (.tmp 9))⟩
  (.op false ⟨(some 36), none, (.call f_tree_Tree_level [(.tmp 33), (.tmp 34), (.tmp 35)])⟩
  (.op false ⟨(some 32), none, (.mv (.tmp 36))⟩
  (.op false ⟨(some 37), none, (.ext (.tmp 32) 0)⟩
  (.op false ⟨(some 38), none, (.ext (.tmp 32) 1)⟩
  (.op false ⟨(some 10), none, (.alo (.agg #[(.bool false), (.slice none 0 0), (.slice none 0 0), (.slice none 0 0)]))⟩
  (.op false ⟨none, none, (.st 4 (.tmp 10) (.tmp 37))⟩
  (.op false ⟨(some 11), none, (.mv (.tmp 38))⟩ .done)))))))))))
 (.seq (.seq
 (.reg false (.op false ⟨(some 39), none, (.mv (.tmp 11))⟩
  (.op false ⟨(some 40), none, (.bin .neq (.tmp 39) (.const (.int .i64 0)))⟩ .done))) (.cond (.tmp 40)
 (.seq
 (.reg false (.op false ⟨(some 41), none, (.mv (.tmp 11))⟩
  (.op false ⟨(some 4), none, (.mv (.const (.slice none 0 0)))⟩
  (.op false ⟨(some 5), none, (.mv (.const (.bool false)))⟩
  (.op false ⟨(some 6), none, (.mv (.tmp 41))⟩ .done))))) .ret) .skip))
 (.seq
 (.reg false (.op false ⟨(some 43), none, (.ld (some 4) (.tmp 10))⟩
  (.op false ⟨(some 44), none, (.mv (.tmp 1))⟩
  (.op false ⟨(some 45), none, (.call f_node_Find [(.tmp 43), (.tmp 44)])⟩
  (.op false ⟨(some 42), none, (.mv (.tmp 45))⟩
  (.op false ⟨(some 46), none, (.ext (.tmp 42) 0)⟩
  (.op false ⟨(some 47), none, (.ext (.tmp 42) 1)⟩
  (.op false ⟨(some 12), none, (.mv (.tmp 46))⟩
  (.op false ⟨(some 13), none, (.mv (.tmp 47))⟩ .done)))))))))
 (.seq (.seq
 (.reg false (.op false ⟨(some 48), none, (.mv (.tmp 9))⟩
  (.op false ⟨(some 49), none, (.bin .gtr (.tmp 48) (.const (.int .i64 1)))⟩ .done))) (.cond (.tmp 49)
 (.seq
 (.reg false (.op false ⟨(some 50), none, (.fld 3 (.tmp 10))⟩
  (.op false ⟨(some 51), none, (.ld none (.tmp 50))⟩
  (.op false ⟨(some 52), none, (.mv (.tmp 12))⟩
  (.op false ⟨(some 53), none, (.idx 1 (.tmp 51) (.tmp 52))⟩
  (.op false ⟨(some 54), none, (.ld none (.tmp 53))⟩
  (.op false ⟨(some 8), none, (.mv (.tmp 54))⟩ .done))))))) (.exit 1)) .skip))
 (.seq (.seq
 (.reg false (.op false ⟨(some 55), none, (.mv (.tmp 13))⟩
  (.op false ⟨(some 56), none, (.un .not (.tmp 55))⟩ .done))) (.cond (.tmp 56)
 (.seq
 (.reg false (.op false ⟨(some 4), none, (.mv (.const (.slice none 0 0)))⟩
  (.op false ⟨(some 5), none, (.mv (.const (.bool false)))⟩
  (.op false ⟨(some 6), none, (.mv (.const (.int .i64 0)))⟩ .done)))) .ret) .skip))
 (.seq
 (.reg false (.op false ⟨(some 58), none, (.mv (.tmp 0))⟩
  (.op false ⟨(some 59), none, (.fld 2 (.tmp 10))⟩
  (.op false ⟨(some 60), none, (.ld none (.tmp 59))⟩
  (.op false ⟨(some 61), none, (.mv (.tmp 12))⟩
  (.op false ⟨(some 62), none, (.idx 1 (.tmp 60) (.tmp 61))⟩
  (.op false ⟨(some 63), none, (.ld none (.tmp 62))⟩
  (.op false ⟨(some 64), none, (.call f_tree_Tree_value [(.tmp 58), (.tmp 63)])⟩
  (.op false ⟨(some 57), none, (.mv (.tmp 64))⟩
  (.op false ⟨(some 65), none, (.ext (.tmp 57) 0)⟩
  (.op false ⟨(some 66), none, (.ext (.tmp 57) 1)⟩
  (.op false ⟨(some 4), none, (.mv (.tmp 65))⟩
  (.op false ⟨(some 11), none, (.mv (.tmp 66))⟩ .done)))))))))))))
 (.seq
 (.reg false (.op false ⟨(some 67), none, (.mv (.tmp 4))⟩
  (.op false ⟨(some 68), none, (.mv (.tmp 11))⟩
  (.op false ⟨(some 69), none, (.bin .eql (.tmp 68) (.const (.int .i64 0)))⟩
  (.op false ⟨(some 70), none, (.mv (.tmp 11))⟩
  (.op false ⟨(some 4), none, (.mv (.tmp 67))⟩
  (.op false ⟨(some 5), none, (.mv (.tmp 69))⟩
  (.op false ⟨(some 6), none, (.mv (.tmp 70))⟩ .done)))))))) .ret))))))))
 (.reg false (.op false ⟨(some 30), none, (.mv (.tmp 9))⟩
  (.op false ⟨(some 31), none, (.bin .sub (.tmp 30) (.const (.int .i64 1)))⟩
  (.op false ⟨(some 9), none, (.mv (.tmp 31))⟩ .done)))))))))
 (.seq
 (.reg false (.op false ⟨(some 4), none, (.mv (.const (.slice none 0 0)))⟩
  (.op false ⟨(some 5), none, (.mv (.const (.bool false)))⟩
  (.op false ⟨(some 6), none, (.mv (.const (.int .i64 0)))⟩ .done)))) .ret)))))⟩

theorem tget_nob {P : Program} {f f1 f2 f3 f4 : FuncId} (hd : dec P f = some (g_tree_Tree_Get f1 f2 f3 f4)) (h1 : FitsNOk P f1) : TGetNOk P f := by
  intro d v w h
  refine GCall_of hd (Nat.le_of_ble_eq_true rfl) ?_
  show gwp P _ _ _ _ _
  (apply w_sq; apply w_reg; apply w_mvs; rfl; apply w_mvb; rfl; apply w_mvi; rfl; apply w_done0; apply w_sq; apply w_sq; apply w_reg; apply w_mv; apply w_mv)
  refine w_pure rfl (h1 (w := w) h) ?_
  (apply w_mvi; rfl; apply w_done0; apply w_sq; apply w_reg; apply w_mvi; rfl; apply w_neq; rfl; rfl; apply w_done0; refine w_ifdT rfl (by omega) ?_; apply w_sq; apply w_reg; apply w_mvi; rfl; apply w_mvs; rfl; apply w_mvb; rfl; apply w_mvi; rfl; apply w_done0; apply w_ret)
  exact finS [.slice none 0 0, .bool false, .int .i64 1] ⟨rfl, rfl, rfl, trivial⟩ (List.nil_sublist _) ⟨rfl, rfl, rfl⟩
def g_tree_Tree_Del (f_tree_Tree_fits f_tree_Tree_Del_1 f_tree_Tree_change : Nat) : GFun :=
 ⟨24, [(.tmp 4), (.tmp 5)],
 (.seq
 (.reg false (.op false ⟨(some 2), none, (.box (.tmp 0))⟩
  (.op false ⟨(some 3), none, (.box (.tmp 1))⟩
  (.op false ⟨(some 4), none, (.mv (.const (.bool false)))⟩
  (.op false ⟨(some 5), none, (.mv (.const (.int .i64 0)))⟩ .done)))))
 (.seq (.seq
 (.reg false (.op false ⟨(some 9), none, (.ld none (.tmp 2))⟩
  (.op false ⟨(some 10), none, (.ld none (.tmp 3))⟩
  (.op false ⟨(some 11), none, (.call f_tree_Tree_fits [(.tmp 9), (.tmp 10)])⟩
  (.op false ⟨(some 6), none, (.mv (.tmp 11))⟩ .done)))))
 (.seq
 (.reg false (.op false ⟨(some 12), none, (.mv (.tmp 6))⟩
  (.op false ⟨(some 13), none, (.bin .neq (.tmp 12) (.const (.int .i64 0)))⟩ .done))) (.cond (.tmp 13)
 (.seq
 (.reg false (.op false ⟨(some 14), none, (.mv (.tmp 6))⟩
  (.op false ⟨(some 4), none, (.mv (.const (.bool false)))⟩
  (.op false ⟨(some 5), none, (.mv (.tmp 14))⟩ .done)))) .ret) .skip)))
 (.seq
 (.reg false (.op false ⟨(some 7), none, (.alo (.bool false))⟩
  (.op false ⟨none, none, (.st 1 (.tmp 7) (.const (.bool false)))⟩ .done)))
 (.seq
 (.reg false (.op false ⟨(some 15), none, (.ld none (.tmp 2))⟩
  (.op false ⟨(some 16), none, (.mkf (.func f_tree_Tree_Del_1) [] [(.tmp 2), (.tmp 3), (.tmp 7)])⟩
  (.op false ⟨(some 17), none, (.call f_tree_Tree_change [(.tmp 15), (.tmp 16)])⟩
  (.op false ⟨(some 8), none, (.mv (.tmp 17))⟩ .done)))))
 (.seq
 (.reg false (.op false ⟨(some 18), none, (.ld none (.tmp 7))⟩
  (.op false ⟨(some 19), none, (.mv (.tmp 18))⟩
  (.op false ⟨(some 20), (some (19, true)), (.mv (.tmp 8))⟩
  (.op false ⟨(some 21), (some (19, true)), (.bin .eql (.tmp 20) (.const (.int .i64 0)))⟩
  (.op false ⟨(some 22), none, (.pick (.tmp 19) (.tmp 21) (.const (.bool false)))⟩
  (.op false ⟨(some 23), none, (.mv (.tmp 8))⟩
  (.op false ⟨(some 4), none, (.mv (.tmp 22))⟩
  (.op false ⟨(some 5), none, (.mv (.tmp 23))⟩ .done))))))))) .ret)))))⟩

theorem tdel_nob {P : Program} {f f1 f2 f3 : FuncId} (hd : dec P f = some (g_tree_Tree_Del f1 f2 f3)) (h1 : FitsNOk P f1) : TDelNOk P f := by
  intro d v a n c h
  obtain ⟨pp, rfl⟩ : ∃ pp, v = .pointer pp := by rcases h with rfl | ⟨b, rfl, -⟩ <;> exact ⟨_, rfl⟩
  refine GCall_of hd (Nat.le_of_ble_eq_true rfl) ?_
  show gwp P _ _ _ _ _
  (apply w_sq; apply w_reg)
  refine w_box rfl (fun b2 T2 => ?_)
  skip
  refine w_box rfl (fun b3 T3 => ?_)
  (apply w_mvb; rfl; apply w_mvi; rfl; apply w_done0; apply w_sq; apply w_sq; apply w_reg; apply w_ld; rfl; exact hc_i 1 rfl rfl; apply w_ld; rfl; exact hc_i 0 rfl rfl)
  refine w_pure rfl (h1 (w := .slice a n c) h) ?_
  (apply w_mvi; rfl; apply w_done0; apply w_sq; apply w_reg; apply w_mvi; rfl; apply w_neq; rfl; rfl; apply w_done0; refine w_ifdT rfl (by omega) ?_; apply w_sq; apply w_reg; apply w_mvi; rfl; apply w_mvb; rfl; apply w_mvi; rfl; apply w_done0; apply w_ret)
  exact finS [.bool false, .int .i64 1] ⟨rfl, rfl, trivial⟩ (List.nil_sublist _) ⟨rfl, rfl, rfl⟩
def g_tree_Tree_Put (f_tree_Tree_fits f_tree_Tree_Put_1 f_tree_Tree_change : Nat) : GFun :=
 ⟨20, [(.tmp 6)],
 (.seq
 (.reg false (.op false ⟨(some 3), none, (.box (.tmp 0))⟩
  (.op false ⟨(some 4), none, (.box (.tmp 1))⟩
  (.op false ⟨(some 5), none, (.box (.tmp 2))⟩
  (.op false ⟨(some 6), none, (.mv (.const (.int .i64 0)))⟩ .done)))))
 (.seq (.seq
 (.reg false (.op false ⟨(some 8), none, (.ld none (.tmp 3))⟩
  (.op false ⟨(some 9), none, (.ld none (.tmp 4))⟩
  (.op false ⟨(some 10), none, (.call f_tree_Tree_fits [(.tmp 8), (.tmp 9)])⟩
  (.op false ⟨(some 7), none, (.mv (.tmp 10))⟩ .done)))))
 (.seq
 (.reg false (.op false ⟨(some 11), none, (.mv (.tmp 7))⟩
  (.op false ⟨(some 12), none, (.bin .neq (.tmp 11) (.const (.int .i64 0)))⟩ .done))) (.cond (.tmp 12)
 (.seq
 (.reg false (.op false ⟨(some 13), none, (.mv (.tmp 7))⟩
  (.op false ⟨(some 6), none, (.mv (.tmp 13))⟩ .done))) .ret) .skip)))
 (.seq (.seq
 (.reg false (.op false ⟨(some 14), none, (.ld none (.tmp 5))⟩
  (.op false ⟨(some 15), none, (.len (.tmp 14))⟩
  (.op false ⟨(some 16), none, (.bin .gtr (.tmp 15) (.const (.int .i64 16384)))⟩ .done)))) (.cond (.tmp 16)
 (.seq
 (.reg false (.op false ⟨(some 6), none, (.mv (.const (.int .i64 3)))⟩ .done)) .ret) .skip))
 (.seq
 (.reg false (.op false ⟨(some 17), none, (.ld none (.tmp 3))⟩
  (.op false ⟨(some 18), none, (.mkf (.func f_tree_Tree_Put_1) [] [(.tmp 3), (.tmp 5), (.tmp 4)])⟩
  (.op false ⟨(some 19), none, (.call f_tree_Tree_change [(.tmp 17), (.tmp 18)])⟩
  (.op false ⟨(some 6), none, (.mv (.tmp 19))⟩ .done))))) .ret))))⟩

theorem tput_nob {P : Program} {f f1 f2 f3 : FuncId} (hd : dec P f = some (g_tree_Tree_Put f1 f2 f3)) (h1 : FitsNOk P f1) : TPutNOk P f := by
  intro d v a a' n c n' c' h
  obtain ⟨pp, rfl⟩ : ∃ pp, v = .pointer pp := by rcases h with rfl | ⟨b, rfl, -⟩ <;> exact ⟨_, rfl⟩
  refine GCall_of hd (Nat.le_of_ble_eq_true rfl) ?_
  show gwp P _ _ _ _ _
  (apply w_sq; apply w_reg)
  refine w_box rfl (fun b2 T2 => ?_)
  refine w_box rfl (fun b3 T3 => ?_)
  refine w_box rfl (fun b4 T4 => ?_)
  (apply w_mvi; rfl; apply w_done0; apply w_sq; apply w_sq; apply w_reg; apply w_ld; rfl; exact hc_i 2 rfl rfl; apply w_ld; rfl; exact hc_i 1 rfl rfl)
  refine w_pure rfl (h1 (w := .slice a n c) h) ?_
  (apply w_mvi; rfl; apply w_done0; apply w_sq; apply w_reg; apply w_mvi; rfl; apply w_neq; rfl; rfl; apply w_done0; refine w_ifdT rfl (by omega) ?_; apply w_sq; apply w_reg; apply w_mvi; rfl; apply w_mvi; rfl; apply w_done0; apply w_ret)
  exact finS [.int .i64 1] ⟨rfl, trivial⟩ (List.nil_sublist _) ⟨rfl, rfl, rfl⟩
def g_tree_Tree_Pages (f_tree_Tree_none f_tree_Tree_pages f_slices_Sort_int_int : Nat) : GFun :=
 ⟨32, [(.tmp 2), (.tmp 3)],
 (.seq
 (.reg false (.op false ⟨(some 2), none, (.mv (.const (.slice none 0 0)))⟩
  (.op false ⟨(some 3), none, (.mv (.const (.int .i64 0)))⟩ .done)))
 (.seq (.block 0
 (.seq
 (.reg false (.op false ⟨(some 7), none, (.mv (.tmp 0))⟩
  (.op false ⟨(some 8), none, (.call f_tree_Tree_none [(.tmp 7)])⟩
  (.op false ⟨(some 6), none, (.mv (.tmp 8))⟩ .done)))) (.cond (.tmp 6)
 (.seq
 (.reg false (.op false ⟨(some 2), none, (.mv (.const (.slice none 0 0)))⟩
  (.op false ⟨(some 3), none, (.mv (.const (.int .i64 1)))⟩ .done))) .ret)
 (.seq
 (.reg false (.op false ⟨(some 10), none, (.mv (.tmp 0))⟩
  (.op false ⟨(some 11), none, (.nilc (.tmp 10))⟩
  (.op false ⟨(some 12), none, (.fld 2 (.tmp 11))⟩
  (.op false ⟨(some 13), none, (.ld none (.tmp 12))⟩
  (.op false ⟨(some 14), none, (.bin .eql (.tmp 13) (.const (.int .i64 0)))⟩
  (.op false ⟨(some 9), none, (.mv (.tmp 14))⟩ .done))))))) (.cond (.tmp 9)
 (.seq
 (.reg false (.op false ⟨(some 2), none, (.mv (.const (.slice none 0 0)))⟩
  (.op false ⟨(some 3), none, (.mv (.const (.int .i64 0)))⟩ .done))) .ret) .skip)))))
 (.seq
 (.reg true (.op true ⟨(some 16), none, (.mv (.tmp 0))⟩
  (.op true ⟨(some 17), none, (.mv (.tmp 0))⟩
  (.op true ⟨(some 18), none, (.nilc (.tmp 17))⟩
  (.op true ⟨(some 19), none, (.fld 1 (.tmp 18))⟩
  (.op true ⟨(some 20), none, (.ld none (.tmp 19))⟩
  (.op true ⟨(some 21), none, (.mv (.tmp 0))⟩
  (.op true ⟨(some 22), none, (.nilc (.tmp 21))⟩
  (.op true ⟨(some 23), none, (.fld 2 (.tmp 22))⟩
  (.op true ⟨(some 24), none, (.ld none (.tmp 23))⟩
  (.op false ⟨(some 25), none, (.call f_tree_Tree_pages [(.tmp 16), (.tmp 20), (.tmp 24)])⟩
  (.op true ⟨(some 15), none, (.mv (.tmp 25))⟩
  (.op true ⟨(some 26), none, (.ext (.tmp 15) 0)⟩
  (.op true ⟨(some 27), none, (.ext (.tmp 15) 1)⟩
  (.op true ⟨(some 4), none, (.mv (.tmp 26))⟩
  (.op true ⟨(some 5), none, (.mv (.tmp 27))⟩ .done))))))))))))))))
 (.seq
 (.reg false (.op false ⟨(some 28), none, (.mv (.tmp 4))⟩
  (.op false ⟨(some 29), none, (.call f_slices_Sort_int_int [(.tmp 28)])⟩ .done)))
 (.seq
 (.reg false (.op false ⟨(some 30), none, (.mv (.tmp 4))⟩
  (.op false ⟨(some 31), none, (.mv (.tmp 5))⟩
  (.op false ⟨(some 2), none, (.mv (.tmp 30))⟩
  (.op false ⟨(some 3), none, (.mv (.tmp 31))⟩ .done))))) .ret)))))⟩

theorem tpages_nob {P : Program} {f f1 f2 f3 : FuncId} (hd : dec P f = some (g_tree_Tree_Pages f1 f2 f3)) (h1 : TNoneNOk P f1) : TPagesNOk P f := by
  intro d v h
  refine GCall_of hd (Nat.le_of_ble_eq_true rfl) ?_
  show gwp P _ _ _ _ _
  (apply w_sq; apply w_reg; apply w_mvs; rfl; apply w_mvi; rfl; apply w_done0; apply w_sq; apply w_block; apply w_sq; apply w_reg; apply w_mv)
  refine w_pure rfl (h1 h) ?_
  (apply w_mvb; rfl; apply w_done0; apply w_ifT; rfl; apply w_sq; apply w_reg; apply w_mvs; rfl; apply w_mvi; rfl; apply w_done0; apply w_ret)
  apply finPv2 <;> rfl
def g_tree_Tree_Root (f_tree_Tree_none : Nat) : GFun :=
 ⟨9, [(.tmp 2)],
 (.seq
 (.reg false (.op false ⟨(some 2), none, (.mv (.const (.int .i64 0)))⟩ .done))
 (.seq (.seq
 (.reg false (.op false ⟨(some 3), none, (.mv (.tmp 0))⟩
  (.op false ⟨(some 4), none, (.call f_tree_Tree_none [(.tmp 3)])⟩ .done))) (.cond (.tmp 4)
 (.seq
 (.reg false (.op false ⟨(some 2), none, (.mv (.const (.int .i64 (-1))))⟩ .done)) .ret) .skip))
 (.seq
 (.reg false (.op false ⟨(some 5), none, (.mv (.tmp 0))⟩
  (.op false ⟨(some 6), none, (.nilc (.tmp 5))⟩
  (.op false ⟨(some 7), none, (.fld 1 (.tmp 6))⟩
  (.op false ⟨(some 8), none, (.ld none (.tmp 7))⟩
  (.op false ⟨(some 2), none, (.mv (.tmp 8))⟩ .done)))))) .ret)))⟩

theorem troot_nob {P : Program} {f f1 : FuncId} (hd : dec P f = some (g_tree_Tree_Root f1)) (h1 : TNoneNOk P f1) : TRootNOk P f := by
  intro d v h
  refine GCall_of hd (Nat.le_of_ble_eq_true rfl) ?_
  show gwp P _ _ _ _ _
  (apply w_sq; apply w_reg; apply w_mvi; rfl; apply w_done0; apply w_sq; apply w_sq; apply w_reg; apply w_mv)
  refine w_pure rfl (h1 h) ?_
  (apply w_done0; apply w_ifT; rfl; apply w_sq; apply w_reg; apply w_mvi; rfl; apply w_done0; apply w_ret)
  apply finPv; rfl
def g_tree_Tree_Height (f_tree_Tree_none : Nat) : GFun :=
 ⟨9, [(.tmp 2)],
 (.seq
 (.reg false (.op false ⟨(some 2), none, (.mv (.const (.int .i64 0)))⟩ .done))
 (.seq (.seq
 (.reg false (.op false ⟨(some 3), none, (.mv (.tmp 0))⟩
  (.op false ⟨(some 4), none, (.call f_tree_Tree_none [(.tmp 3)])⟩ .done))) (.cond (.tmp 4)
 (.seq
 (.reg false (.op false ⟨(some 2), none, (.mv (.const (.int .i64 0)))⟩ .done)) .ret) .skip))
 (.seq
 (.reg false (.op false ⟨(some 5), none, (.mv (.tmp 0))⟩
  (.op false ⟨(some 6), none, (.nilc (.tmp 5))⟩
  (.op false ⟨(some 7), none, (.fld 2 (.tmp 6))⟩
  (.op false ⟨(some 8), none, (.ld none (.tmp 7))⟩
  (.op false ⟨(some 2), none, (.mv (.tmp 8))⟩ .done)))))) .ret)))⟩

theorem theight_nob {P : Program} {f f1 : FuncId} (hd : dec P f = some (g_tree_Tree_Height f1)) (h1 : TNoneNOk P f1) : TZeroNOk P f := by
  intro d v h
  refine GCall_of hd (Nat.le_of_ble_eq_true rfl) ?_
  show gwp P _ _ _ _ _
  (apply w_sq; apply w_reg; apply w_mvi; rfl; apply w_done0; apply w_sq; apply w_sq; apply w_reg; apply w_mv)
  refine w_pure rfl (h1 h) ?_
  (apply w_done0; apply w_ifT; rfl; apply w_sq; apply w_reg; apply w_mvi; rfl; apply w_done0; apply w_ret)
  apply finPv; rfl
def g_tree_Tree_Count (f_tree_Tree_none : Nat) : GFun :=
 ⟨9, [(.tmp 2)],
 (.seq
 (.reg false (.op false ⟨(some 2), none, (.mv (.const (.int .i64 0)))⟩ .done))
 (.seq (.seq
 (.reg false (.op false ⟨(some 3), none, (.mv (.tmp 0))⟩
  (.op false ⟨(some 4), none, (.call f_tree_Tree_none [(.tmp 3)])⟩ .done))) (.cond (.tmp 4)
 (.seq
 (.reg false (.op false ⟨(some 2), none, (.mv (.const (.int .i64 0)))⟩ .done)) .ret) .skip))
 (.seq
 (.reg false (.op false ⟨(some 5), none, (.mv (.tmp 0))⟩
  (.op false ⟨(some 6), none, (.nilc (.tmp 5))⟩
  (.op false ⟨(some 7), none, (.fld 3 (.tmp 6))⟩
  (.op false ⟨(some 8), none, (.ld none (.tmp 7))⟩
  (.op false ⟨(some 2), none, (.mv (.tmp 8))⟩ .done)))))) .ret)))⟩

theorem tcount_nob {P : Program} {f f1 : FuncId} (hd : dec P f = some (g_tree_Tree_Count f1)) (h1 : TNoneNOk P f1) : TZeroNOk P f := by
  intro d v h
  refine GCall_of hd (Nat.le_of_ble_eq_true rfl) ?_
  show gwp P _ _ _ _ _
  (apply w_sq; apply w_reg; apply w_mvi; rfl; apply w_done0; apply w_sq; apply w_sq; apply w_reg; apply w_mv)
  refine w_pure rfl (h1 h) ?_
  (apply w_done0; apply w_ifT; rfl; apply w_sq; apply w_reg; apply w_mvi; rfl; apply w_done0; apply w_ret)
  apply finPv; rfl
def PMarkNOk (P : Program) (f : FuncId) : Prop := ∀ {d : PHeap} {v : Value}, Nob d v → GPure P f [v] d (.pointer none)
theorem pmark_nob {P : Program} {f f1 f2 f3 : FuncId} (hd : dec P f = some (g_pager_Pager_Mark f1 f2 f3)) (h1 : NNoneOk P f1) : PMarkNOk P f := by
  intro d v h
  refine GCall_of hd (Nat.le_of_ble_eq_true rfl) ?_
  show gwp P _ _ _ _ _
  (apply w_sq; apply w_reg; apply w_mvp; rfl; apply w_done0; apply w_sq; apply w_sq; apply w_reg; apply w_mv)
  refine w_pure rfl (h1 h) ?_
  (apply w_done0; apply w_ifT; rfl; apply w_sq; apply w_reg; apply w_mvp; rfl; apply w_done0; apply w_ret)
  apply finPv; rfl
def g_tree_New (f_pager_Pager_Mark : Nat) : GFun :=
 ⟨10, [(.tmp 2), (.tmp 3)],
 (.seq
 (.reg false (.op false ⟨(some 2), none, (.mv (.const (.pointer none)))⟩
  (.op false ⟨(some 3), none, (.mv (.const (.int .i64 0)))⟩ .done)))
 (.seq (.seq
 (.reg false (.op false ⟨(some 4), none, (.mv (.tmp 0))⟩
  (.op false ⟨(some 5), none, (.call f_pager_Pager_Mark [(.tmp 4)])⟩
  (.op false ⟨(some 6), none, (.eqp false (.tmp 5) (.const (.pointer none)))⟩ .done)))) (.cond (.tmp 6)
 (.seq
 (.reg false (.op false ⟨(some 2), none, (.mv (.const (.pointer none)))⟩
  (.op false ⟨(some 3), none, (.mv (.const (.int .i64 1)))⟩ .done))) .ret) .skip))
 (.seq
 (.reg false (.op false ⟨(some 7), none, (.mv (.tmp 0))⟩
  (.op false ⟨(some 8), none, (.bld [(0, 1), (1, 1), (2, 1), (3, 1)] [(.pointer none), (.int .i64 0), (.int .i64 0), (.int .i64 0)] [(0, (.tmp 7)), (1, (.const (.int .i64 (-1))))])⟩
  (.op false ⟨(some 9), none, (.box (.tmp 8))⟩
  (.op false ⟨(some 2), none, (.mv (.tmp 9))⟩
  (.op false ⟨(some 3), none, (.mv (.const (.int .i64 0)))⟩ .done)))))) .ret)))⟩

def TNewNOk (P : Program) (f : FuncId) : Prop := ∀ {d : PHeap} {v : Value}, Nob d v → GPure P f [v] d (.tuple #[.pointer none, .int .i64 1])
theorem tnew_nob {P : Program} {f f1 : FuncId} (hd : dec P f = some (g_tree_New f1)) (h1 : PMarkNOk P f1) : TNewNOk P f := by
  intro d v h
  refine GCall_of hd (Nat.le_of_ble_eq_true rfl) ?_
  show gwp P _ _ _ _ _
  (apply w_sq; apply w_reg; apply w_mvp; rfl; apply w_mvi; rfl; apply w_done0; apply w_sq; apply w_sq; apply w_reg; apply w_mv)
  refine w_pure rfl (h1 h) ?_
  (apply w_eqpN; rfl; rfl; apply w_done0; apply w_ifT; rfl; apply w_sq; apply w_reg; apply w_mvp; rfl; apply w_mvi; rfl; apply w_done0; apply w_ret)
  apply finPv2 <;> rfl
def g_tree_Open (f_pager_Pager_Mark : Nat) : GFun :=
 ⟨46, [(.tmp 8), (.tmp 9)],
 (.seq
 (.reg false (.op false ⟨(some 8), none, (.mv (.const (.pointer none)))⟩
  (.op false ⟨(some 9), none, (.mv (.const (.int .i64 0)))⟩ .done)))
 (.seq
 (.reg false (.op false ⟨(some 11), none, (.mv (.tmp 2))⟩
  (.op false ⟨(some 12), none, (.bin .eql (.tmp 11) (.const (.int .i64 0)))⟩
  (.op false ⟨(some 13), none, (.mv (.tmp 12))⟩
  (.op false ⟨(some 14), (some (13, true)), (.mv (.tmp 1))⟩
  (.op false ⟨(some 15), (some (13, true)), (.bin .eql (.tmp 14) (.const (.int .i64 (-1))))⟩
  (.op false ⟨(some 16), none, (.pick (.tmp 13) (.tmp 15) (.const (.bool false)))⟩
  (.op false ⟨(some 17), none, (.mv (.tmp 16))⟩
  (.op false ⟨(some 18), (some (17, true)), (.mv (.tmp 3))⟩
  (.op false ⟨(some 19), (some (17, true)), (.bin .eql (.tmp 18) (.const (.int .i64 0)))⟩
  (.op false ⟨(some 20), none, (.pick (.tmp 17) (.tmp 19) (.const (.bool false)))⟩
  (.op false ⟨(some 10), none, (.mv (.tmp 20))⟩ .done))))))))))))
 (.seq (.block 0
 (.seq
 (.reg false (.op false ⟨(some 22), none, (.mv (.tmp 0))⟩
  (.op false ⟨(some 23), none, (.call f_pager_Pager_Mark [(.tmp 22)])⟩
  (.op false ⟨(some 24), none, (.eqp false (.tmp 23) (.const (.pointer none)))⟩
  (.op false ⟨(some 21), none, (.mv (.tmp 24))⟩ .done))))) (.cond (.tmp 21)
 (.seq
 (.reg false (.op false ⟨(some 8), none, (.mv (.const (.pointer none)))⟩
  (.op false ⟨(some 9), none, (.mv (.const (.int .i64 1)))⟩ .done))) .ret)
 (.seq
 (.reg false (.op false ⟨(some 26), none, (.mv (.tmp 10))⟩
  (.op false ⟨(some 27), none, (.un .not (.tmp 26))⟩
  (.op false ⟨(some 28), none, (.mv (.tmp 27))⟩
  (.op false ⟨(some 29), (some (28, true)), (.mv (.tmp 2))⟩
  (.op false ⟨(some 30), (some (28, true)), (.bin .lss (.tmp 29) (.const (.int .i64 1)))⟩
  (.op false ⟨(some 31), (some (28, true)), (.mv (.tmp 30))⟩
  (.op false ⟨(some 32), (some (31, false)), (.mv (.tmp 1))⟩
  (.op false ⟨(some 33), (some (31, false)), (.bin .lss (.tmp 32) (.const (.int .i64 0)))⟩
  (.op false ⟨(some 34), (some (28, true)), (.pick (.tmp 31) (.const (.bool true)) (.tmp 33))⟩
  (.op false ⟨(some 35), (some (28, true)), (.mv (.tmp 34))⟩
  (.op false ⟨(some 36), (some (35, false)), (.mv (.tmp 3))⟩
  (.op false ⟨(some 37), (some (35, false)), (.bin .lss (.tmp 36) (.const (.int .i64 1)))⟩
  (.op false ⟨(some 38), (some (28, true)), (.pick (.tmp 35) (.const (.bool true)) (.tmp 37))⟩
  (.op false ⟨(some 39), none, (.pick (.tmp 28) (.tmp 38) (.const (.bool false)))⟩
  (.op false ⟨(some 25), none, (.mv (.tmp 39))⟩ .done)))))))))))))))) (.cond (.tmp 25)
 (.seq
 (.reg false (.op false ⟨(some 8), none, (.mv (.const (.pointer none)))⟩
  (.op false ⟨(some 9), none, (.mv (.const (.int .i64 2)))⟩ .done))) .ret) .skip)))))
 (.seq
 (.reg false (.op false ⟨(some 40), none, (.mv (.tmp 0))⟩
  (.op false ⟨(some 41), none, (.mv (.tmp 1))⟩
  (.op false ⟨(some 42), none, (.mv (.tmp 2))⟩
  (.op false ⟨(some 43), none, (.mv (.tmp 3))⟩
  (.op false ⟨(some 44), none, (.bld [(0, 1), (1, 1), (2, 1), (3, 1)] [(.pointer none), (.int .i64 0), (.int .i64 0), (.int .i64 0)] [(0, (.tmp 40)), (1, (.tmp 41)), (2, (.tmp 42)), (3, (.tmp 43))])⟩
  (.op false ⟨(some 45), none, (.box (.tmp 44))⟩
  (.op false ⟨(some 8), none, (.mv (.tmp 45))⟩
  (.op false ⟨(some 9), none, (.mv (.const (.int .i64 0)))⟩ .done))))))))) .ret))))⟩

def TOpenNOk (P : Program) (f : FuncId) : Prop := ∀ {d : PHeap} {v : Value} {x y z : Int}, Nob d v → GPure P f [v, .int .i64 x, .int .i64 y, .int .i64 z] d (.tuple #[.pointer none, .int .i64 1])
theorem topen_nob {P : Program} {f f1 : FuncId} (hd : dec P f = some (g_tree_Open f1)) (h1 : PMarkNOk P f1) : TOpenNOk P f := by
  intro d v x y z h
  refine GCall_of hd (Nat.le_of_ble_eq_true rfl) ?_
  show gwp P _ _ _ _ _
  by_cases q1 : y = 0
  · by_cases q2 : x = -1
    · (apply w_sq; apply w_reg; apply w_mvp; rfl; apply w_mvi; rfl; apply w_done0; apply w_sq; apply w_reg; apply w_mvi; rfl; apply w_eql; rfl; rfl; apply w_mvb; rfl; refine w_gdT rfl (by omega) ?_; apply w_gT; rfl; apply w_mvi; rfl; apply w_gT; rfl; apply w_eql; rfl; rfl; apply w_pickTb; rfl; rfl; apply w_mvb; rfl; refine w_gdT rfl (by omega) ?_; apply w_gT; rfl; apply w_mvi; rfl; apply w_gT; rfl; apply w_eql; rfl; rfl; apply w_pickTb; rfl; rfl; apply w_mvb; rfl; apply w_done0; apply w_sq; apply w_block; apply w_sq; apply w_reg; apply w_mv)
      refine w_pure rfl (h1 h) ?_
      (apply w_eqpN; rfl; rfl; apply w_mvb; rfl; apply w_done0; apply w_ifT; rfl; apply w_sq; apply w_reg; apply w_mvp; rfl; apply w_mvi; rfl; apply w_done0; apply w_ret)
      apply finPv2 <;> rfl
    · (apply w_sq; apply w_reg; apply w_mvp; rfl; apply w_mvi; rfl; apply w_done0; apply w_sq; apply w_reg; apply w_mvi; rfl; apply w_eql; rfl; rfl; apply w_mvb; rfl; refine w_gdT rfl (by omega) ?_; apply w_gT; rfl; apply w_mvi; rfl; apply w_gT; rfl; apply w_eql; rfl; rfl; apply w_pickTb; rfl; rfl; apply w_mvb; rfl; refine w_gdF rfl (by omega) ?_; apply w_gF; rfl; apply w_gF; rfl; apply w_pickFb; rfl; rfl; apply w_mvb; rfl; apply w_done0; apply w_sq; apply w_block; apply w_sq; apply w_reg; apply w_mv)
      refine w_pure rfl (h1 h) ?_
      (apply w_eqpN; rfl; rfl; apply w_mvb; rfl; apply w_done0; apply w_ifT; rfl; apply w_sq; apply w_reg; apply w_mvp; rfl; apply w_mvi; rfl; apply w_done0; apply w_ret)
      apply finPv2 <;> rfl
  · (apply w_sq; apply w_reg; apply w_mvp; rfl; apply w_mvi; rfl; apply w_done0; apply w_sq; apply w_reg; apply w_mvi; rfl; apply w_eql; rfl; rfl; apply w_mvb; rfl; refine w_gdF rfl (by omega) ?_; apply w_gF; rfl; apply w_gF; rfl; apply w_pickFb; rfl; rfl; apply w_mvb; rfl; apply w_gF; rfl; apply w_gF; rfl; apply w_pickFb; rfl; rfl; apply w_mvb; rfl; apply w_done0; apply w_sq; apply w_block; apply w_sq; apply w_reg; apply w_mv)
    refine w_pure rfl (h1 h) ?_
    (apply w_eqpN; rfl; rfl; apply w_mvb; rfl; apply w_done0; apply w_ifT; rfl; apply w_sq; apply w_reg; apply w_mvp; rfl; apply w_mvi; rfl; apply w_done0; apply w_ret)
    apply finPv2 <;> rfl
def g_thimblelaw22_TreeNobody (f_tree_Tree_Get f_tree_Tree_Del f_tree_Tree_Pages f_tree_Tree_Put f_tree_Tree_Root f_tree_Tree_Height f_tree_Tree_Count f_tree_New f_tree_Open : Nat) : GFun :=
 ⟨122, [(.tmp 6)],
 (.seq
 (.reg false (.op false ⟨(some 6), none, (.mv (.const (.bool false)))⟩ .done))
 (.seq (.seq
 (.reg false (.op false ⟨(some 20), none, (.bld [(0, 1), (1, 1), (2, 1), (3, 1)] [(.pointer none), (.int .i64 0), (.int .i64 0), (.int .i64 0)] [])⟩
  (.op false ⟨(some 21), none, (.box (.tmp 20))⟩
  (.op false ⟨(some 22), none, (.bsl 2 1 [(.pointer none)] [(0, (.const (.pointer none))), (1, (.tmp 21))])⟩
  (.op false ⟨(some 23), none, (.len (.tmp 22))⟩
  (.op false ⟨(some 24), none, (.mv (.const (.int .i64 0)))⟩ .done)))))) (.block 0 (.loop
 (.seq
 (.reg false (.op false ⟨(some 25), none, (.bin .lss (.tmp 24) (.tmp 23))⟩ .done))
 (.seq (.cond (.tmp 25) .skip (.exit 0))
 (.seq (.block 1
 (.seq
 (.reg false (.op false ⟨(some 26), none, (.idx 1 (.tmp 22) (.tmp 24))⟩
  (.op false ⟨(some 27), none, (.ld none (.tmp 26))⟩
  (.op false ⟨(some 8), none, (.mv (.tmp 27))⟩ .done))))
 (.seq
 (.reg false (.op false ⟨(some 29), none, (.mv (.tmp 8))⟩
  (.op false ⟨(some 30), none, (.mv (.tmp 0))⟩
  (.op false ⟨(some 31), none, (.call f_tree_Tree_Get [(.tmp 29), (.tmp 30)])⟩
  (.op false ⟨(some 28), none, (.mv (.tmp 31))⟩
  (.op false ⟨(some 32), none, (.ext (.tmp 28) 0)⟩
  (.op false ⟨(some 33), none, (.ext (.tmp 28) 1)⟩
  (.op false ⟨(some 34), none, (.ext (.tmp 28) 2)⟩
  (.op false ⟨(some 9), none, (.mv (.tmp 32))⟩
  (.op false ⟨(some 10), none, (.mv (.tmp 33))⟩
  (.op false ⟨(some 11), none, (.mv (.tmp 34))⟩ .done)))))))))))
 (.seq
 (.reg false (.op false ⟨(some 36), none, (.mv (.tmp 8))⟩
  (.op false ⟨(some 37), none, (.mv (.tmp 0))⟩
  (.op false ⟨(some 38), none, (.call f_tree_Tree_Del [(.tmp 36), (.tmp 37)])⟩
  (.op false ⟨(some 35), none, (.mv (.tmp 38))⟩
  (.op false ⟨(some 39), none, (.ext (.tmp 35) 0)⟩
  (.op false ⟨(some 40), none, (.ext (.tmp 35) 1)⟩
  (.op false ⟨(some 12), none, (.mv (.tmp 39))⟩
  (.op false ⟨(some 13), none, (.mv (.tmp 40))⟩ .done)))))))))
 (.seq
 (.reg false (.op false ⟨(some 42), none, (.mv (.tmp 8))⟩
  (.op false ⟨(some 43), none, (.call f_tree_Tree_Pages [(.tmp 42)])⟩
  (.op false ⟨(some 41), none, (.mv (.tmp 43))⟩
  (.op false ⟨(some 44), none, (.ext (.tmp 41) 0)⟩
  (.op false ⟨(some 45), none, (.ext (.tmp 41) 1)⟩
  (.op false ⟨(some 14), none, (.mv (.tmp 44))⟩
  (.op false ⟨(some 15), none, (.mv (.tmp 45))⟩ .done))))))))
 (.seq
 (.reg false (.op false ⟨(some 46), none, (.mv (.tmp 9))⟩
  (.op false ⟨(some 47), none, (.len (.tmp 46))⟩
  (.op false ⟨(some 48), none, (.bin .neq (.tmp 47) (.const (.int .i64 0)))⟩
  (.op false ⟨(some 49), none, (.mv (.tmp 48))⟩
  (.op false ⟨(some 50), (some (49, false)), (.mv (.tmp 10))⟩
  (.op false ⟨(some 51), none, (.pick (.tmp 49) (.const (.bool true)) (.tmp 50))⟩
  (.op false ⟨(some 52), none, (.mv (.tmp 51))⟩
  (.op false ⟨(some 53), (some (52, false)), (.mv (.tmp 12))⟩
  (.op false ⟨(some 54), none, (.pick (.tmp 52) (.const (.bool true)) (.tmp 53))⟩
  (.op false ⟨(some 55), none, (.mv (.tmp 54))⟩
  (.op false ⟨(some 56), (some (55, false)), (.mv (.tmp 14))⟩
  (.op false ⟨(some 57), (some (55, false)), (.len (.tmp 56))⟩
  (.op false ⟨(some 58), (some (55, false)), (.bin .neq (.tmp 57) (.const (.int .i64 0)))⟩
  (.op false ⟨(some 59), none, (.pick (.tmp 55) (.const (.bool true)) (.tmp 58))⟩
  (.op false ⟨(some 60), none, (.mv (.tmp 59))⟩
  (.op false ⟨(some 61), (some (60, false)), (.mv (.tmp 11))⟩
  (.op false ⟨(some 62), (some (60, false)), (.bin .neq (.tmp 61) (.const (.int .i64 1)))⟩
  (.op false ⟨(some 63), none, (.pick (.tmp 60) (.const (.bool true)) (.tmp 62))⟩
  (.op false ⟨(some 64), none, (.mv (.tmp 63))⟩
  (.op false ⟨(some 65), (some (64, false)), (.mv (.tmp 13))⟩
  (.op false ⟨(some 66), (some (64, false)), (.bin .neq (.tmp 65) (.const (.int .i64 1)))⟩
  (.op false ⟨(some 67), none, (.pick (.tmp 64) (.const (.bool true)) (.tmp 66))⟩
  (.op false ⟨(some 68), none, (.mv (.tmp 67))⟩
  (.op false ⟨(some 69), (some (68, false)), (.mv (.tmp 15))⟩
  (.op false ⟨(some 70), (some (68, false)), (.bin .neq (.tmp 69) (.const (.int .i64 1)))⟩
  (.op false ⟨(some 71), none, (.pick (.tmp 68) (.const (.bool true)) (.tmp 70))⟩
  (.op false ⟨(some 72), none, (.mv (.tmp 71))⟩
  (.op false ⟨(some 73), (some (72, false)), (.mv (.tmp 8))⟩
  (.op false ⟨(some 74), (some (72, false)), (.mv (.tmp 0))⟩
  (.op false ⟨(some 75), (some (72, false)), (.mv (.tmp 1))⟩
  (.op false ⟨(some 76), (some (72, false)), (.call f_tree_Tree_Put [(.tmp 73), (.tmp 74), (.tmp 75)])⟩
  (.op false ⟨(some 77), (some (72, false)), (.bin .neq (.tmp 76) (.const (.int .i64 1)))⟩
  (.op false ⟨(some 78), none, (.pick (.tmp 72) (.const (.bool true)) (.tmp 77))⟩
  (.op false ⟨(some 79), none, (.mv (.tmp 78))⟩
  (.op false ⟨(some 80), (some (79, false)), (.mv (.tmp 8))⟩
  (.op false ⟨(some 81), (some (79, false)), (.call f_tree_Tree_Root [(.tmp 80)])⟩
  (.op false ⟨(some 82), (some (79, false)), (.bin .neq (.tmp 81) (.const (.int .i64 (-1))))⟩
  (.op false ⟨(some 83), none, (.pick (.tmp 79) (.const (.bool true)) (.tmp 82))⟩
  (.op false ⟨(some 84), none, (.mv (.tmp 83))⟩
  (.op false ⟨(some 85), (some (84, false)), (.mv (.tmp 8))⟩
  (.op false ⟨(some 86), (some (84, false)), (.call f_tree_Tree_Height [(.tmp 85)])⟩
  (.op false ⟨(some 87), (some (84, false)), (.bin .neq (.tmp 86) (.const (.int .i64 0)))⟩
  (.op false ⟨(some 88), none, (.pick (.tmp 84) (.const (.bool true)) (.tmp 87))⟩
  (.op false ⟨(some 89), none, (.mv (.tmp 88))⟩
  (.op false ⟨(some 90), (some (89, false)), (.mv (.tmp 8))⟩
  (.op false ⟨(some 91), (some (89, false)), (.call f_tree_Tree_Count [(.tmp 90)])⟩
  (.op false ⟨(some 92), (some (89, false)), (.bin .neq (.tmp 91) (.const (.int .i64 0)))⟩
  (.op false ⟨(some 93), none, (.pick (.tmp 89) (.const (.bool true)) (.tmp 92))⟩ .done))))))))))))))))))))))))))))))))))))))))))))))))) (.cond (.tmp 93)
 (.seq
 (.reg false (.op false ⟨(some 6), none, (.mv (.const (.bool false)))⟩ .done)) .ret) .skip)))))))
 (.reg false (.op false ⟨(some 94), none, (.bin .add (.tmp 24) (.const (.int .i64 1)))⟩
  (.op false ⟨(some 24), none, (.mv (.tmp 94))⟩ .done)))))))))
 (.seq
 (.reg false (.op false ⟨(some 96), none, (.call f_tree_New [(.const (.pointer none))])⟩
  (.op false ⟨(some 95), none, (.mv (.tmp 96))⟩
  (.op false ⟨(some 97), none, (.ext (.tmp 95) 0)⟩
  (.op false ⟨(some 98), none, (.ext (.tmp 95) 1)⟩
  (.op false ⟨(some 16), none, (.mv (.tmp 97))⟩
  (.op false ⟨(some 17), none, (.mv (.tmp 98))⟩ .done)))))))
 (.seq
 (.reg false (.op false ⟨(some 100), none, (.bld [(0, 1), (1, 1), (2, 1), (3, 1), (4, 1), (5, 1), (6, 1)] [(.pointer none), (.pointer none), (.int .i64 0), (.slice none 0 0), (.map none), (.int .i64 0), (.int .i64 0)] [])⟩
  (.op false ⟨(some 101), none, (.box (.tmp 100))⟩
  (.op false ⟨(some 102), none, (.mv (.tmp 2))⟩
  (.op false ⟨(some 103), none, (.mv (.tmp 2))⟩
  (.op false ⟨(some 104), none, (.mv (.tmp 2))⟩
  (.op false ⟨(some 105), none, (.call f_tree_Open [(.tmp 101), (.tmp 102), (.tmp 103), (.tmp 104)])⟩
  (.op false ⟨(some 99), none, (.mv (.tmp 105))⟩
  (.op false ⟨(some 106), none, (.ext (.tmp 99) 0)⟩
  (.op false ⟨(some 107), none, (.ext (.tmp 99) 1)⟩
  (.op false ⟨(some 18), none, (.mv (.tmp 106))⟩
  (.op false ⟨(some 19), none, (.mv (.tmp 107))⟩ .done))))))))))))
 (.seq
 (.reg false (.op false ⟨(some 108), none, (.mv (.tmp 16))⟩
  (.op false ⟨(some 109), none, (.eqp false (.tmp 108) (.const (.pointer none)))⟩
  (.op false ⟨(some 110), none, (.mv (.tmp 109))⟩
  (.op false ⟨(some 111), (some (110, true)), (.mv (.tmp 18))⟩
  (.op false ⟨(some 112), (some (110, true)), (.eqp false (.tmp 111) (.const (.pointer none)))⟩
  (.op false ⟨(some 113), none, (.pick (.tmp 110) (.tmp 112) (.const (.bool false)))⟩
  (.op false ⟨(some 114), none, (.mv (.tmp 113))⟩
  (.op false ⟨(some 115), (some (114, true)), (.mv (.tmp 17))⟩
  (.op false ⟨(some 116), (some (114, true)), (.bin .eql (.tmp 115) (.const (.int .i64 1)))⟩
  (.op false ⟨(some 117), none, (.pick (.tmp 114) (.tmp 116) (.const (.bool false)))⟩
  (.op false ⟨(some 118), none, (.mv (.tmp 117))⟩
  (.op false ⟨(some 119), (some (118, true)), (.mv (.tmp 19))⟩
  (.op false ⟨(some 120), (some (118, true)), (.bin .eql (.tmp 119) (.const (.int .i64 1)))⟩
  (.op false ⟨(some 121), none, (.pick (.tmp 118) (.tmp 120) (.const (.bool false)))⟩
  (.op false ⟨(some 6), none, (.mv (.tmp 121))⟩ .done)))))))))))))))) .ret)))))⟩

set_option maxRecDepth 4000 in
theorem treeNobody {P : Program} {f f1 f2 f3 f4 f5 f6 f7 f8 f9 : FuncId} (hd : dec P f = some (g_thimblelaw22_TreeNobody f1 f2 f3 f4 f5 f6 f7 f8 f9)) (h1 : TGetNOk P f1) (h2 : TDelNOk P f2) (h3 : TPagesNOk P f3) (h4 : TPutNOk P f4) (h5 : TRootNOk P f5) (h6 : TZeroNOk P f6) (h7 : TZeroNOk P f7) (h8 : TNewNOk P f8) (h9 : TOpenNOk P f9)
    {d : PHeap} {a a' : Option Addr} {m c m' c' : Nat} {n : Int} : GCall P f [.slice a m c, .slice a' m' c', .int .i64 n] d [] (Ret fun r _ _ => r = .bool true) := by
  refine GCall_of hd (Nat.le_of_ble_eq_true rfl) ?_
  show gwp P _ _ _ _ _
  (apply w_sq; apply w_reg; apply w_mvb; rfl; apply w_done0; apply w_sq; apply w_sq; apply w_reg; apply w_bld; rfl; apply w_boxa; rfl; intro _ _)
  rename_i b1 T1
  refine w_frz (fun d0 hl1 hb1 => ?_)
  replace hb1 := dcs_bx hb1
  have hdc := hb1.at (i := 0) rfl
  refine w_bsl (cs := [.pointer none, .pointer (some ⟨b1, 0, none⟩)]) (by omega) rfl (fun b2 T2 => ?_)
  (apply w_len; rfl; apply w_mvi; rfl; apply w_done0; apply w_block)
  refine w_loopS (α := Nat) (fun i => [(0, .slice a m c), (1, .slice a' m' c'), (2, .int .i64 n), (22, .slice (some ⟨b2, 0, none⟩) 2 2), (23, .int .i64 2), (24, .int .i64 i)])
    (fun i d' L' => d0 = d' ∧ i ≤ 2 ∧ L' = [bx b2 T2 [.pointer none, .pointer (some ⟨b1, 0, none⟩)]]) (fun i => 2 - i) 0 ⟨rfl, rfl, rfl, rfl, rfl, rfl, trivial⟩ ⟨rfl, by omega, rfl⟩ ?_
  rintro i ρ d1 L' ⟨rfl, hi, rfl⟩
  obtain rfl | rfl | rfl : i = 0 ∨ i = 1 ∨ i = 2 := by omega
  · have hN : Nob d0 (.pointer none) := .inl rfl
    (apply w_sq; apply w_reg; apply w_lss; rfl; rfl; apply w_done0; apply w_sq; refine w_ifdT rfl (by omega) ?_; apply w_skip; apply w_sq; apply w_block; apply w_sq; apply w_reg; refine w_idxN _ rfl rfl rfl (by omega) ?_; apply w_ld; rfl; exact hc_i 0 rfl rfl; apply w_mvp; rfl; apply w_done0; apply w_sq; apply w_reg; apply w_mvp; rfl; apply w_mvs; rfl)
    refine w_pure rfl (h1 (w := .slice a m c) hN) ?_
    (apply w_mvu; rfl; apply w_ext; rfl; rfl; apply w_ext; rfl; rfl; apply w_ext; rfl; rfl; apply w_mvs; rfl; apply w_mvb; rfl; apply w_mvi; rfl; apply w_done0; apply w_sq; apply w_reg; apply w_mvp; rfl; apply w_mvs; rfl)
    refine w_pure rfl (h2 (a := a) (n := m) (c := c) hN) ?_
    (apply w_mvu; rfl; apply w_ext; rfl; rfl; apply w_ext; rfl; rfl; apply w_mvb; rfl; apply w_mvi; rfl; apply w_done0; apply w_sq; apply w_reg; apply w_mvp; rfl)
    refine w_pure rfl (h3 hN) ?_
    (apply w_mvu; rfl; apply w_ext; rfl; rfl; apply w_ext; rfl; rfl; apply w_mvs; rfl; apply w_mvi; rfl; apply w_done0; apply w_sq; apply w_reg; apply w_mvs; rfl; apply w_len; rfl; apply w_neq; rfl; rfl; apply w_mvb; rfl; refine w_gdF rfl (by omega) ?_; apply w_gT; rfl; apply w_mvb; rfl; apply w_pickFb; rfl; rfl; apply w_mvb; rfl; apply w_gT; rfl; apply w_mvb; rfl; apply w_pickFb; rfl; rfl; apply w_mvb; rfl; apply w_gT; rfl; apply w_mvs; rfl; apply w_gT; rfl; apply w_len; rfl; apply w_gT; rfl; apply w_neq; rfl; rfl; apply w_pickFb; rfl; rfl; apply w_mvb; rfl; refine w_gdF rfl (by omega) ?_; apply w_gT; rfl; apply w_mvi; rfl; apply w_gT; rfl; apply w_neq; rfl; rfl; apply w_pickFb; rfl; rfl; apply w_mvb; rfl; refine w_gdF rfl (by omega) ?_; apply w_gT; rfl; apply w_mvi; rfl; apply w_gT; rfl; apply w_neq; rfl; rfl; apply w_pickFb; rfl; rfl; apply w_mvb; rfl; refine w_gdF rfl (by omega) ?_; apply w_gT; rfl; apply w_mvi; rfl; apply w_gT; rfl; apply w_neq; rfl; rfl; apply w_pickFb; rfl; rfl; apply w_mvb; rfl; refine w_gdF rfl (by omega) ?_; apply w_gT; rfl; apply w_mvp; rfl; apply w_gT; rfl; apply w_mvs; rfl; apply w_gT; rfl; apply w_mvs; rfl; apply w_gT; rfl)
    refine w_pure rfl (h4 (a := a) (n := m) (c := c) (a' := a') (n' := m') (c' := c') hN) ?_
    (apply w_gT; rfl; apply w_neq; rfl; rfl; apply w_pickFb; rfl; rfl; apply w_mvb; rfl; refine w_gdF rfl (by omega) ?_; apply w_gT; rfl; apply w_mvp; rfl; apply w_gT; rfl)
    refine w_pure rfl (h5 hN) ?_
    (apply w_gT; rfl; apply w_neq; rfl; rfl; apply w_pickFb; rfl; rfl; apply w_mvb; rfl; refine w_gdF rfl (by omega) ?_; apply w_gT; rfl; apply w_mvp; rfl; apply w_gT; rfl)
    refine w_pure rfl (h6 hN) ?_
    (apply w_gT; rfl; apply w_neq; rfl; rfl; apply w_pickFb; rfl; rfl; apply w_mvb; rfl; refine w_gdF rfl (by omega) ?_; apply w_gT; rfl; apply w_mvp; rfl; apply w_gT; rfl)
    refine w_pure rfl (h7 hN) ?_
    (apply w_gT; rfl; apply w_neq; rfl; rfl; apply w_pickFb; rfl; rfl; apply w_done0; refine w_ifdF rfl (by omega) ?_; apply w_skip; apply w_reg; apply w_add; rfl; rfl; omega; omega; apply w_mvi; rfl; apply w_done0)
    exact ⟨1, by omega, ⟨rfl, rfl, rfl, rfl, rfl, rfl, trivial⟩, rfl, by omega, rfl⟩
  · have hN : Nob d0 (.pointer (some ⟨b1, 0, none⟩)) := .inr ⟨b1, rfl, hdc⟩
    (apply w_sq; apply w_reg; apply w_lss; rfl; rfl; apply w_done0; apply w_sq; refine w_ifdT rfl (by omega) ?_; apply w_skip; apply w_sq; apply w_block; apply w_sq; apply w_reg; refine w_idxN _ rfl rfl rfl (by omega) ?_; apply w_ld; rfl; exact hc_i 0 rfl rfl; apply w_mvp; rfl; apply w_done0; apply w_sq; apply w_reg; apply w_mvp; rfl; apply w_mvs; rfl)
    refine w_pure rfl (h1 (w := .slice a m c) hN) ?_
    (apply w_mvu; rfl; apply w_ext; rfl; rfl; apply w_ext; rfl; rfl; apply w_ext; rfl; rfl; apply w_mvs; rfl; apply w_mvb; rfl; apply w_mvi; rfl; apply w_done0; apply w_sq; apply w_reg; apply w_mvp; rfl; apply w_mvs; rfl)
    refine w_pure rfl (h2 (a := a) (n := m) (c := c) hN) ?_
    (apply w_mvu; rfl; apply w_ext; rfl; rfl; apply w_ext; rfl; rfl; apply w_mvb; rfl; apply w_mvi; rfl; apply w_done0; apply w_sq; apply w_reg; apply w_mvp; rfl)
    refine w_pure rfl (h3 hN) ?_
    (apply w_mvu; rfl; apply w_ext; rfl; rfl; apply w_ext; rfl; rfl; apply w_mvs; rfl; apply w_mvi; rfl; apply w_done0; apply w_sq; apply w_reg; apply w_mvs; rfl; apply w_len; rfl; apply w_neq; rfl; rfl; apply w_mvb; rfl; refine w_gdF rfl (by omega) ?_; apply w_gT; rfl; apply w_mvb; rfl; apply w_pickFb; rfl; rfl; apply w_mvb; rfl; apply w_gT; rfl; apply w_mvb; rfl; apply w_pickFb; rfl; rfl; apply w_mvb; rfl; apply w_gT; rfl; apply w_mvs; rfl; apply w_gT; rfl; apply w_len; rfl; apply w_gT; rfl; apply w_neq; rfl; rfl; apply w_pickFb; rfl; rfl; apply w_mvb; rfl; refine w_gdF rfl (by omega) ?_; apply w_gT; rfl; apply w_mvi; rfl; apply w_gT; rfl; apply w_neq; rfl; rfl; apply w_pickFb; rfl; rfl; apply w_mvb; rfl; refine w_gdF rfl (by omega) ?_; apply w_gT; rfl; apply w_mvi; rfl; apply w_gT; rfl; apply w_neq; rfl; rfl; apply w_pickFb; rfl; rfl; apply w_mvb; rfl; refine w_gdF rfl (by omega) ?_; apply w_gT; rfl; apply w_mvi; rfl; apply w_gT; rfl; apply w_neq; rfl; rfl; apply w_pickFb; rfl; rfl; apply w_mvb; rfl; refine w_gdF rfl (by omega) ?_; apply w_gT; rfl; apply w_mvp; rfl; apply w_gT; rfl; apply w_mvs; rfl; apply w_gT; rfl; apply w_mvs; rfl; apply w_gT; rfl)
    refine w_pure rfl (h4 (a := a) (n := m) (c := c) (a' := a') (n' := m') (c' := c') hN) ?_
    (apply w_gT; rfl; apply w_neq; rfl; rfl; apply w_pickFb; rfl; rfl; apply w_mvb; rfl; refine w_gdF rfl (by omega) ?_; apply w_gT; rfl; apply w_mvp; rfl; apply w_gT; rfl)
    refine w_pure rfl (h5 hN) ?_
    (apply w_gT; rfl; apply w_neq; rfl; rfl; apply w_pickFb; rfl; rfl; apply w_mvb; rfl; refine w_gdF rfl (by omega) ?_; apply w_gT; rfl; apply w_mvp; rfl; apply w_gT; rfl)
    refine w_pure rfl (h6 hN) ?_
    (apply w_gT; rfl; apply w_neq; rfl; rfl; apply w_pickFb; rfl; rfl; apply w_mvb; rfl; refine w_gdF rfl (by omega) ?_; apply w_gT; rfl; apply w_mvp; rfl; apply w_gT; rfl)
    refine w_pure rfl (h7 hN) ?_
    (apply w_gT; rfl; apply w_neq; rfl; rfl; apply w_pickFb; rfl; rfl; apply w_done0; refine w_ifdF rfl (by omega) ?_; apply w_skip; apply w_reg; apply w_add; rfl; rfl; omega; omega; apply w_mvi; rfl; apply w_done0)
    exact ⟨2, by omega, ⟨rfl, rfl, rfl, rfl, rfl, rfl, trivial⟩, rfl, by omega, rfl⟩
  · (apply w_sq; apply w_reg; apply w_lss; rfl; rfl; apply w_done0; apply w_sq; refine w_ifdF rfl (by omega) ?_; apply w_exit; apply w_sq; apply w_reg)
    refine w_pure rfl (h8 (.inl rfl)) ?_
    (apply w_mvu; rfl; apply w_ext; rfl; rfl; apply w_ext; rfl; rfl; apply w_mvp; rfl; apply w_mvi; rfl; apply w_done0; apply w_sq; apply w_reg; apply w_bld; rfl; apply w_boxa; rfl; intro _ _; apply w_mvi; rfl; apply w_mvi; rfl; apply w_mvi; rfl)
    rename_i b5 T5
    refine w_frz (fun d2 hl2 hb2 => ?_)
    replace hb2 := dcs_bx hb2
    refine w_pure rfl (h9 (x := n) (y := n) (z := n) (.inr ⟨b5, rfl, hb2.at (i := 0) rfl⟩)) ?_
    (apply w_mvu; rfl; apply w_ext; rfl; rfl; apply w_ext; rfl; rfl; apply w_mvp; rfl; apply w_mvi; rfl; apply w_done0; apply w_sq; apply w_reg; apply w_mvp; rfl; apply w_eqpN; rfl; rfl; apply w_mvb; rfl; apply w_gT; rfl; apply w_mvp; rfl; apply w_gT; rfl; apply w_eqpN; rfl; rfl; apply w_pickTb; rfl; rfl; apply w_mvb; rfl; apply w_gT; rfl; apply w_mvi; rfl; apply w_gT; rfl; apply w_eql; rfl; rfl; apply w_pickTb; rfl; rfl; apply w_mvb; rfl; refine w_gdT rfl (by omega) ?_; apply w_gT; rfl; apply w_mvi; rfl; apply w_gT; rfl; apply w_eql; rfl; rfl; apply w_pickTb; rfl; rfl; apply w_mvb; rfl; apply w_done0; apply w_ret)
    exact fin1n rfl rfl
end Go.Gk.Tre
end
