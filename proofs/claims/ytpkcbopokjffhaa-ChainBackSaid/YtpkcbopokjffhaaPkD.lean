/-
  Our own texts, one behind the other: GkC0 GkC4 GkPg0 GkE2 GkC1 GkC2 GkC3 GkCl GkPg1.
-/
import Derived.Test.YtpkcbopokjffhaaPkC
section
namespace Go.Gk.Cch
open Go Go.Gk Go.Gk.Dev

structure Fr where
  held : Bool
  sec : Nat
  pins : Nat
  late : Bool
  b : Sec
def fz : Fr := ⟨false, 0, 0, false, []⟩
structure CD where
  fr : List Fr
  free : List Nat
  hand : Nat
  hits : Nat
  miss : Nat
def findF (k : Nat) : List Fr → Option Nat
  | [] => none
  | f :: l => if f.held = true ∧ f.sec = k then some 0 else (findF k l).map (· + 1)
theorem findF_drop {k : Nat} {l : List Fr} {i : Nat} (hi : i < l.length) : findF k (l.drop i) = if l[i].held = true ∧ l[i].sec = k then some 0 else (findF k (l.drop (i + 1))).map (· + 1) := by
  rw [List.drop_eq_getElem_cons hi]; rfl
theorem findF_some {k : Nat} : ∀ {l : List Fr} {i : Nat}, findF k l = some i → ∃ h : i < l.length, l[i].held = true ∧ l[i].sec = k
  | [], i, h => by cases h
  | f :: l, i, h => by
    rw [findF] at h
    split at h
    · rename_i e; cases h; exact ⟨by simp, e⟩
    · cases hf : findF k l with
      | none => rw [hf] at h; cases h
      | some j =>
        rw [hf] at h; cases h
        obtain ⟨h1, h2⟩ := findF_some hf
        exact ⟨by simpa using h1, by simpa using h2⟩
theorem findF_none {k : Nat} : ∀ {l : List Fr}, findF k l = none → ∀ f ∈ l, ¬ (f.held = true ∧ f.sec = k)
  | f :: l, h, g, hg => by
    rw [findF] at h
    split at h
    · cases h
    · rename_i e
      rcases List.mem_cons.1 hg with rfl | hg
      · exact e
      · refine findF_none ?_ g hg
        cases hf : findF k l with
        | none => rfl
        | some j => rw [hf] at h; cases h
def pinnedF (l : List Fr) : Bool := l.all fun f => f.pins != 0

def takenF (l : List Fr) (h : Nat) : Bool := (l.getD h fz).pins == 0 && !(l.getD h fz).late
def passF (l : List Fr) (h : Nat) : List Fr := if (l.getD h fz).pins = 0 then l.set h { l.getD h fz with late := false } else l
def nextH (l : List Fr) (h : Nat) : Nat := (h + 1) % l.length
def sweepF : Nat → List Fr → Nat → List Fr × Nat × Nat
  | 0, l, h => (l, nextH l h, h)
  | n + 1, l, h => if takenF l h then (l, nextH l h, h) else sweepF n (passF l h) (nextH l h)
theorem passF_len (l : List Fr) (h : Nat) : (passF l h).length = l.length := by unfold passF; split <;> simp
def lates (l : List Fr) : Nat := l.countP fun f => f.pins == 0 && f.late
def dist (l : List Fr) : Nat → Nat → Nat
  | 0, _ => 0
  | n + 1, h => if (l.getD h fz).pins = 0 then 0 else dist l n (nextH l h) + 1
def measF (l : List Fr) (h : Nat) : Nat := lates l * (l.length + 1) + dist l l.length h
theorem dist_le (l : List Fr) : ∀ n h, dist l n h ≤ n
  | 0, _ => Nat.le_refl _
  | n + 1, h => by rw [dist]; split; omega; have := dist_le l n (nextH l h); omega
theorem dist_hit {l : List Fr} {j : Nat} (hj : j < l.length) (hp : (l.getD j fz).pins = 0) : ∀ (n h : Nat), h < l.length → (h + n) % l.length = j → ∀ m, n < m → dist l m h = dist l (n + 1) h
  | 0, h, hh, e, m, hm => by
    rw [Nat.add_zero, Nat.mod_eq_of_lt hh] at e
    subst e
    cases m with
    | zero => omega
    | succ m => rw [dist, dist, if_pos hp, if_pos hp]
  | n + 1, h, hh, e, m, hm => by
    cases m with
    | zero => omega
    | succ m =>
      rw [dist, dist]
      by_cases q : (l.getD h fz).pins = 0
      · rw [if_pos q, if_pos q]
      · rw [if_neg q, if_neg q]
        have h1 : nextH l h < l.length := Nat.mod_lt _ (by omega)
        have h2 : (nextH l h + n) % l.length = j := by
          rw [nextH, Nat.mod_add_mod, ← e]; congr 1; omega
        rw [dist_hit hj hp n (nextH l h) h1 h2 m (by omega)]
theorem dist_step {l : List Fr} {h : Nat} (hh : h < l.length) (hn : pinnedF l = false) (hp : (l.getD h fz).pins ≠ 0) : dist l l.length (nextH l h) < dist l l.length h := by
  obtain ⟨f, hf, hq⟩ := by simpa [pinnedF] using hn
  obtain ⟨j, hj, rfl⟩ := List.getElem_of_mem hf
  have hj0 : (l.getD j fz).pins = 0 := by rw [List.getD_eq_getElem?_getD, List.getElem?_eq_getElem hj]; exact hq
  have hpos : 0 < l.length := by omega
  -- how far j is from the next place
  have key : ∃ n, n < l.length ∧ (nextH l h + n) % l.length = j := by
    have h1 : nextH l h < l.length := Nat.mod_lt _ hpos
    refine ⟨(j + l.length - nextH l h) % l.length, Nat.mod_lt _ hpos, ?_⟩
    rw [Nat.add_mod_mod, show nextH l h + (j + l.length - nextH l h) = j + l.length by omega, Nat.add_mod_right, Nat.mod_eq_of_lt hj]
  obtain ⟨n, hn1, hn2⟩ := key
  have h1 : nextH l h < l.length := Nat.mod_lt _ hpos
  have hn3 : n ≠ l.length - 1 := by
    intro e
    subst e
    rw [nextH, Nat.mod_add_mod, show h + 1 + (l.length - 1) = h + l.length by omega, Nat.add_mod_right, Nat.mod_eq_of_lt hh] at hn2
    subst hn2
    exact hp hj0
  obtain ⟨m, hm⟩ : ∃ m, l.length = m + 1 := ⟨l.length - 1, by omega⟩
  have e1 := dist_hit hj hj0 n (nextH l h) h1 hn2 l.length hn1
  have e2 := dist_hit hj hj0 n (nextH l h) h1 hn2 m (by omega)
  have e3 : dist l l.length h = dist l m (nextH l h) + 1 := by
    rw [hm, dist, if_neg hp]
  rw [e3, e1, e2]; omega
theorem lates_set {l : List Fr} {h : Nat} (hh : h < l.length) (hp : (l.getD h fz).pins = 0) (hl : (l.getD h fz).late = true) : lates (l.set h { l.getD h fz with late := false }) + 1 = lates l := by
  unfold lates
  have e : l.getD h fz = l[h] := by rw [List.getD_eq_getElem?_getD, List.getElem?_eq_getElem hh]; rfl
  rw [e] at hp hl ⊢
  rw [List.countP_set hh]
  simp only [hp, hl]
  have : 0 < l.countP fun f => f.pins == 0 && f.late := List.countP_pos_iff.2 ⟨l[h], List.getElem_mem hh, by simp [hp, hl]⟩
  simp
  omega
theorem meas_step {l : List Fr} {h : Nat} (hh : h < l.length) (hn : pinnedF l = false) (ht : takenF l h = false) : measF (passF l h) (nextH l h) < measF l h := by
  have hd := dist_le (passF l h) (passF l h).length (nextH l h)
  rw [passF_len] at hd
  unfold measF
  rw [passF_len]
  by_cases hp : (l.getD h fz).pins = 0
  · have hl : (l.getD h fz).late = true := by
      unfold takenF at ht
      rw [hp] at ht
      simpa using ht
    have := lates_set hh hp hl
    have e : passF l h = l.set h { l.getD h fz with late := false } := by rw [passF, if_pos hp]
    rw [e] at hd ⊢
    rw [← this, Nat.add_mul, Nat.one_mul]
    omega
  · have e : passF l h = l := by rw [passF, if_neg hp]
    rw [e]
    have := dist_step hh hn hp
    omega
theorem pinned_pass {l : List Fr} {h : Nat} : pinnedF (passF l h) = pinnedF l := by
  unfold passF
  split
  · rename_i hp
    by_cases hh : h < l.length
    · have e : l.getD h fz = l[h] := by rw [List.getD_eq_getElem?_getD, List.getElem?_eq_getElem hh]; rfl
      rw [e] at hp ⊢
      have h1 : pinnedF l = false := by
        unfold pinnedF; rw [List.all_eq_false]; exact ⟨l[h], List.getElem_mem hh, by simp [hp]⟩
      have h2 : pinnedF (l.set h { l[h] with late := false }) = false := by
        unfold pinnedF; rw [List.all_eq_false]
        exact ⟨_, List.mem_set hh _, by simp [hp]⟩
      rw [h1, h2]
    · rw [List.set_eq_of_length_le (by omega)]
  · rfl
theorem sweep_enough : ∀ (n : Nat) {l : List Fr} {h : Nat}, h < l.length → pinnedF l = false → measF l h < n → ∀ m, n ≤ m → sweepF m l h = sweepF n l h
  | 0, l, h, _, _, hm, _, _ => by omega
  | n + 1, l, h, hh, hn, hm, m, hle => by
    cases m with
    | zero => omega
    | succ m =>
      rw [sweepF, sweepF]
      cases ht : takenF l h with
      | true => rfl
      | false =>
        simp only [Bool.false_eq_true, if_false]
        exact sweep_enough n (by rw [passF_len]; exact Nat.mod_lt _ (by omega)) (by rw [pinned_pass]; exact hn) (by have := meas_step hh hn ht; omega) m (by omega)
theorem sweep_step {l : List Fr} {h : Nat} (hh : h < l.length) (hn : pinnedF l = false) (ht : takenF l h = false) : sweepF (measF (passF l h) (nextH l h) + 1) (passF l h) (nextH l h) = sweepF (measF l h + 1) l h := by
  rw [show sweepF (measF l h + 1) l h = sweepF (measF l h) (passF l h) (nextH l h) by rw [sweepF, ht]; rfl]
  have h1 := meas_step hh hn ht
  exact (sweep_enough _ (by rw [passF_len]; exact Nat.mod_lt _ (by omega)) (by rw [pinned_pass]; exact hn) (Nat.lt_succ_self _) _ (by omega)).symm

def roomF (c : CD) : CD × Option Nat :=
  match c.free with
  | i :: r => ({ c with free := r }, some i)
  | [] => if pinnedF c.fr then (c, none) else let s := sweepF (measF c.fr c.hand + 1) c.fr c.hand; ({ c with fr := s.1, hand := s.2.1 }, some s.2.2)
def getF (b : Sec) (c : CD) (k : Nat) : CD × Option Sec :=
  match findF k c.fr with
  | some i => ({ c with fr := c.fr.set i { c.fr.getD i fz with pins := (c.fr.getD i fz).pins + 1, late := true }, hits := c.hits + 1 }, some (c.fr.getD i fz).b)
  | none => match roomF c with
    | (c', none) => (c', none)
    | (c', some i) => ({ c' with fr := c'.fr.set i ⟨true, k, 1, true, b⟩, miss := c'.miss + 1 }, some b)
def leaveF (c : CD) (k : Nat) : CD × Int :=
  match findF k c.fr with
  | none => (c, 240)
  | some i => if (c.fr.getD i fz).pins = 0 then (c, 180) else ({ c with fr := c.fr.set i { c.fr.getD i fz with pins := (c.fr.getD i fz).pins - 1 } }, 0)
def forgetF (c : CD) (k : Nat) : CD × Int :=
  match findF k c.fr with
  | none => (c, 240)
  | some i => if (c.fr.getD i fz).pins > 0 then (c, 180) else ({ c with fr := c.fr.set i fz, free := c.free ++ [i] }, 0)
def heldF (c : CD) : List Int := c.fr.map fun f => if f.held then (f.sec : Int) else -1
end Go.Gk.Cch
namespace Go.Gk.Cch
open Go Go.Gk Go.Gk.Dev
def PinB (c : CD) (n : Nat) : Prop := ∀ f ∈ c.fr, f.pins ≤ n
theorem sweep_lt : ∀ (n : Nat) {l : List Fr} {h : Nat}, h < l.length → (sweepF n l h).1.length = l.length ∧ (sweepF n l h).2.2 < l.length ∧ (sweepF n l h).2.1 < l.length
  | 0, l, h, hh => ⟨rfl, hh, Nat.mod_lt _ (by omega)⟩
  | n + 1, l, h, hh => by
    rw [sweepF]
    split
    · exact ⟨rfl, hh, Nat.mod_lt _ (by omega)⟩
    · have := sweep_lt n (l := passF l h) (h := nextH l h) (by rw [passF_len]; exact Nat.mod_lt _ (by omega))
      rw [passF_len] at this
      exact this
theorem room_lt {c c1 : CD} {i : Nat} (hh : c.hand < c.fr.length) (hf : ∀ i ∈ c.free, i < c.fr.length) (h : roomF c = (c1, some i)) : i < c1.fr.length := by
  unfold roomF at h
  split at h
  · rename_i j r e
    cases h
    exact hf _ (by rw [e]; exact List.mem_cons_self ..)
  · split at h
    · cases h
    · cases h
      have := sweep_lt (measF c.fr c.hand + 1) hh
      simp only
      omega
end Go.Gk.Cch
end

section
namespace Go.Gk.Cch
open Go Go.Gk Go.Gk.Dev

theorem nodup_sub_len : ∀ {l m : List Nat}, l.Nodup → (∀ x ∈ l, x ∈ m) → l.length ≤ m.length
  | [], _, _, _ => Nat.zero_le _
  | x :: l, m, h, hs => by
    have hx := hs x (List.mem_cons_self ..)
    have := nodup_sub_len (l := l) (m := m.erase x) (List.nodup_cons.1 h).2 (fun y hy => by
      have hne : y ≠ x := fun e => (List.nodup_cons.1 h).1 (e ▸ hy)
      exact (List.mem_erase_of_ne hne).2 (hs y (List.mem_cons_of_mem _ hy)))
    rw [List.length_erase_of_mem hx] at this
    have := List.length_pos_of_mem hx
    simp only [List.length_cons]; omega

abbrev CD.at (c : CD) (i : Nat) : Fr := c.fr.getD i fz
structure Inv (cur : Nat → Sec) (N : Nat) (c : CD) : Prop where
  n1 : 1 ≤ c.fr.length
  n2 : c.fr.length ≤ 64
  hd : c.hand < c.fr.length
  fl : ∀ i ∈ c.free, i < c.fr.length
  nd : c.free.Nodup
  fh : ∀ i, i < c.fr.length → ((c.at i).held = false ↔ i ∈ c.free)
  ds : ∀ i j, i < c.fr.length → j < c.fr.length → (c.at i).held = true → (c.at j).held = true → (c.at i).sec = (c.at j).sec → i = j
  vl : ∀ i, i < c.fr.length → (c.at i).held = true → (c.at i).sec < N ∧ (c.at i).b = cur (c.at i).sec
  pz : ∀ i, i < c.fr.length → (c.at i).held = false → (c.at i).pins = 0 ∧ (c.at i).sec = 0

def pinOf (c : CD) (k : Nat) : Nat := match findF k c.fr with | some i => (c.at i).pins | none => 0
theorem at_set {l : List Fr} {i j : Nat} {f : Fr} (hi : i < l.length) : (l.set i f).getD j fz = if j = i then f else l.getD j fz := by
  simp only [List.getD_eq_getElem?_getD, List.getElem?_set]
  by_cases e : i = j
  · subst e; simp [hi]
  · rw [if_neg e, if_neg (fun h => e h.symm)]
theorem getD_get {l : List Fr} {i : Nat} (hi : i < l.length) : l.getD i fz = l[i] := by rw [List.getD_eq_getElem?_getD, List.getElem?_eq_getElem hi]; rfl
theorem findF_at {c : CD} {k i : Nat} (h : findF k c.fr = some i) : i < c.fr.length ∧ (c.at i).held = true ∧ (c.at i).sec = k := by
  obtain ⟨h1, h2, h3⟩ := findF_some h
  exact ⟨h1, by rw [CD.at, getD_get h1]; exact h2, by rw [CD.at, getD_get h1]; exact h3⟩
theorem findF_not {c : CD} {k : Nat} (h : findF k c.fr = none) {i : Nat} (hi : i < c.fr.length) (hh : (c.at i).held = true) : (c.at i).sec ≠ k := by
  intro e
  rw [CD.at, getD_get hi] at hh e
  exact findF_none h _ (List.getElem_mem hi) ⟨hh, e⟩
theorem Inv.find {cur : Nat → Sec} {N : Nat} {c : CD} (h : Inv cur N c) {k i : Nat} (hi : i < c.fr.length) (hh : (c.at i).held = true) (hs : (c.at i).sec = k) : findF k c.fr = some i := by
  cases hf : findF k c.fr with
  | none => exact absurd hs (findF_not hf hi hh)
  | some j =>
    obtain ⟨h1, h2, h3⟩ := findF_at hf
    rw [h.ds j i h1 hi h2 hh (h3.trans hs.symm)]
theorem pinOf_at {cur : Nat → Sec} {N : Nat} {c : CD} (h : Inv cur N c) {i : Nat} (hi : i < c.fr.length) (hh : (c.at i).held = true) : pinOf c (c.at i).sec = (c.at i).pins := by
  rw [pinOf, h.find hi hh rfl]
def SameB (l m : List Fr) : Prop := l.length = m.length ∧ ∀ i, (l.getD i fz).held = (m.getD i fz).held ∧ (l.getD i fz).sec = (m.getD i fz).sec ∧ (l.getD i fz).pins = (m.getD i fz).pins ∧ (l.getD i fz).b = (m.getD i fz).b
theorem SameB.refl (l : List Fr) : SameB l l := ⟨rfl, fun _ => ⟨rfl, rfl, rfl, rfl⟩⟩
theorem SameB.trans {a b c : List Fr} (h : SameB a b) (k : SameB b c) : SameB a c :=
  ⟨h.1.trans k.1, fun i => let ⟨x, y, z, w⟩ := h.2 i; let ⟨x', y', z', w'⟩ := k.2 i; ⟨x.trans x', y.trans y', z.trans z', w.trans w'⟩⟩
theorem pass_same (l : List Fr) (h : Nat) : SameB (passF l h) l := by
  unfold passF
  split
  · by_cases hh : h < l.length
    · refine ⟨by simp, fun i => ?_⟩
      rw [at_set hh]
      by_cases e : i = h
      · subst e; rw [if_pos rfl]; exact ⟨rfl, rfl, rfl, rfl⟩
      · rw [if_neg e]; exact ⟨rfl, rfl, rfl, rfl⟩
    · rw [List.set_eq_of_length_le (by omega)]; exact SameB.refl l
  · exact SameB.refl l
theorem sweep_same : ∀ (n : Nat) (l : List Fr) (h : Nat), SameB (sweepF n l h).1 l
  | 0, l, _ => SameB.refl l
  | n + 1, l, h => by
    rw [sweepF]
    split
    · exact SameB.refl l
    · exact (sweep_same n _ _).trans (pass_same l h)
theorem sweep_pins : ∀ (n : Nat) {l : List Fr} {h : Nat}, h < l.length → pinnedF l = false → measF l h < n → (l.getD (sweepF n l h).2.2 fz).pins = 0
  | 0, _, _, _, _, hm => by omega
  | n + 1, l, h, hh, hn, hm => by
    rw [sweepF]
    cases ht : takenF l h with
    | true =>
      simp only [if_true]
      unfold takenF at ht
      simp only [Bool.and_eq_true, beq_iff_eq] at ht
      exact ht.1
    | false =>
      simp only [Bool.false_eq_true, if_false]
      have := sweep_pins n (l := passF l h) (h := nextH l h) (by rw [passF_len]; exact Nat.mod_lt _ (by omega)) (by rw [pinned_pass]; exact hn) (by have := meas_step hh hn ht; omega)
      rw [((pass_same l h).2 _).2.2.1] at this
      exact this
theorem find_same {l m : List Fr} (h : SameB l m) (k : Nat) : findF k l = findF k m := by
  obtain ⟨hl, he⟩ := h
  induction l generalizing m with
  | nil => cases m with | nil => rfl | cons _ _ => simp at hl
  | cons f l ih =>
    cases m with
    | nil => simp at hl
    | cons g m =>
      have h0 := he 0
      simp only [List.getD_cons_zero] at h0
      have ih := ih (m := m) (by simpa using hl) (fun i => by have := he (i + 1); simpa only [List.getD_cons_succ] using this)
      rw [findF, findF, ih, h0.1, h0.2.1]
theorem Inv.same {cur : Nat → Sec} {N : Nat} {c c' : CD} (h : Inv cur N c) (hl : c'.fr.length = c.fr.length) (hf : c'.free = c.free) (hh : c'.hand < c.fr.length)
    (he : ∀ i, (c'.at i).held = (c.at i).held ∧ (c'.at i).sec = (c.at i).sec ∧ (c'.at i).b = (c.at i).b ∧ ((c.at i).held = false → (c'.at i).pins = (c.at i).pins)) : Inv cur N c' where
  n1 := by rw [hl]; exact h.n1
  n2 := by rw [hl]; exact h.n2
  hd := by rw [hl]; exact hh
  fl := by rw [hl, hf]; exact h.fl
  nd := by rw [hf]; exact h.nd
  fh := fun i hi => by rw [(he i).1, hf]; exact h.fh i (hl ▸ hi)
  ds := fun i j hi hj h1 h2 h3 => by rw [(he i).1] at h1; rw [(he j).1] at h2; rw [(he i).2.1, (he j).2.1] at h3; exact h.ds i j (hl ▸ hi) (hl ▸ hj) h1 h2 h3
  vl := fun i hi h1 => by rw [(he i).1] at h1; rw [(he i).2.1, (he i).2.2.1]; exact h.vl i (hl ▸ hi) h1
  pz := fun i hi h1 => by rw [(he i).1] at h1; rw [(he i).2.2.2 h1, (he i).2.1]; exact h.pz i (hl ▸ hi) h1
theorem Inv.take {cur : Nat → Sec} {N : Nat} {c c1 : CD} (h : Inv cur N c) (hl : SameB c1.fr c.fr) (hh : c1.hand < c.fr.length) {i k : Nat} (hi : i < c.fr.length) (hk : k < N) (hn : findF k c.fr = none)
    (hf : (c.free = i :: c1.free) ∨ (c.free = [] ∧ c1.free = [] ∧ (c.at i).pins = 0)) {m : Nat} (c2 : CD) (e : c2 = { c1 with fr := c1.fr.set i ⟨true, k, 1, true, cur k⟩, miss := m }) :
    Inv cur N c2 ∧ (∀ s, pinOf c2 s = if s = k then pinOf c s + 1 else pinOf c s) ∧ findF k c2.fr = some i := by
  have hi1 : i < c1.fr.length := by rw [hl.1]; exact hi
  have hlen : c2.fr.length = c.fr.length := by subst e; simp [hl.1]
  have hat : ∀ j, c2.at j = if j = i then ⟨true, k, 1, true, cur k⟩ else c1.fr.getD j fz := fun j => by subst e; exact at_set hi1
  have hsame : ∀ j, j ≠ i → (c2.at j).held = (c.at j).held ∧ (c2.at j).sec = (c.at j).sec ∧ (c2.at j).pins = (c.at j).pins ∧ (c2.at j).b = (c.at j).b := fun j hj => by
    rw [hat, if_neg hj]; exact hl.2 j
  have hself : c2.at i = ⟨true, k, 1, true, cur k⟩ := by rw [hat, if_pos rfl]
  have hfree : c2.free = c1.free := by subst e; rfl
  have hsub : ∀ j, j ≠ i → (j ∈ c1.free ↔ j ∈ c.free) := fun j hj => by
    rcases hf with hf | ⟨hf1, hf2, _⟩
    · rw [hf]; simp [hj]
    · rw [hf1, hf2]
  have hni : i ∉ c1.free := by
    rcases hf with hf | ⟨_, hf2, _⟩
    · have := h.nd; rw [hf] at this; exact (List.nodup_cons.1 this).1
    · rw [hf2]; exact List.not_mem_nil
  have hpi : (c.at i).pins = 0 := by
    rcases hf with hf | ⟨_, _, hp⟩
    · exact (h.pz i hi ((h.fh i hi).2 (by rw [hf]; exact List.mem_cons_self ..))).1
    · exact hp
  have I : Inv cur N c2 :=
  { n1 := by rw [hlen]; exact h.n1
    n2 := by rw [hlen]; exact h.n2
    hd := by rw [hlen]; subst e; exact hh
    fl := fun j hj => by
      rw [hfree] at hj; rw [hlen]
      by_cases q : j = i
      · subst q; exact absurd hj hni
      · exact h.fl j ((hsub j q).1 hj)
    nd := by
      rw [hfree]
      rcases hf with hf | ⟨_, hf2, _⟩
      · have := h.nd; rw [hf] at this; exact (List.nodup_cons.1 this).2
      · rw [hf2]; exact List.nodup_nil
    fh := fun j hj => by
      rw [hlen] at hj; rw [hfree]
      by_cases q : j = i
      · subst q; rw [hself]; exact ⟨(fun z => by cases z), fun z => absurd z hni⟩
      · rw [(hsame j q).1, hsub j q]; exact h.fh j hj
    ds := fun a b ha hb h1 h2 h3 => by
      rw [hlen] at ha hb
      by_cases qa : a = i
      · by_cases qb : b = i
        · omega
        · subst qa
          rw [hself, (hsame b qb).2.1] at h3; rw [(hsame b qb).1] at h2
          exact absurd h3.symm (findF_not hn hb h2)
      · by_cases qb : b = i
        · subst qb
          rw [hself, (hsame a qa).2.1] at h3; rw [(hsame a qa).1] at h1
          exact absurd h3 (findF_not hn ha h1)
        · rw [(hsame a qa).1] at h1; rw [(hsame b qb).1] at h2; rw [(hsame a qa).2.1, (hsame b qb).2.1] at h3
          exact h.ds a b ha hb h1 h2 h3
    vl := fun a ha h1 => by
      rw [hlen] at ha
      by_cases qa : a = i
      · subst qa; rw [hself]; exact ⟨hk, rfl⟩
      · rw [(hsame a qa).1] at h1; rw [(hsame a qa).2.1, (hsame a qa).2.2.2]; exact h.vl a ha h1
    pz := fun a ha h1 => by
      rw [hlen] at ha
      by_cases qa : a = i
      · subst qa; rw [hself] at h1; cases h1
      · rw [(hsame a qa).1] at h1; rw [(hsame a qa).2.2.1, (hsame a qa).2.1]; exact h.pz a ha h1 }
  have hfk : findF k c2.fr = some i := I.find (by rw [hlen]; exact hi) (by rw [hself]) (by rw [hself])
  refine ⟨I, fun s => ?_, hfk⟩
  by_cases q : s = k
  · subst q
    rw [if_pos rfl, pinOf, hfk, pinOf, hn]
    show (c2.at i).pins = _
    rw [hself]
  · rw [if_neg q]
    cases hs : findF s c.fr with
    | some j =>
      obtain ⟨h1, h2, h3⟩ := findF_at hs
      by_cases qj : j = i
      · subst qj
        have e1 : pinOf c s = 0 := by rw [pinOf, hs]; exact hpi
        rw [e1, pinOf]
        cases ht : findF s c2.fr with
        | none => rfl
        | some a =>
          obtain ⟨g1, g2, g3⟩ := findF_at ht
          by_cases qa : a = j
          · subst qa; rw [hself] at g3; exact absurd g3.symm q
          · rw [hlen] at g1
            rw [(hsame a qa).1] at g2; rw [(hsame a qa).2.1] at g3
            exact absurd (h.ds a j g1 h1 g2 h2 (g3.trans h3.symm)) qa
      · have : findF s c2.fr = some j := I.find (by rw [hlen]; exact h1) (by rw [(hsame j qj).1]; exact h2) (by rw [(hsame j qj).2.1]; exact h3)
        rw [pinOf, this, pinOf, hs]
        exact (hsame j qj).2.2.1
    | none =>
      have e1 : pinOf c s = 0 := by rw [pinOf, hs]
      rw [e1, pinOf]
      cases ht : findF s c2.fr with
      | none => rfl
      | some a =>
        obtain ⟨g1, g2, g3⟩ := findF_at ht
        rw [hlen] at g1
        by_cases qa : a = i
        · subst qa; rw [hself] at g3; exact absurd g3.symm q
        · rw [(hsame a qa).1] at g2; rw [(hsame a qa).2.1] at g3
          exact absurd g3 (findF_not hs g1 g2)

theorem get_some {cur : Nat → Sec} {N : Nat} {c c' : CD} {k : Nat} {b : Sec} (h : Inv cur N c) (hk : k < N) (hg : getF (cur k) c k = (c', some b)) :
    Inv cur N c' ∧ b = cur k ∧ (∀ s, pinOf c' s = if s = k then pinOf c s + 1 else pinOf c s) ∧ (∃ i, findF k c'.fr = some i) ∧ c'.fr.length = c.fr.length ∧
      (match findF k c.fr with | some _ => c'.hits = c.hits + 1 ∧ c'.miss = c.miss | none => c'.hits = c.hits ∧ c'.miss = c.miss + 1) ∧
      (c.free ≠ [] ∨ findF k c.fr ≠ none → ∀ s, s ≠ k → (findF s c'.fr = none ↔ findF s c.fr = none)) := by
  unfold getF at hg
  cases hf : findF k c.fr with
  | some i =>
    rw [hf] at hg
    cases hg
    obtain ⟨h1, h2, h3⟩ := findF_at hf
    have hat : ∀ j, ((c.fr.set i { c.fr.getD i fz with pins := (c.fr.getD i fz).pins + 1, late := true }).getD j fz) = if j = i then { c.fr.getD i fz with pins := (c.fr.getD i fz).pins + 1, late := true } else c.fr.getD j fz := fun j => at_set h1
    have hsame : SameB (c.fr.set i { c.fr.getD i fz with pins := (c.fr.getD i fz).pins, late := true }) c.fr := ⟨by simp, fun j => by
      rw [at_set h1]
      by_cases q : j = i
      · subst q; rw [if_pos rfl]; exact ⟨rfl, rfl, rfl, rfl⟩
      · rw [if_neg q]; exact ⟨rfl, rfl, rfl, rfl⟩⟩
    have hfind : ∀ s, findF s (c.fr.set i { c.fr.getD i fz with pins := (c.fr.getD i fz).pins + 1, late := true }) = findF s c.fr := by
      intro s
      have gen : ∀ (l : List Fr) (i : Nat) (f : Fr), f.held = (l.getD i fz).held → f.sec = (l.getD i fz).sec → findF s (l.set i f) = findF s l := by
        intro l
        induction l with
        | nil => intro i f _ _; rfl
        | cons g l ih =>
          intro i f e1 e2
          cases i with
          | zero => simp only [List.getD_cons_zero] at e1 e2; rw [List.set_cons_zero, findF, findF, e1, e2]
          | succ i => simp only [List.getD_cons_succ] at e1 e2; rw [List.set_cons_succ, findF, findF, ih i f e1 e2]
      exact gen c.fr i _ rfl rfl
    refine ⟨h.same (by simp) rfl h.hd (fun j => ?_), ?_, fun s => ?_, ⟨i, by rw [hfind]; exact hf⟩, by simp, ⟨rfl, rfl⟩, fun _ s _ => by rw [hfind]⟩
    · simp only [CD.at, hat]
      by_cases q : j = i
      · subst q; rw [if_pos rfl]; exact ⟨rfl, rfl, rfl, fun z => by rw [CD.at] at h2; rw [h2] at z; cases z⟩
      · rw [if_neg q]; exact ⟨rfl, rfl, rfl, fun _ => rfl⟩
    · rw [(h.vl i h1 h2).2, h3]
    · simp only [pinOf, hfind, CD.at]
      by_cases q : s = k
      · subst q
        rw [if_pos rfl, hf]
        simp only [hat, if_true]
      · rw [if_neg q]
        cases hs : findF s c.fr with
        | none => rfl
        | some j =>
          have hj : j ≠ i := by
            rintro rfl
            obtain ⟨_, _, g3⟩ := findF_at hs
            exact q (g3.symm.trans h3)
          simp only [hat, if_neg hj]
  | none =>
    rw [hf] at hg
    simp only at hg
    unfold roomF at hg
    cases hfr : c.free with
    | cons i r =>
      rw [hfr] at hg
      simp only at hg
      cases hg
      have hi := h.fl i (by rw [hfr]; exact List.mem_cons_self ..)
      obtain ⟨g1, g2, g3⟩ := h.take (c1 := { c with free := r }) (SameB.refl _) h.hd hi hk hf (.inl hfr) _ rfl
      refine ⟨g1, rfl, g2, ⟨i, g3⟩, by simp, ⟨rfl, rfl⟩, fun _ s hs => ?_⟩
      -- nothing else goes
      have hnh : (c.at i).held = false := (h.fh i hi).2 (by rw [hfr]; exact List.mem_cons_self ..)
      constructor
      · intro z
        cases q : findF s c.fr with
        | none => rfl
        | some j =>
          obtain ⟨y1, y2, y3⟩ := findF_at q
          have hj : j ≠ i := by rintro rfl; rw [hnh] at y2; cases y2
          have e : (c.fr.set i ⟨true, k, 1, true, cur k⟩).getD j fz = c.fr.getD j fz := by rw [at_set hi, if_neg hj]
          have := g1.find (k := s) (i := j) (by simpa using y1) (by simp only [CD.at]; rw [e]; exact y2) (by simp only [CD.at]; rw [e]; exact y3)
          rw [this] at z; cases z
      · intro z
        cases q : findF s (c.fr.set i ⟨true, k, 1, true, cur k⟩) with
        | none => rfl
        | some j =>
          obtain ⟨y1, y2, y3⟩ := findF_at (c := { c with free := r, fr := c.fr.set i ⟨true, k, 1, true, cur k⟩ }) q
          simp only [CD.at] at y2 y3
          rw [at_set hi] at y2 y3
          by_cases hj : j = i
          · rw [if_pos hj] at y3; exact absurd y3.symm hs
          · rw [if_neg hj] at y2 y3
            exact absurd y3 (findF_not z (by simpa using y1) y2)
    | nil =>
      rw [hfr] at hg
      simp only at hg
      cases hp : pinnedF c.fr with
      | true => rw [hp] at hg; simp only [if_true] at hg; cases hg
      | false =>
        rw [hp] at hg
        simp only [Bool.false_eq_true, if_false] at hg
        cases hg
        have hs := sweep_same (measF c.fr c.hand + 1) c.fr c.hand
        have hl := sweep_lt (measF c.fr c.hand + 1) h.hd
        have hpz := sweep_pins _ h.hd hp (Nat.lt_succ_self _)
        obtain ⟨g1, g2, g3⟩ := h.take (c1 := ⟨(sweepF (measF c.fr c.hand + 1) c.fr c.hand).1, [], (sweepF (measF c.fr c.hand + 1) c.fr c.hand).2.1, c.hits, c.miss⟩) hs hl.2.2 hl.2.1 hk hf (.inr ⟨hfr, rfl, hpz⟩) _ rfl
        exact ⟨g1, rfl, g2, ⟨_, g3⟩, by simp [hl.1], ⟨rfl, rfl⟩, fun z => by rcases z with z | z <;> exact absurd rfl z⟩
theorem get_none {cur : Nat → Sec} {N : Nat} {c c' : CD} {k : Nat} (h : Inv cur N c) (hg : getF (cur k) c k = (c', none)) : c' = c ∧ findF k c.fr = none ∧ c.free = [] ∧ pinnedF c.fr = true := by
  unfold getF at hg
  cases hf : findF k c.fr with
  | some i => rw [hf] at hg; cases hg
  | none =>
    rw [hf] at hg
    simp only at hg
    unfold roomF at hg
    cases hfr : c.free with
    | cons i r => rw [hfr] at hg; cases hg
    | nil =>
      rw [hfr] at hg
      simp only at hg
      cases hp : pinnedF c.fr with
      | true => rw [hp] at hg; simp only [if_true] at hg; cases hg; exact ⟨rfl, rfl, rfl, rfl⟩
      | false => rw [hp] at hg; simp only [Bool.false_eq_true, if_false] at hg; cases hg
theorem Inv.full {cur : Nat → Sec} {N : Nat} {c : CD} (h : Inv cur N c) (hf : c.free = []) {S : List Nat} (hS : ∀ i, i < c.fr.length → (c.at i).sec ∈ S) : c.fr.length ≤ S.length := by
  have hheld : ∀ i, i < c.fr.length → (c.at i).held = true := fun i hi => by
    cases q : (c.at i).held with
    | true => rfl
    | false => have := (h.fh i hi).1 q; rw [hf] at this; cases this
  have hn : ((List.range c.fr.length).map fun i => (c.at i).sec).Nodup := by
    refine List.pairwise_map.2 (List.Pairwise.imp_of_mem (fun {a b} ha hb hne e => hne ?_) List.nodup_range)
    exact h.ds a b (List.mem_range.1 ha) (List.mem_range.1 hb) (hheld a (List.mem_range.1 ha)) (hheld b (List.mem_range.1 hb)) e
  have := nodup_sub_len hn (m := S) (fun x hx => by
    obtain ⟨i, hi, rfl⟩ := List.mem_map.1 hx
    exact hS i (List.mem_range.1 hi))
  simpa using this
theorem leave_inv {cur : Nat → Sec} {N : Nat} {c : CD} {k : Nat} (h : Inv cur N c) (hp : pinOf c k ≠ 0) :
    Inv cur N (leaveF c k).1 ∧ (leaveF c k).2 = 0 ∧ (∀ s, pinOf (leaveF c k).1 s = if s = k then pinOf c s - 1 else pinOf c s) ∧ (leaveF c k).1.fr.length = c.fr.length ∧ (leaveF c k).1.hits = c.hits ∧ (leaveF c k).1.miss = c.miss ∧ (leaveF c k).1.free = c.free ∧
      ∀ s, findF s (leaveF c k).1.fr = findF s c.fr := by
  unfold leaveF
  cases hf : findF k c.fr with
  | none => rw [pinOf, hf] at hp; exact absurd rfl hp
  | some i =>
    have hpi : (c.fr.getD i fz).pins ≠ 0 := by rw [pinOf, hf] at hp; exact hp
    simp only [if_neg hpi]
    obtain ⟨h1, h2, h3⟩ := findF_at hf
    have hfind : ∀ s, findF s (c.fr.set i { c.fr.getD i fz with pins := (c.fr.getD i fz).pins - 1 }) = findF s c.fr := by
      intro s
      have gen : ∀ (l : List Fr) (i : Nat) (f : Fr), f.held = (l.getD i fz).held → f.sec = (l.getD i fz).sec → findF s (l.set i f) = findF s l := by
        intro l
        induction l with
        | nil => intro i f _ _; rfl
        | cons g l ih =>
          intro i f e1 e2
          cases i with
          | zero => simp only [List.getD_cons_zero] at e1 e2; rw [List.set_cons_zero, findF, findF, e1, e2]
          | succ i => simp only [List.getD_cons_succ] at e1 e2; rw [List.set_cons_succ, findF, findF, ih i f e1 e2]
      exact gen c.fr i _ rfl rfl
    refine ⟨h.same (by simp) rfl h.hd (fun j => ?_), trivial, fun s => ?_, by simp, trivial, trivial, trivial, hfind⟩
    · simp only [CD.at, at_set h1]
      by_cases q : j = i
      · subst q; rw [if_pos rfl]; exact ⟨rfl, rfl, rfl, fun z => by rw [CD.at] at h2; rw [h2] at z; cases z⟩
      · rw [if_neg q]; exact ⟨rfl, rfl, rfl, fun _ => rfl⟩
    · simp only [pinOf, hfind, CD.at]
      by_cases q : s = k
      · subst q
        rw [if_pos rfl, hf]
        simp only [at_set h1, if_true]
      · rw [if_neg q]
        cases hs : findF s c.fr with
        | none => rfl
        | some j =>
          have hj : j ≠ i := by
            rintro rfl
            obtain ⟨_, _, g3⟩ := findF_at hs
            exact q (g3.symm.trans h3)
          simp only [at_set h1, if_neg hj]
theorem inv_new (cur : Nat → Sec) (N n : Nat) (h1 : 1 ≤ n) (h2 : n ≤ 64) : Inv cur N ⟨List.replicate n fz, List.range n, 0, 0, 0⟩ := by
  have hat : ∀ i, (List.replicate n fz).getD i fz = fz := fun i => by
    rw [List.getD_eq_getElem?_getD, List.getElem?_replicate]; split <;> rfl
  exact
  { n1 := by simpa using h1
    n2 := by simpa using h2
    hd := by simp only [List.length_replicate]; omega
    fl := fun i hi => by simpa using hi
    nd := List.nodup_range
    fh := fun i hi => by simp only [CD.at, hat]; simp at hi; simpa [fz] using hi
    ds := fun i j _ _ hh _ _ => by simp only [CD.at, hat] at hh; cases hh
    vl := fun i _ hh => by simp only [CD.at, hat] at hh; cases hh
    pz := fun i _ _ => by simp only [CD.at, hat]; exact ⟨rfl, rfl⟩ }
theorem find_new (n k : Nat) : findF k (List.replicate n fz) = none := by
  induction n with
  | zero => rfl
  | succ n ih => rw [List.replicate_succ, findF, ih]; simp [fz]
theorem pin_new (n k : Nat) : pinOf ⟨List.replicate n fz, List.range n, 0, 0, 0⟩ k = 0 := by rw [pinOf]; simp only [find_new]
theorem Inv.sec_le {cur : Nat → Sec} {N : Nat} {c : CD} (h : Inv cur N c) (hN : N ≤ 8192) : ∀ f ∈ c.fr, f.sec ≤ 8192 := by
  intro f hf
  obtain ⟨i, hi, rfl⟩ := List.getElem_of_mem hf
  have e : c.at i = c.fr[i] := getD_get hi
  cases q : (c.at i).held with
  | true => have := (h.vl i hi q).1; rw [e] at this; omega
  | false => have := (h.pz i hi q).2; rw [e] at this; omega
theorem Inv.held {cur : Nat → Sec} {N : Nat} {c : CD} (h : Inv cur N c) : ∀ i (hi : i < (heldF c).length), (heldF c)[i] < N ∧ (∀ j (hj : j < i), 0 ≤ (heldF c)[i] → (heldF c)[j] ≠ (heldF c)[i]) := by
  have hlen : (heldF c).length = c.fr.length := by simp [heldF]
  have hget : ∀ i (hi : i < (heldF c).length), (heldF c)[i] = if (c.at i).held then ((c.at i).sec : Int) else -1 := fun i hi => by
    have e : c.at i = c.fr[i]'(hlen ▸ hi) := getD_get _
    rw [e]; simp [heldF]
  intro i hi
  rw [hget i hi]
  cases q : (c.at i).held with
  | false => exact ⟨by simp only [Bool.false_eq_true, if_false]; omega, fun j _ z => by simp at z⟩
  | true =>
    refine ⟨by simp only [if_true]; have := (h.vl i (hlen ▸ hi) q).1; omega, fun j hj _ e => ?_⟩
    rw [hget j (by omega)] at e
    cases q' : (c.at j).held with
    | false => rw [q'] at e; simp at e
    | true =>
      rw [q'] at e
      simp only [if_true] at e
      have := h.ds j i (by omega) (hlen ▸ hi) q' q (by omega)
      omega
theorem pinB_of {cur : Nat → Sec} {N : Nat} {c : CD} (h : Inv cur N c) {m : Nat} (hp : ∀ s, pinOf c s ≤ m) : ∀ f ∈ c.fr, f.pins ≤ m := by
  intro f hf
  obtain ⟨i, hi, rfl⟩ := List.getElem_of_mem hf
  have e : c.at i = c.fr[i] := getD_get hi
  cases q : (c.at i).held with
  | true => have := pinOf_at h hi q; have := hp (c.at i).sec; rw [← e]; omega
  | false => have := (h.pz i hi q).1; rw [e] at this; omega
theorem find_set0 {cur : Nat → Sec} {N : Nat} {c : CD} (h : Inv cur N c) {k i : Nat} (hf : findF k c.fr = some i) (s : Nat) : findF s (c.fr.set i fz) = if s = k then none else findF s c.fr := by
  obtain ⟨h1, h2, h3⟩ := findF_at hf
  have gen : ∀ (l : List Fr) (i : Nat), i < l.length → (∀ j, j < l.length → j ≠ i → ¬ ((l.getD j fz).held = true ∧ (l.getD j fz).sec = k)) → (l.getD i fz).sec = k → findF s (l.set i fz) = if s = k then none else findF s l := by
    intro l
    induction l with
    | nil => intro i hi; simp at hi
    | cons g l ih =>
      intro i hi hj hk
      cases i with
      | zero =>
        simp only [List.getD_cons_zero] at hk
        rw [List.set_cons_zero, findF, if_neg (by simp [fz]), findF]
        by_cases q : s = k
        · subst q
          rw [if_pos rfl]
          cases hs : findF s l with
          | none => rfl
          | some j =>
            obtain ⟨g1, g2, g3⟩ := findF_some hs
            refine absurd ?_ (hj (j + 1) (by simpa using g1) (by omega))
            rw [List.getD_cons_succ, getD_get g1]
            exact ⟨g2, g3⟩
        · rw [if_neg q, if_neg (fun z => q (z.2.symm.trans hk))]
      | succ i =>
        simp only [List.getD_cons_succ] at hk
        have h0 := hj 0 (by simp) (by omega)
        simp only [List.getD_cons_zero] at h0
        rw [List.set_cons_succ, findF, findF, ih i (by simpa using hi) (fun j g1 g2 => by have := hj (j + 1) (by simpa using g1) (by omega); simpa only [List.getD_cons_succ] using this) hk]
        by_cases q : s = k
        · subst q; rw [if_pos rfl, if_neg h0, if_pos rfl]; rfl
        · rw [if_neg q, if_neg q]
  refine gen c.fr i h1 (fun j hj hne z => hne ?_) h3
  exact h.ds j i hj h1 z.1 h2 (z.2.trans h3.symm)
theorem forget_done {cur : Nat → Sec} {N : Nat} {c : CD} {k i : Nat} (h : Inv cur N c) (hf : findF k c.fr = some i) (hp : pinOf c k = 0) :
    forgetF c k = ({ c with fr := c.fr.set i fz, free := c.free ++ [i] }, 0) ∧ Inv cur N (forgetF c k).1 ∧ (∀ s, findF s (forgetF c k).1.fr = if s = k then none else findF s c.fr) ∧ (∀ s, pinOf (forgetF c k).1 s = pinOf c s) := by
  obtain ⟨h1, h2, h3⟩ := findF_at hf
  have hpi : (c.fr.getD i fz).pins = 0 := by rw [pinOf, hf] at hp; exact hp
  have e : forgetF c k = ({ c with fr := c.fr.set i fz, free := c.free ++ [i] }, 0) := by unfold forgetF; rw [hf]; simp only; rw [if_neg (by omega)]
  have hni : i ∉ c.free := fun z => by rw [(h.fh i h1).2 z] at h2; cases h2
  rw [e]
  have hat : ∀ j, (c.fr.set i fz).getD j fz = if j = i then fz else c.fr.getD j fz := fun j => at_set h1
  have I : Inv cur N { c with fr := c.fr.set i fz, free := c.free ++ [i] } :=
  { n1 := by simpa using h.n1
    n2 := by simpa using h.n2
    hd := by simpa using h.hd
    fl := fun j hj => by
      simp only [List.length_set]
      rcases List.mem_append.1 hj with hj | hj
      · exact h.fl j hj
      · rw [List.mem_singleton.1 hj]; exact h1
    nd := by
      rw [List.nodup_append]
      exact ⟨h.nd, by simp, fun a ha b hb z => by rw [List.mem_singleton.1 hb] at z; exact hni (z ▸ ha)⟩
    fh := fun j hj => by
      simp only [List.length_set] at hj
      simp only [CD.at, hat, List.mem_append, List.mem_singleton]
      by_cases q : j = i
      · subst q; simp [fz]
      · rw [if_neg q]
        have := h.fh j hj
        simp only [CD.at] at this
        rw [this]; simp [q]
    ds := fun a b ha hb g1 g2 g3 => by
      simp only [List.length_set] at ha hb
      simp only [CD.at, hat] at g1 g2 g3
      by_cases qa : a = i
      · rw [if_pos qa] at g1; cases g1
      · by_cases qb : b = i
        · rw [if_pos qb] at g2; cases g2
        · rw [if_neg qa] at g1 g3; rw [if_neg qb] at g2 g3
          exact h.ds a b ha hb g1 g2 g3
    vl := fun a ha g1 => by
      simp only [List.length_set] at ha
      simp only [CD.at, hat] at g1 ⊢
      by_cases qa : a = i
      · rw [if_pos qa] at g1; cases g1
      · rw [if_neg qa] at g1 ⊢; exact h.vl a ha g1
    pz := fun a ha g1 => by
      simp only [List.length_set] at ha
      simp only [CD.at, hat] at g1 ⊢
      by_cases qa : a = i
      · rw [if_pos qa]; exact ⟨rfl, rfl⟩
      · rw [if_neg qa] at g1 ⊢; exact h.pz a ha g1 }
  refine ⟨rfl, I, fun s => find_set0 h hf s, fun s => ?_⟩
  simp only [pinOf]
  rw [find_set0 h hf s]
  by_cases q : s = k
  · subst q; rw [if_pos rfl, hf]; exact hpi.symm
  · rw [if_neg q]
    cases hs : findF s c.fr with
    | none => rfl
    | some j =>
      obtain ⟨g1, g2, g3⟩ := findF_at hs
      have hj : j ≠ i := by rintro rfl; exact q (g3.symm.trans h3)
      simp only [CD.at, hat, if_neg hj]
theorem free_lt {cur : Nat → Sec} {N : Nat} {c : CD} {k i : Nat} (h : Inv cur N c) (hf : findF k c.fr = some i) : c.free.length < c.fr.length := by
  obtain ⟨h1, h2, h3⟩ := findF_at hf
  have hni : i ∉ c.free := fun z => by rw [(h.fh i h1).2 z] at h2; cases h2
  have := nodup_sub_len (l := i :: c.free) (m := List.range c.fr.length) (List.nodup_cons.2 ⟨hni, h.nd⟩) (fun x hx => by
    rcases List.mem_cons.1 hx with rfl | hx
    · exact List.mem_range.2 h1
    · exact List.mem_range.2 (h.fl x hx))
  simp only [List.length_cons, List.length_range] at this; omega
end Go.Gk.Cch
end

section
namespace Go.Gk.Pgr
open Go Go.Gk Go.Gk.Dev Go.Gk.Cch

structure PD where
  frm : Nat
  kinds : List Int
  fb : Nat → Sec
  syn : List Sec
  round : Nat
  tc : Nat
abbrev PD.kd (s : PD) (i : Nat) : Int := s.kinds.getD i 0
def PD.kind (s : PD) (k : Int) : Int := if (s.frm : Int) ≤ k ∧ k < (s.frm : Int) + s.kinds.length then s.kd (k - s.frm).toNat else -1
def setB (fb : Nat → Sec) (i : Nat) (b : Sec) : Nat → Sec := fun j => if j = i then b else fb j
def place0 (x : Int) : List Int → Option Nat
  | [] => none
  | y :: l => if x = y then some 0 else (place0 x l).map (· + 1)
def PD.takeAt (s : PD) (i : Nat) : PD := { s with kinds := s.kinds.set i 1, fb := setB s.fb i zsec }
def PD.take (s : PD) : Option (Nat × PD) := (place0 0 s.kinds).map fun i => (s.frm + i, s.takeAt i)
def PD.put (s : PD) (k : Int) (b : Sec) : PD × Int := if s.kind k = 1 then (if b.length = 256 then ({ s with fb := setB s.fb (k - s.frm).toNat b }, 0) else (s, 2)) else (s, 240)
def PD.get (s : PD) (k : Int) : PD × Option Sec :=
  if s.kind k = 1 then ({ s with tc := s.tc + 1 }, some (s.fb (k - s.frm).toNat)) else if s.kind k = 2 then ({ s with tc := s.tc + 1 }, some (s.syn.getD k.toNat [])) else (s, none)
def PD.drop (s : PD) (k : Int) : PD × Int :=
  if s.kind k = 1 then ({ s with kinds := s.kinds.set (k - s.frm).toNat 0 }, 0) else if s.kind k = 2 then ({ s with kinds := s.kinds.set (k - s.frm).toNat 3 }, 0) else (s, 240)
def PD.writes (s : PD) : Nat → List (Nat × Sec)
  | 0 => []
  | n + 1 => s.writes n ++ (if s.kd n = 1 then [(s.frm + n, s.fb n)] else [])
def PD.flush (s : PD) : PD := { s with syn := synced (s.writes s.kinds.length) s.syn }
def doneK (x : Int) : Int := if x = 3 then 0 else if x = 1 then 2 else x
def PD.done (s : PD) : PD := { s with kinds := s.kinds.map doneK, round := s.round + 1 }
structure MD where
  kinds : List Int
  fb : Nat → Sec
  round : Nat
def PD.mark (s : PD) : MD := ⟨s.kinds, s.fb, s.round⟩
def PD.back (s : PD) (m : MD) : PD := { s with kinds := m.kinds, fb := m.fb }
def PD.free (s : PD) : Nat := s.kinds.countP (· == 0)
def oldsF (frm : Nat) : List Int → Nat → List Int
  | [], _ => []
  | x :: l, i => if x = 2 then ((frm + i : Nat) : Int) :: oldsF frm l (i + 1) else oldsF frm l (i + 1)
def PD.olds (s : PD) : List Int := oldsF s.frm s.kinds 0

structure Good (s : PD) : Prop where
  one : 1 ≤ s.kinds.length
  len : s.kinds.length ≤ 8192
  inn : s.frm + s.kinds.length ≤ s.syn.length
  syn : s.syn.length ≤ 8192
  kd : ∀ i, 0 ≤ s.kd i ∧ s.kd i ≤ 3
structure CacheOk (s : PD) (c : CD) : Prop where
  inv : Inv (fun k => s.syn.getD k []) s.syn.length c
  zer : ∀ k, pinOf c k = 0
  hold : ∀ k, findF k c.fr ≠ none → s.frm ≤ k ∧ k < s.frm + s.kinds.length ∧ 2 ≤ s.kd (k - s.frm)

theorem place0_some {x : Int} : ∀ {l : List Int} {i : Nat}, place0 x l = some i → ∃ h : i < l.length, l[i] = x
  | y :: l, i, h => by
    rw [place0] at h
    split at h
    · rename_i e; cases h; exact ⟨by simp, by simp [e]⟩
    · cases q : place0 x l with
      | none => rw [q] at h; cases h
      | some j =>
        rw [q] at h; cases h
        obtain ⟨h1, h2⟩ := place0_some q
        exact ⟨by simpa using h1, by simpa using h2⟩
theorem place0_drop {x : Int} {l : List Int} {i : Nat} (hi : i < l.length) : place0 x (l.drop i) = if x = l[i] then some 0 else (place0 x (l.drop (i + 1))).map (· + 1) := by
  rw [List.drop_eq_getElem_cons hi]; rfl
theorem kd_get {s : PD} {i : Nat} (h : i < s.kinds.length) : s.kd i = s.kinds[i] := by rw [PD.kd, List.getD_eq_getElem?_getD, List.getElem?_eq_getElem h]; rfl
theorem kd_out {s : PD} {i : Nat} (h : s.kinds.length ≤ i) : s.kd i = 0 := by rw [PD.kd, List.getD_eq_getElem?_getD, List.getElem?_eq_none h]; rfl
theorem getD_set {l : List Int} {i j : Nat} {x : Int} (hi : i < l.length) : (l.set i x).getD j 0 = if j = i then x else l.getD j 0 := by
  simp only [List.getD_eq_getElem?_getD, List.getElem?_set]
  by_cases e : i = j
  · subst e; simp [hi]
  · rw [if_neg e, if_neg (fun h => e h.symm)]
theorem kind_in {s : PD} {k : Int} {x : Int} (h : s.kind k = x) (hx : 0 ≤ x) : ∃ i, i < s.kinds.length ∧ k = ((s.frm + i : Nat) : Int) ∧ s.kd i = x ∧ (k - s.frm).toNat = i := by
  unfold PD.kind at h
  split at h
  · rename_i e
    exact ⟨(k - s.frm).toNat, by omega, by omega, h, rfl⟩
  · omega
theorem kind_at {s : PD} {i : Nat} (hi : i < s.kinds.length) : s.kind ((s.frm + i : Nat) : Int) = s.kd i := by
  unfold PD.kind
  rw [if_pos (by omega)]
  congr 1; omega
theorem Good.kds {s : PD} (h : Good s) {ks : List Int} {i : Nat} {x : Int} (e : ks = s.kinds.set i x) (h0 : 0 ≤ x) (h3 : x ≤ 3) : Good { s with kinds := ks } := by
  subst e
  refine ⟨by simpa using h.one, by simpa using h.len, by simpa using h.inn, h.syn, fun j => ?_⟩
  simp only [PD.kd]
  by_cases hi : i < s.kinds.length
  · rw [getD_set hi]
    split
    · omega
    · exact h.kd j
  · rw [List.set_eq_of_length_le (by omega)]; exact h.kd j
def Og (l m : List Int) : Prop := l.length = m.length ∧ ∀ i, 2 ≤ l.getD i 0 ↔ 2 ≤ m.getD i 0
theorem Og.refl (l : List Int) : Og l l := ⟨rfl, fun _ => Iff.rfl⟩
theorem Og.trans {a b c : List Int} (h : Og a b) (k : Og b c) : Og a c := ⟨h.1.trans k.1, fun i => (h.2 i).trans (k.2 i)⟩
theorem Og.symm {a b : List Int} (h : Og a b) : Og b a := ⟨h.1.symm, fun i => (h.2 i).symm⟩
theorem Og.set {l : List Int} {i : Nat} {x : Int} (h : 2 ≤ x ↔ 2 ≤ l.getD i 0) : Og (l.set i x) l := by
  refine ⟨by simp, fun j => ?_⟩
  by_cases hi : i < l.length
  · rw [getD_set hi]
    by_cases e : j = i
    · subst e; rw [if_pos rfl]; exact h
    · rw [if_neg e]
  · rw [List.set_eq_of_length_le (by omega)]
theorem CacheOk.og {s : PD} {c : CD} (h : CacheOk s c) {ks : List Int} (ho : Og ks s.kinds) : CacheOk { s with kinds := ks } c :=
  ⟨h.inv, h.zer, fun k hk => by
    obtain ⟨h1, h2, h3⟩ := h.hold k hk
    exact ⟨h1, by rw [ho.1]; exact h2, (ho.2 _).2 h3⟩⟩
theorem getF_shape {b b' : Sec} {c c' : CD} {k : Nat} (hf : ∀ i ∈ c.free, i < c.fr.length) (hh : c.hand < c.fr.length) (h : getF b c k = (c', some b')) : ∃ m i f, c'.fr = m.set i f ∧ SameB m c.fr ∧ i < m.length ∧ f.sec = k := by
  unfold getF at h
  cases hq : findF k c.fr with
  | some i =>
    rw [hq] at h
    cases h
    obtain ⟨h1, h2, h3⟩ := findF_at hq
    exact ⟨c.fr, i, _, rfl, SameB.refl _, h1, h3⟩
  | none =>
    rw [hq] at h
    simp only at h
    cases hr : roomF c with
    | mk c1 o =>
    rw [hr] at h
    cases o with
    | none => cases h
    | some i =>
      cases h
      have hi := room_lt hh hf hr
      refine ⟨c1.fr, i, _, rfl, ?_, hi, rfl⟩
      unfold roomF at hr
      split at hr
      · cases hr; exact SameB.refl _
      · split at hr
        · cases hr
        · cases hr; exact sweep_same _ _ _
theorem get_sub {cur : Nat → Sec} {N : Nat} {c c' : CD} {k : Nat} {b b' : Sec} (h : Inv cur N c) (hg : getF b c k = (c', some b')) {s : Nat} (hs : s ≠ k) (hn : findF s c.fr = none) : findF s c'.fr = none := by
  obtain ⟨m, i, f, e1, e2, e3, e4⟩ := getF_shape h.fl h.hd hg
  cases q : findF s c'.fr with
  | none => rfl
  | some j =>
    obtain ⟨g1, g2, g3⟩ := findF_at q
    simp only [CD.at, e1] at g1 g2 g3
    rw [at_set e3] at g2 g3
    by_cases hj : j = i
    · rw [if_pos hj] at g3; exact absurd (g3.symm.trans e4) hs
    · rw [if_neg hj] at g2 g3
      rw [(e2.2 j).1] at g2; rw [(e2.2 j).2.1] at g3
      exact absurd g3 (findF_not hn (by rw [← e2.1]; simpa using g1) g2)
theorem CacheOk.get {s : PD} {c : CD} (h : CacheOk s c) {k : Nat} (hk : k < s.syn.length) (h1 : s.frm ≤ k) (h2 : k < s.frm + s.kinds.length) (h3 : 2 ≤ s.kd (k - s.frm)) :
    ∃ c', getF (s.syn.getD k []) c k = (c', some (s.syn.getD k [])) ∧ PinB c 4611686018427387904 ∧ PinB c' 4611686018427387904 ∧ (leaveF c' k).2 = 0 ∧ CacheOk s (leaveF c' k).1 := by
  have hpb : ∀ {c : CD} {n : Nat}, Inv (fun k => s.syn.getD k []) s.syn.length c → (∀ s, pinOf c s ≤ n) → n ≤ 1000 → PinB c 4611686018427387904 := fun hi hz hn f hf => by
    have := pinB_of hi hz f hf; omega
  cases hr : getF (s.syn.getD k []) c k with
  | mk c' o =>
  cases o with
  | none =>
    obtain ⟨-, g2, g3, g4⟩ := get_none (cur := fun k => s.syn.getD k []) h.inv hr
    exfalso
    have h0 := h.inv.n1
    have hheld : (c.at 0).held = true := by
      cases q : (c.at 0).held with
      | true => rfl
      | false => have := (h.inv.fh 0 h0).1 q; rw [g3] at this; cases this
    have e := pinOf_at h.inv h0 hheld
    rw [h.zer] at e
    have := List.all_eq_true.1 g4 _ (List.getElem_mem h0)
    rw [show c.at 0 = c.fr[0] from getD_get h0] at e
    simp [← e] at this
  | some b' =>
    obtain ⟨g1, rfl, g3, g4, g5, g6, g7⟩ := get_some (cur := fun k => s.syn.getD k []) h.inv hk hr
    obtain ⟨q1, q2, q3, q4, q5, q6, q7, q8⟩ := leave_inv g1 (k := k) (by rw [g3, if_pos rfl]; omega)
    refine ⟨c', rfl, hpb h.inv (n := 0) (fun s => by rw [h.zer]; omega) (by omega), hpb g1 (n := 1) (fun s => by rw [g3, h.zer]; split <;> omega) (by omega), q2, q1, fun s => ?_, fun t ht => ?_⟩
    · rw [q3, g3, h.zer]; split <;> omega
    · rw [q8] at ht
      by_cases e : t = k
      · subst e; exact ⟨h1, h2, h3⟩
      · exact h.hold t (fun z => ht (get_sub h.inv hr e z))
end Go.Gk.Pgr
namespace Go.Gk.Pgr
open Go Go.Gk Go.Gk.Dev Go.Gk.Cch
theorem get_put {ν : Type} {k k' : Int} {v : ν} {c : Nat} : ∀ {ms : List (Int × ν × Nat)}, mGet k' (mPut k v c ms) = if k' = k then some v else mGet k' ms
  | [] => by simp [mPut, mGet]
  | p :: ms => by
    rw [mPut]
    by_cases e : k = p.1
    · rw [if_pos e, mGet, mGet]
      by_cases q : k' = k
      · rw [if_pos (q.trans e), if_pos q]
      · rw [if_neg (fun z => q (z.trans e.symm)), if_neg q, if_neg (fun z => q (z.trans e.symm))]
    · rw [if_neg e, mGet, get_put, mGet]
      by_cases q : k' = p.1
      · rw [if_pos q, if_pos q, if_neg (fun z => e (z.symm.trans q))]
      · rw [if_neg q, if_neg q]
theorem get_del {ν : Type} {k k' : Int} (h : k' ≠ k) : ∀ {ms : List (Int × ν × Nat)}, mGet k' (mDel k ms) = mGet k' ms
  | [] => rfl
  | p :: ms => by
    rw [mDel]
    by_cases e : k = p.1
    · rw [if_pos e, mGet, if_neg (fun z => h (z.trans e.symm))]
    · rw [if_neg e, mGet, get_del h, mGet]
def PD.takeR (s : PD) : PD × Int × Int := match place0 0 s.kinds with | some i => (s.takeAt i, ((s.frm + i : Nat) : Int), 0) | none => (s, 0, 190)
theorem CacheOk.to {s s' : PD} {c : CD} (h : CacheOk s c) (h1 : s'.frm = s.frm) (h2 : s'.syn = s.syn) (ho : Og s'.kinds s.kinds) : CacheOk s' c :=
  ⟨by rw [h2]; exact h.inv, h.zer, fun k hk => by
    obtain ⟨q1, q2, q3⟩ := h.hold k hk
    rw [h1, ho.1]
    exact ⟨q1, q2, (ho.2 _).2 q3⟩⟩
theorem Good.to {s s' : PD} (h : Good s) (h1 : s'.frm = s.frm) (h2 : s'.syn.length = s.syn.length) {i : Nat} {x : Int} (e : s'.kinds = s.kinds.set i x) (h0 : 0 ≤ x) (h3 : x ≤ 3) : Good s' := by
  have g := h.kds (ks := s'.kinds) e h0 h3
  exact ⟨g.one, g.len, by rw [h1, h2]; exact g.inn, by rw [h2]; exact g.syn, g.kd⟩
theorem Good.to' {s s' : PD} (h : Good s) (h1 : s'.frm = s.frm) (h2 : s'.syn.length = s.syn.length) (e : s'.kinds = s.kinds) : Good s' :=
  ⟨by rw [e]; exact h.one, by rw [e]; exact h.len, by rw [h1, h2, e]; exact h.inn, by rw [h2]; exact h.syn, fun i => by rw [PD.kd, e]; exact h.kd i⟩
end Go.Gk.Pgr
namespace Go.Gk.Pgr
open Go Go.Gk Go.Gk.Dev Go.Gk.Cch
theorem synced_at {k : Nat} : ∀ {l : List (Nat × Sec)} {s : List Sec}, (∀ w ∈ l, w.1 ≠ k) → (synced l s).getD k [] = s.getD k []
  | [], _, _ => rfl
  | w :: l, s, h => by
    have e : synced (w :: l) s = synced l (s.set w.1 w.2) := by simp [synced]
    rw [e, synced_at (fun w' hw => h w' (List.mem_cons_of_mem _ hw)), List.getD_eq_getElem?_getD, List.getElem?_set, if_neg (h w (List.mem_cons_self ..)), ← List.getD_eq_getElem?_getD]
theorem writes_mem {s : PD} : ∀ {n : Nat} {w : Nat × Sec}, w ∈ s.writes n → ∃ i, i < n ∧ s.kd i = 1 ∧ w = (s.frm + i, s.fb i)
  | n + 1, w, h => by
    rw [PD.writes, List.mem_append] at h
    rcases h with h | h
    · obtain ⟨i, h1, h2⟩ := writes_mem h
      exact ⟨i, by omega, h2⟩
    · split at h
      · rename_i e
        rw [List.mem_singleton] at h
        exact ⟨n, by omega, e, h⟩
      · cases h
theorem writes_len {s : PD} : ∀ {n : Nat}, (s.writes n).length ≤ n
  | 0 => Nat.le_refl _
  | n + 1 => by
    have := writes_len (s := s) (n := n)
    rw [PD.writes, List.length_append]
    split <;> simp <;> omega
theorem Inv.cur_to {cur cur' : Nat → Sec} {N : Nat} {c : CD} (h : Inv cur N c) (he : ∀ k, findF k c.fr ≠ none → cur' k = cur k) : Inv cur' N c :=
  { h with vl := fun i hi hh => ⟨(h.vl i hi hh).1, by rw [(h.vl i hi hh).2, he _ (by rw [h.find hi hh rfl]; simp)]⟩ }
theorem CacheOk.flush {s : PD} {c : CD} (h : CacheOk s c) : CacheOk s.flush c := by
  refine ⟨?_, h.zer, h.hold⟩
  have hl : s.flush.syn.length = s.syn.length := synced_len _ _
  rw [hl]
  refine Inv.cur_to h.inv (fun k hk => ?_)
  obtain ⟨h1, h2, h3⟩ := h.hold k hk
  refine synced_at (fun w hw e => ?_)
  obtain ⟨i, h4, h5, rfl⟩ := writes_mem hw
  simp only at e
  rw [← e, show s.frm + i - s.frm = i by omega] at h3
  omega
theorem Good.flush {s : PD} (h : Good s) : Good s.flush := h.to' rfl (synced_len _ _) rfl
def Mid (i : Nat) (l m : List Int) : Prop := m.length = l.length ∧ ∀ j, m.getD j 0 = if j < i then doneK (l.getD j 0) else l.getD j 0
theorem Mid.zero (l : List Int) : Mid 0 l l := ⟨rfl, fun j => by rw [if_neg (by omega)]⟩
theorem Mid.next {i : Nat} {l m : List Int} (h : Mid i l m) (hi : i < l.length) : Mid (i + 1) l (m.set i (doneK (l.getD i 0))) := by
  refine ⟨by simpa using h.1, fun j => ?_⟩
  rw [getD_set (by rw [h.1]; exact hi), h.2]
  by_cases e : j = i
  · subst e; rw [if_pos rfl, if_pos (by omega)]
  · rw [if_neg e]
    by_cases q : j < i
    · rw [if_pos q, if_pos (by omega)]
    · rw [if_neg q, if_neg (by omega)]
theorem Mid.same {i : Nat} {l m : List Int} (h : Mid i l m) (hi : i < l.length) (hs : doneK (l.getD i 0) = l.getD i 0) : Mid (i + 1) l m := by
  refine ⟨h.1, fun j => ?_⟩
  rw [h.2]
  by_cases e : j = i
  · subst e; rw [if_neg (by omega), if_pos (by omega), hs]
  · by_cases q : j < i
    · rw [if_pos q, if_pos (by omega)]
    · rw [if_neg q, if_neg (by omega)]
theorem ext_getD {l m : List Int} (h : l.length = m.length) (he : ∀ j, l.getD j 0 = m.getD j 0) : l = m := by
  refine List.ext_getElem h (fun j h1 h2 => ?_)
  have := he j
  rwa [List.getD_eq_getElem?_getD, List.getD_eq_getElem?_getD, List.getElem?_eq_getElem h1, List.getElem?_eq_getElem h2] at this
theorem getD_map {l : List Int} {j : Nat} : (l.map doneK).getD j 0 = doneK (l.getD j 0) := by
  simp only [List.getD_eq_getElem?_getD, List.getElem?_map]
  cases l[j]? <;> rfl
theorem Mid.done {i : Nat} {l m : List Int} (h : Mid i l m) (hi : l.length ≤ i) : m = l.map doneK := by
  refine ext_getD (by simpa using h.1) (fun j => ?_)
  rw [h.2, getD_map]
  by_cases e : j < i
  · rw [if_pos e]
  · rw [if_neg e, List.getD_eq_getElem?_getD, List.getElem?_eq_none (by omega)]; rfl
theorem CacheOk.gone {s : PD} {c : CD} (h : CacheOk s c) {i : Nat} (hi : i < s.kinds.length) (hk : s.kd i = 3) : CacheOk { s with kinds := s.kinds.set i 0 } (forgetF c (s.frm + i)).1 := by
  have key : ∀ {c' : CD}, (∀ t, findF t c'.fr ≠ none → t ≠ s.frm + i ∧ findF t c.fr ≠ none) → ∀ t, findF t c'.fr ≠ none → s.frm ≤ t ∧ t < s.frm + (s.kinds.set i 0).length ∧ 2 ≤ (s.kinds.set i 0).getD (t - s.frm) 0 := fun hh t ht => by
    obtain ⟨h1, h2⟩ := hh t ht
    obtain ⟨h3, h4, h5⟩ := h.hold t h2
    refine ⟨h3, by simpa using h4, ?_⟩
    rw [getD_set hi, if_neg (by omega)]
    exact h5
  cases hf : findF (s.frm + i) c.fr with
  | none =>
    have e : (forgetF c (s.frm + i)).1 = c := by unfold forgetF; rw [hf]
    rw [e]
    exact ⟨h.inv, h.zer, key (fun t ht => ⟨fun q => ht (by rw [q]; exact hf), ht⟩)⟩
  | some j =>
    obtain ⟨-, h2, h3, h4⟩ := forget_done h.inv hf (h.zer _)
    exact ⟨h2, fun t => by rw [h4]; exact h.zer t, key (fun t ht => by
      rw [h3] at ht
      by_cases e : t = s.frm + i
      · rw [if_pos e] at ht; exact absurd rfl ht
      · rw [if_neg e] at ht; exact ⟨e, ht⟩)⟩
theorem CacheOk.aged {s : PD} {c : CD} (h : CacheOk s c) {i : Nat} (hi : i < s.kinds.length) : CacheOk { s with kinds := s.kinds.set i 2 } c :=
  ⟨h.inv, h.zer, fun t ht => by
    obtain ⟨h3, h4, h5⟩ := h.hold t ht
    refine ⟨h3, by simpa using h4, ?_⟩
    simp only [PD.kd]
    rw [getD_set hi]
    split
    · omega
    · exact h5⟩
end Go.Gk.Pgr
namespace Go.Gk.Pgr
theorem doneK_rng {x : Int} (h : 0 ≤ x ∧ x ≤ 3) : 0 ≤ doneK x ∧ doneK x ≤ 3 := by
  unfold doneK
  by_cases h1 : x = 3
  · rw [if_pos h1]; omega
  · rw [if_neg h1]
    by_cases h2 : x = 1
    · rw [if_pos h2]; omega
    · rw [if_neg h2]; omega
end Go.Gk.Pgr
namespace Go.Gk.Pgr
open Go Go.Gk Go.Gk.Dev Go.Gk.Cch
theorem oldsF_snoc {frm : Nat} {x : Int} : ∀ {l : List Int} {i : Nat}, oldsF frm (l ++ [x]) i = oldsF frm l i ++ (if x = 2 then [((frm + (i + l.length) : Nat) : Int)] else [])
  | [], i => by rw [List.nil_append, oldsF, oldsF]; split <;> simp [oldsF]
  | y :: l, i => by
    rw [List.cons_append, oldsF, oldsF_snoc, oldsF, List.length_cons, show i + 1 + l.length = i + (l.length + 1) by omega]
    split <;> simp
theorem oldsF_len {frm : Nat} : ∀ {l : List Int} {i : Nat}, (oldsF frm l i).length ≤ l.length
  | [], _ => Nat.le_refl _
  | y :: l, i => by
    rw [oldsF]
    have := oldsF_len (frm := frm) (l := l) (i := i + 1)
    split <;> simp only [List.length_cons] <;> omega
theorem oldsF_mem {frm : Nat} {k : Int} : ∀ {l : List Int} {i : Nat}, k ∈ oldsF frm l i ↔ ∃ j, j < l.length ∧ l.getD j 0 = 2 ∧ k = ((frm + (i + j) : Nat) : Int)
  | [], i => ⟨fun h => (by cases h), fun ⟨j, h, _⟩ => (by simp at h)⟩
  | y :: l, i => by
    rw [oldsF]
    have ih := oldsF_mem (frm := frm) (k := k) (l := l) (i := i + 1)
    constructor
    · intro h
      by_cases e : y = 2
      · rw [if_pos e, List.mem_cons] at h
        rcases h with h | h
        · exact ⟨0, by simp, by simpa using e, by rw [h]; simp⟩
        · obtain ⟨j, h1, h2, h3⟩ := ih.1 h
          exact ⟨j + 1, by simpa using h1, by simpa using h2, by rw [h3]; congr 1; omega⟩
      · rw [if_neg e] at h
        obtain ⟨j, h1, h2, h3⟩ := ih.1 h
        exact ⟨j + 1, by simpa using h1, by simpa using h2, by rw [h3]; congr 1; omega⟩
    · rintro ⟨j, h1, h2, h3⟩
      cases j with
      | zero =>
        have e : y = 2 := by simpa using h2
        rw [if_pos e, List.mem_cons]
        exact .inl (by rw [h3]; simp)
      | succ j =>
        have := ih.2 ⟨j, by simpa using h1, by simpa using h2, by rw [h3]; congr 1; omega⟩
        split
        · exact List.mem_cons_of_mem _ this
        · exact this
theorem mem_olds {s : PD} {k : Int} : k ∈ s.olds ↔ s.kind k = 2 := by
  rw [PD.olds, oldsF_mem]
  constructor
  · rintro ⟨j, h1, h2, rfl⟩
    rw [Nat.zero_add]
    rw [kind_at h1]; exact h2
  · intro h
    obtain ⟨i, h1, h2, h3, -⟩ := kind_in h (by omega)
    exact ⟨i, h1, h3, by rw [h2, Nat.zero_add]⟩
end Go.Gk.Pgr
namespace Go.Gk.Pgr
open Go Go.Gk Go.Gk.Dev Go.Gk.Cch
def lives (n : Nat) (l : List Nat) : List Int := l.foldl (fun ks k => ks.set k 2) (List.replicate n 0)
theorem lives_snoc {n k : Nat} {l : List Nat} : lives n (l ++ [k]) = (lives n l).set k 2 := by simp [lives]
theorem foldl_set_len {l : List Nat} : ∀ {ks : List Int}, (l.foldl (fun ks k => ks.set k 2) ks).length = ks.length := by
  induction l with
  | nil => intro ks; rfl
  | cons x l ih => intro ks; rw [List.foldl_cons, ih, List.length_set]
theorem lives_len {n : Nat} {l : List Nat} : (lives n l).length = n := by rw [lives, foldl_set_len, List.length_replicate]
theorem foldl_set_at {l : List Nat} {j : Nat} : ∀ {ks : List Int}, j < ks.length → (l.foldl (fun ks k => ks.set k 2) ks).getD j 0 = if j ∈ l then 2 else ks.getD j 0 := by
  induction l with
  | nil => intro ks _; simp
  | cons x l ih =>
    intro ks hj
    rw [List.foldl_cons, ih (by rw [List.length_set]; exact hj)]
    by_cases h : j ∈ l
    · rw [if_pos h, if_pos (List.mem_cons_of_mem _ h)]
    · rw [if_neg h]
      by_cases e : j = x
      · subst e; rw [getD_set hj, if_pos rfl, if_pos (List.mem_cons_self ..)]
      · rw [if_neg (by simp [e, h])]
        by_cases hx : x < ks.length
        · rw [getD_set hx, if_neg e]
        · rw [List.set_eq_of_length_le (by omega)]
theorem lives_at {n j : Nat} {l : List Nat} : (lives n l).getD j 0 = if j < n ∧ j ∈ l then 2 else 0 := by
  by_cases hj : j < n
  · rw [lives, foldl_set_at (by rw [List.length_replicate]; exact hj)]
    by_cases h : j ∈ l
    · rw [if_pos h, if_pos ⟨hj, h⟩]
    · rw [if_neg h, if_neg (fun q => h q.2), List.getD_eq_getElem?_getD, List.getElem?_replicate]; split <;> rfl
  · rw [if_neg (fun q => hj q.1), List.getD_eq_getElem?_getD, List.getElem?_eq_none (by rw [lives_len]; omega)]; rfl
theorem find_new {k m : Nat} : findF k (List.replicate m fz) = none := by
  cases h : findF k (List.replicate m fz) with
  | none => rfl
  | some i =>
    obtain ⟨h1, h2, -⟩ := findF_some h
    rw [List.getElem_replicate] at h2
    cases h2
theorem CacheOk.new {s : PD} {m : Nat} (h1 : 1 ≤ m) (h2 : m ≤ 64) : CacheOk s ⟨List.replicate m fz, List.range m, 0, 0, 0⟩ :=
  ⟨inv_new _ _ m h1 h2, fun k => by rw [pinOf, find_new], fun k hk => absurd find_new hk⟩
theorem Good.new {frm n : Nat} {l : List Nat} {fb : Nat → Sec} {syn : List Sec} (h1 : 1 ≤ n) (h2 : frm + n ≤ syn.length) (h3 : syn.length ≤ 8192) : Good ⟨frm, lives n l, fb, syn, 0, 0⟩ :=
  ⟨by rw [lives_len]; exact h1, by rw [lives_len]; omega, by rw [lives_len]; exact h2, h3, fun i => by
    show 0 ≤ (lives n l).getD i 0 ∧ (lives n l).getD i 0 ≤ 3
    rw [lives_at]; split <;> decide⟩
end Go.Gk.Pgr
end

section
namespace Go.Gk.Dev
open Go Go.Gk
attribute [local irreducible] gwp gws xwp

def g_device_Device_newest_1 : GFunX :=
 (.mk 24 []
 (.seq (.g
 (.reg false (.op false ⟨(some 4), none, (.ld none (.tmp 1))⟩
  (.op false ⟨(some 5), none, (.nilc (.tmp 4))⟩
  (.op false ⟨(some 6), none, (.fld 1 (.tmp 5))⟩
  (.op false ⟨(some 7), none, (.ld none (.tmp 6))⟩
  (.op false ⟨(some 8), none, (.len (.tmp 7))⟩
  (.op false ⟨(some 9), none, (.bin .sub (.tmp 8) (.const (.int .i64 1)))⟩
  (.op false ⟨(some 3), none, (.mv (.tmp 9))⟩ .done))))))))) (.block 0 (.loop
 (.seq (.g
 (.seq
 (.reg false (.op false ⟨(some 10), none, (.mv (.tmp 3))⟩
  (.op false ⟨(some 11), none, (.bin .geq (.tmp 10) (.const (.int .i64 0)))⟩ .done))) (.cond (.tmp 11) .skip (.exit 0))))
 (.seq (.block 1
 (.seq (.yl (.op false ⟨(some 14), none, (.mv (.tmp 0))⟩
  (.op false ⟨(some 15), none, (.ld none (.tmp 1))⟩
  (.op false ⟨(some 16), none, (.nilc (.tmp 15))⟩
  (.op false ⟨(some 17), none, (.fld 1 (.tmp 16))⟩
  (.op false ⟨(some 18), none, (.ld none (.tmp 17))⟩
  (.op false ⟨(some 19), none, (.mv (.tmp 3))⟩
  (.op false ⟨(some 20), none, (.idx 257 (.tmp 18) (.tmp 19))⟩
  (.op false ⟨(some 21), none, (.ld (some 257) (.tmp 20))⟩ .done)))))))) (some 22) (.tmp 14) [(.tmp 21)] (.op false ⟨(some 23), none, (.un .not (.tmp 22))⟩ .done)) (.g (.cond (.tmp 23) .ret .skip)))) (.g
 (.reg false (.op false ⟨(some 12), none, (.mv (.tmp 3))⟩
  (.op false ⟨(some 13), none, (.bin .sub (.tmp 12) (.const (.int .i64 1)))⟩
  (.op false ⟨(some 3), none, (.mv (.tmp 13))⟩ .done)))))))))))

theorem newest1_ok {P : Program} {f : FuncId} (hd : decx true false P f = some g_device_Device_newest_1) {D : DevD} {v : Value} {LD : List PHeap} {bb l : Nat} {rc : Loop} (J : Nat → PHeap → List PHeap → Prop) (Jf : Loop → PHeap → List PHeap → Prop) {d : PHeap} {E : List PHeap}
    (hD : Dv d D v LD) (hb : DC d bb 0 v) (h0 : J D.opn.length d E)
    (hround : ∀ i (hi : i < D.opn.length) d1 E1, Le d d1 → J (i + 1) d1 E1 → GYield P l [.agg (Value.int .i64 D.opn[i].1 :: D.opn[i].2.map byteV).toArray] d1 (sg l (.loop rc) :: E1)
      (fun u d' L' => (u = .bool true ∧ ∃ E', L' = sg l (.loop rc) :: E' ∧ J i d' E') ∨ (u = .bool false ∧ ∃ rc' E', L' = sg l (.loop rc') :: E' ∧ Jf rc' d' E'))) :
    GCall P f [.func (.yield l) #[] #[], .pointer (some ⟨bb, 0, none⟩)] d (LD ++ (sg l (.loop rc) :: E)) (Ret fun u d' L' => ∃ E' rc', L' = LD ++ (sg l (.loop rc') :: E') ∧ ((rc' = rc ∧ J 0 d' E') ∨ Jf rc' d' E')) := by
  obtain ⟨b, T, vs, vo, r, hs, ho, rfl, rfl, h3, h4, h5, h6⟩ := hD
  have hlen := h4.len_le
  obtain ⟨ao, co, rfl⟩ := h4.val
  refine GCallX_of hd (Nat.le_of_ble_eq_true rfl) ?_
  show xwp P _ _ _ _ _
  (apply x_sq; apply x_g; apply w_reg; apply w_ld; rfl; exact hc_d (by assumption); apply w_nilc; rfl; apply w_fld; rfl; apply w_ld; rfl; exact hc_i 0 rfl rfl; apply w_len; rfl; apply w_sub; rfl; rfl; omega; omega; apply w_mvi; rfl; apply w_done0; apply x_block)
  refine x_loopS (α := Nat) (fun i => [(0, .func (.yield l) #[] #[]), (1, .pointer (some ⟨bb, 0, none⟩)), (3, .int .i64 ((i : Int) - 1))])
    (fun i d' L' => Le d d' ∧ i ≤ D.opn.length ∧ ∃ E', L' = [bx b T [vs, .slice ao D.opn.length co, .int .i64 r, .int .i64 0], hs, ho] ++ (sg l (.loop rc) :: E') ∧ J i d' E') (fun i => i) D.opn.length
    ⟨rfl, rfl, rfl, trivial⟩ ⟨Le.refl d, Nat.le_refl _, E, rfl, h0⟩ ?_
  rintro i ρ d1 L1 ⟨hl1, hi, E1, rfl, hJ⟩
  replace hb := hb.mono hl1
  cases i with
  | zero =>
    (apply x_sq; apply x_g; apply w_sq; apply w_reg; apply w_mvi; rfl; apply w_geq; rfl; rfl; apply w_done0; refine w_ifdF rfl (by omega) ?_; apply w_exit)
    exact finS [] trivial (List.Sublist.refl _) ⟨E1, rc, rfl, .inl ⟨rfl, hJ⟩⟩
  | succ i =>
    obtain ⟨bo, To, lo, co', cs, e1, e2, hcl, hcs, hle, hr, -⟩ := GRow.at (by omega) h4 (show i < D.opn.length from hi)
    cases e1; subst e2
    obtain ⟨rfl, hbl⟩ := hr
    (apply x_sq; apply x_g; apply w_sq; apply w_reg; apply w_mvi; rfl; apply w_geq; rfl; rfl; apply w_done0; refine w_ifdT rfl (by omega) ?_; apply w_skip; apply x_sq; apply x_block; apply x_sq; apply x_yl; apply w_mvf; rfl; apply w_ld; rfl; exact hc_d (by assumption); apply w_nilc; rfl; apply w_fld; rfl; apply w_ld; rfl; exact hc_i 0 rfl rfl; apply w_mvi; rfl)
    refine w_idxN i rfl rfl (by omega) hi ?_
    refine w_ldC _ 2 rfl rfl hcl hcs ?_
    refine w_doneE ⟨d1, (sg l (.loop rc) :: E1) ++ [bx b T [vs, .slice (some ⟨bo, 0, none⟩) D.opn.length co, .int .i64 r, .int .i64 0], hs, bx bo To lo], Vs.perm List.perm_append_comm, ?_⟩
    refine x_yield _ _ rfl rfl rfl (hround i hi d1 E1 hl1 hJ) (fun u d2 L2 hl2 hr2 => ?_)
    rcases hr2 with ⟨rfl, E2, rfl, hJ2⟩ | ⟨rfl, rc2, E2, rfl, hJ2⟩
    · refine w_vs d2 ([bx b T [vs, .slice (some ⟨bo, 0, none⟩) D.opn.length co, .int .i64 r, .int .i64 0], hs, bx bo To lo] ++ (sg l (.loop rc) :: E2)) (Vs.perm List.perm_append_comm) ?_
      (apply w_not; rfl; apply w_done0; apply x_g; apply w_ifF; rfl; apply w_skip; apply x_g; apply w_reg; apply w_mvi; rfl; apply w_sub; rfl; rfl; omega; omega; apply w_mvi; rfl; apply w_done0)
      exact ⟨i, by omega, ⟨rfl, rfl, int_eq (by omega), trivial⟩, hl1.trans hl2, by omega, E2, rfl, hJ2⟩
    · refine w_vs d2 ([bx b T [vs, .slice (some ⟨bo, 0, none⟩) D.opn.length co, .int .i64 r, .int .i64 0], hs, bx bo To lo] ++ (sg l (.loop rc2) :: E2)) (Vs.perm List.perm_append_comm) ?_
      (apply w_not; rfl; apply w_done0; apply x_g; apply w_ifT; rfl; apply w_ret)
      exact finS [] trivial (List.Sublist.refl _) ⟨E2, rc2, rfl, .inr hJ2⟩
def g_device_Device_newest (f_device_Device_newest_1 : Nat) : GFun :=
 ⟨4, [(.tmp 2)],
 (.seq
 (.reg false (.op false ⟨(some 1), none, (.box (.tmp 0))⟩
  (.op false ⟨(some 2), none, (.mv (.const .nilFunc))⟩ .done)))
 (.seq
 (.reg false (.op false ⟨(some 3), none, (.mkf (.func f_device_Device_newest_1) [] [(.tmp 1)])⟩
  (.op false ⟨(some 2), none, (.mv (.tmp 3))⟩ .done))) .ret))⟩

theorem newest_ok {P : Program} {f f1 : FuncId} (hd : dec P f = some (g_device_Device_newest f1)) {d : PHeap} {b : Nat} : GCall P f [.pointer (some ⟨b, 0, none⟩)] d [] (Ret fun r d' L' => ∃ bb, r = .func (.func f1) #[] #[.pointer (some ⟨bb, 0, none⟩)] ∧ DC d' bb 0 (.pointer (some ⟨b, 0, none⟩)) ∧ L' = []) := by
  refine GCall_of hd (Nat.le_of_ble_eq_true rfl) ?_
  show gwp P _ _ _ _ _
  (apply w_sq; apply w_reg)
  refine w_box rfl (fun bb T => ?_)
  (apply w_mv; apply w_done0; apply w_sq; apply w_reg; apply w_mkf; apply w_mvf; rfl; apply w_done0; apply w_ret)
  refine fin1F rfl (fun d' _ hk => ⟨bb, rfl, ?_, rfl⟩)
  exact (dcs_bx (hk _ (List.mem_cons_self ..))).at (i := 0) rfl

def IterOk (P : Program) (f : FuncId) : Prop := ∃ f1, dec P f = some (g_device_Device_newest f1) ∧ decx true false P f1 = some g_device_Device_newest_1
theorem iter_ok {P : Program} {f f1 : FuncId} (hd : dec P f = some (g_device_Device_newest f1)) (h : decx true false P f1 = some g_device_Device_newest_1) : IterOk P f := ⟨f1, hd, h⟩
def DReadOk (P : Program) (f : FuncId) : Prop := ∀ {d : PHeap} {D : DevD} {v : Value} {L : List PHeap} {k : Nat}, Dv d D v L → k < D.syn.length →
  GCall P f [v, .int .i64 k] d L (Ret fun r d' L' => ∃ u, r = .tuple #[u, .int .i64 0] ∧ RBytes d' u (D.cur k) ∧ Dv d' D v L')
theorem lastW_drop {k : Nat} {l : List (Nat × Sec)} {i : Nat} (hi : i < l.length) : lastW k (l.drop i) = match lastW k (l.drop (i + 1)) with | some b => some b | none => if l[i].1 = k then some l[i].2 else none := by
  rw [List.drop_eq_getElem_cons hi]; rfl
theorem lastW_mem {k : Nat} {b : Sec} : ∀ {l : List (Nat × Sec)}, lastW k l = some b → ∃ w ∈ l, w.2 = b
  | w :: l, h => by
    rw [lastW] at h
    cases hw : lastW k l with
    | some q => rw [hw] at h; cases h; obtain ⟨x, hx, e⟩ := lastW_mem hw; exact ⟨x, List.mem_cons_of_mem _ hx, e⟩
    | none =>
      rw [hw] at h
      simp only at h
      split at h
      · cases h; exact ⟨w, List.mem_cons_self .., rfl⟩
      · cases h
theorem lastW_of_drop {k : Nat} {b : Sec} : ∀ {l : List (Nat × Sec)} {i : Nat}, lastW k (l.drop i) = some b → lastW k l = some b
  | _, 0, h => h
  | [], i + 1, h => h
  | w :: l, i + 1, h => by
    rw [List.drop_succ_cons] at h
    rw [lastW, lastW_of_drop h]
def g_device_Device_Read (f_device_Device_ready f_device_Device_newest : Nat) : GFunX :=
 (.mk 41 [(.tmp 4), (.tmp 5)]
 (.seq (.g
 (.reg false (.op false ⟨(some 3), none, (.box (.tmp 1))⟩
  (.op false ⟨(some 4), none, (.mv (.const (.slice none 0 0)))⟩
  (.op false ⟨(some 5), none, (.mv (.const (.int .i64 0)))⟩ .done)))))
 (.seq (.g
 (.seq
 (.reg false (.op false ⟨(some 9), none, (.mv (.tmp 0))⟩
  (.op false ⟨(some 10), none, (.ld none (.tmp 3))⟩
  (.op false ⟨(some 11), none, (.call f_device_Device_ready [(.tmp 9), (.tmp 10), (.const (.int .i64 256))])⟩
  (.op false ⟨(some 6), none, (.mv (.tmp 11))⟩ .done)))))
 (.seq
 (.reg false (.op false ⟨(some 12), none, (.mv (.tmp 6))⟩
  (.op false ⟨(some 13), none, (.bin .neq (.tmp 12) (.const (.int .i64 0)))⟩ .done))) (.cond (.tmp 13)
 (.seq
 (.reg false (.op false ⟨(some 14), none, (.mv (.tmp 6))⟩
  (.op false ⟨(some 4), none, (.mv (.const (.slice none 0 0)))⟩
  (.op false ⟨(some 5), none, (.mv (.tmp 14))⟩ .done)))) .ret) .skip))))
 (.seq (.g
 (.reg false (.op false ⟨(some 15), none, (.mv (.tmp 0))⟩
  (.op false ⟨(some 16), none, (.nilc (.tmp 15))⟩
  (.op false ⟨(some 17), none, (.fld 2 (.tmp 16))⟩
  (.op false ⟨(some 18), none, (.ld none (.tmp 17))⟩
  (.op false ⟨(some 19), none, (.bin .add (.tmp 18) (.const (.int .i64 1)))⟩
  (.op false ⟨(some 20), none, (.nilc (.tmp 15))⟩
  (.op false ⟨(some 21), none, (.fld 2 (.tmp 20))⟩
  (.op false ⟨none, none, (.st 1 (.tmp 21) (.tmp 19))⟩ .done))))))))))
 (.seq (.g
 (.reg true (.op true ⟨(some 22), none, (.mv (.tmp 0))⟩
  (.op true ⟨(some 23), none, (.nilc (.tmp 22))⟩
  (.op true ⟨(some 24), none, (.fld 0 (.tmp 23))⟩
  (.op true ⟨(some 25), none, (.ld none (.tmp 24))⟩
  (.op true ⟨(some 26), none, (.ld none (.tmp 3))⟩
  (.op true ⟨(some 27), none, (.idx 256 (.tmp 25) (.tmp 26))⟩
  (.op true ⟨(some 28), none, (.ld (some 256) (.tmp 27))⟩
  (.op false ⟨(some 7), none, (.alo (.agg z256.toArray))⟩
  (.bar (.op false ⟨none, none, (.st 256 (.tmp 7) (.tmp 28))⟩ .done))))))))))))
 (.seq (.seq (.g
 (.reg false (.op false ⟨(some 29), none, (.mv (.tmp 0))⟩
  (.op false ⟨(some 30), none, (.call f_device_Device_newest [(.tmp 29)])⟩ .done)))) (.block 0 (.rf (.tmp 30) [31]
 (.reg false (.op false ⟨(some 8), none, (.alo (.agg (Value.int .i64 0 :: z256).toArray))⟩
  (.op false ⟨none, none, (.st 257 (.tmp 8) (.tmp 31))⟩ .done))) (.block 1
 (.seq
 (.reg false (.op false ⟨(some 32), none, (.fld 0 (.tmp 8))⟩
  (.op false ⟨(some 33), none, (.ld none (.tmp 32))⟩
  (.op false ⟨(some 34), none, (.ld none (.tmp 3))⟩
  (.op false ⟨(some 35), none, (.bin .eql (.tmp 33) (.tmp 34))⟩ .done))))) (.cond (.tmp 35)
 (.seq
 (.reg false (.op false ⟨(some 36), none, (.fld 1 (.tmp 8))⟩
  (.op false ⟨(some 37), none, (.ld (some 256) (.tmp 36))⟩
  (.op false ⟨none, none, (.st 256 (.tmp 7) (.tmp 37))⟩ .done)))) (.exit 0)) .skip)))))) (.g
 (.seq
 (.reg false (.op false ⟨(some 38), none, (.bsl 0 1 [(.int .u8 0)] [])⟩
  (.op false ⟨(some 39), none, (.sla 256 1 (.tmp 7) none none none)⟩
  (.op false ⟨(some 40), none, (.app 1 1 [(.int .u8 0)] (.tmp 38) (.tmp 39))⟩
  (.op false ⟨(some 4), none, (.mv (.tmp 40))⟩
  (.op false ⟨(some 5), none, (.mv (.const (.int .i64 0)))⟩ .done)))))) .ret))))))))

theorem dread_ok {P : Program} {f f1 f2 : FuncId} (hd : decx false false P f = some (g_device_Device_Read f1 f2)) (h1 : DReadyOk P f1) (h2 : IterOk P f2) : DReadOk P f := by
  obtain ⟨f3, h2, h3⟩ := h2
  intro d D v L k h hk
  have h0 := h
  obtain ⟨b, T, vs, vo, r, hs, ho, rfl, rfl, g3, g4, g5, g6⟩ := h
  obtain ⟨bs, Ts, ls, cs', us, rfl, rfl, hul, hus, hsle, hrs, -⟩ := GRow.at (by omega) g3 hk
  obtain ⟨rfl, hsl⟩ := hrs
  refine GCallX_of hd (Nat.le_of_ble_eq_true rfl) ?_
  show xwp P _ _ _ _ _
  (apply x_sq; apply x_g; apply w_reg)
  refine w_box rfl (fun kb Tk => ?_)
  (apply w_mvs; rfl; apply w_mvi; rfl; apply w_done0; apply x_sq; apply x_g; apply w_sq; apply w_reg; apply w_mvp; rfl; apply w_ld; rfl; exact hc_i 0 rfl rfl)
  refine w_vs d ([bx b T [.slice (some ⟨bs, 0, none⟩) D.syn.length cs', vo, .int .i64 r, .int .i64 0], bx bs Ts ls, ho] ++ [bx kb Tk [.int .i64 k]]) (Vs.pick [1, 2, 3, 0] rfl) ?_
  refine w_read (A := [_, _, _]) (B := [_]) rfl rfl (h1 (n := 256) h0 hk rfl) ?_
  (apply w_mvi; rfl; apply w_done0; apply w_sq; apply w_reg; apply w_mvi; rfl; apply w_neq; rfl; rfl; apply w_done0; refine w_ifdF rfl (by omega) ?_; apply w_skip; apply x_sq; apply x_g; apply w_reg; apply w_mvp; rfl; apply w_nilc; rfl; apply w_fld; rfl; apply w_ld; rfl; exact hc_i 0 rfl rfl)
  refine w_addn rfl rfl (fun r2 _ => ?_)
  (apply w_nilc; rfl; apply w_fld; rfl)
  refine w_stE 0 [.slice (some ⟨bs, 0, none⟩) D.syn.length cs', vo, .int .i64 r2, .int .i64 0] rfl rfl rfl rfl (Nat.le_of_ble_eq_true rfl) rfl rfl ?_
  have hD : Dv d D (.pointer (some ⟨b, 0, none⟩)) [bx b T [.slice (some ⟨bs, 0, none⟩) D.syn.length cs', vo, .int .i64 r2, .int .i64 0], bx bs Ts ls, ho] := ⟨b, T, _, vo, r2, _, ho, rfl, rfl, g3, g4, g5, g6⟩
  (apply w_done0; apply x_sq; apply x_g; apply w_drawn; apply w_mvp; rfl; apply w_nilc; rfl; apply w_fld; rfl; apply w_ld; rfl; exact hc_i 0 rfl rfl; apply w_ld; rfl; exact hc_i 3 rfl rfl; refine w_idxN _ rfl rfl rfl (by omega) ?_)
  refine w_ldC _ 1 rfl rfl hul hus ?_
  (apply w_aloL; intro _ _; apply w_bar)
  rename_i ob Tob
  refine w_stA 4 rfl rfl rfl hul z256_len (oneCell_bytes _) ?_
  (apply w_done0)
  refine x_mid (fun ρ d2 L2 => Le d d2 ∧ SlotsAre ρ [(7, .pointer (some ⟨ob, 0, none⟩))] ∧ L2 = [bx b T [.slice (some ⟨bs, 0, none⟩) D.syn.length cs', vo, .int .i64 r2, .int .i64 0], bx bs Ts ls, ho, bx kb Tk [.int .i64 k], bx ob Tob ((D.cur k).map byteV)]) ?_ ?_
  · (apply x_sq; apply x_g; apply w_reg; apply w_mvp; rfl)
    refine w_callA (A := []) rfl rfl (newest_ok h2) (fun u d2 L2 hl2 ⟨bb, e1, e2, e3⟩ => ?_)
    subst e1; subst e3
    (apply w_done0; apply x_block)
    refine x_rf rfl (fun l rc hrec hst hpd => ?_)
    refine GCall.reorder (L1 := [bx b T [.slice (some ⟨bs, 0, none⟩) D.syn.length cs', vo, .int .i64 r2, .int .i64 0], bx bs Ts ls, ho] ++ (sg l (.loop rc) :: [bx kb Tk [.int .i64 k], bx ob Tob (D.syn[k].map byteV)])) ?_ (GCall.monoR
      (newest1_ok h3 (rc := rc) (l := l) (fun i d3 E => E = [bx kb Tk [.int .i64 k], bx ob Tob (D.syn[k].map byteV)] ∧ lastW k (D.opn.drop i) = none)
        (fun rc' d3 E => rc' = { rc with state := .done, pending := some (.exit 0) } ∧ E = [bx kb Tk [.int .i64 k], bx ob Tob ((D.cur k).map byteV)]) (hD.mono hl2) e2 ⟨rfl, by rw [List.drop_length]; rfl⟩ ?_) ?_)
    · exact (List.perm_append_comm (l₁ := [_, _, _]) (l₂ := [_])).append_right [_, _] |>.symm
    · rintro i hi d3 E3 hl3 ⟨rfl, hno⟩
      refine gyield_of hrec hst rfl ?_
      have hbl : D.opn[i].2.length = 256 := by
        obtain ⟨bo, To, lo, co', cs, e1, e2, hcl, hcs, hle, hr, -⟩ := GRow.at (by omega) g4 hi
        exact hr.2
      have hno' := lastW_drop (k := k) hi
      rw [hno] at hno'
      by_cases e : D.opn[i].1 = k
      · (apply w_reg; apply w_aloL; intro _ _)
        refine w_stA 0 rfl rfl rfl (by rw [List.length_cons, List.length_map, hbl]) (by rw [List.length_cons, z256_len]) (by rw [List.all_cons, oneCell_bytes]; rfl) ?_
        (apply w_done0; apply w_block; apply w_sq; apply w_reg; apply w_fld; rfl; apply w_ld; rfl; exact hc_i 0 rfl rfl; apply w_ld; rfl; exact hc_i 1 rfl rfl; apply w_eql; rfl; rfl; apply w_done0; refine w_ifdT rfl (by omega) ?_; apply w_sq; apply w_reg; apply w_fld; rfl)
        refine w_ldC (D.opn[i].2.map byteV) 0 rfl rfl (by rw [List.length_map]; exact hbl) (fun j u hu => by rw [Nat.add_comm]; simpa using hu) ?_
        skip
        refine w_stA 2 rfl rfl rfl (by rw [List.length_map]; exact hbl) (by rw [List.length_map]; exact hsl) (oneCell_bytes _) ?_
        refine w_doneE ⟨_, [_, _], Vs.drop (List.sublist_cons_self _ _), ?_⟩
        (apply w_exit)
        refine Or.inr ⟨rfl, _, _, rfl, rfl, ?_⟩
        rw [if_pos e] at hno'
        rw [DevD.cur, lastW_of_drop hno', Option.getD_some]
      · (apply w_reg; apply w_aloL; intro _ _)
        refine w_stA 0 rfl rfl rfl (by rw [List.length_cons, List.length_map, hbl]) (by rw [List.length_cons, z256_len]) (by rw [List.all_cons, oneCell_bytes]; rfl) ?_
        (apply w_done0; apply w_block; apply w_sq; apply w_reg; apply w_fld; rfl; apply w_ld; rfl; exact hc_i 0 rfl rfl; apply w_ld; rfl; exact hc_i 1 rfl rfl)
        refine w_vs d3 [_, _] (Vs.drop (List.sublist_cons_self _ _)) ?_
        (apply w_eql; rfl; rfl; apply w_done0; refine w_ifdF rfl (by omega) ?_; apply w_skip)
        rw [if_neg e] at hno'
        exact Or.inl ⟨rfl, _, by rw [rc_same hst hpd], rfl, hno'⟩
    · rintro u d3 L3 hl3 ⟨E', rc', rfl, h⟩
      refine ⟨d3, sg l (.loop rc') :: ([bx b T [.slice (some ⟨bs, 0, none⟩) D.syn.length cs', vo, .int .i64 r2, .int .i64 0], bx bs Ts ls, ho] ++ E'), Vs.perm ((List.perm_append_comm (l₁ := [_, _, _]) (l₂ := [_])).append_right E' |> fun p => by simpa using p), rc', _, rfl, ?_⟩
      rcases h with ⟨rfl, rfl, h⟩ | ⟨rfl, rfl⟩
      · refine ⟨(by rw [hst]; intro q; cases q), ?_⟩
        rw [hpd]
        refine ⟨hl2.trans hl3, ⟨rfl, trivial⟩, ?_⟩
        rw [DevD.cur, show lastW k D.opn = none from h, Option.getD_none, List.getD_eq_getElem?_getD, List.getElem?_eq_getElem hk]
        rfl
      · refine ⟨(fun q => by cases q), ?_⟩
        exact ⟨hl2.trans hl3, ⟨rfl, trivial⟩, rfl⟩
  · rintro ρ d2 L2 ⟨hl2, hs2, rfl⟩
    refine x_slots _ hs2 ?_
    have hcl : (D.cur k).length = 256 := by
      unfold DevD.cur
      cases hw : lastW k D.opn with
      | none => rw [Option.getD_none, List.getD_eq_getElem?_getD, List.getElem?_eq_getElem hk]; exact hsl
      | some q =>
        obtain ⟨w, hm, e⟩ := lastW_mem hw
        obtain ⟨i, hi, rfl⟩ := List.getElem_of_mem hm
        obtain ⟨bo, To, lo, co', cs, e1, e2, hcl, hcs, hle, hr, -⟩ := GRow.at (by omega) g4 hi
        rw [Option.getD_some, ← e]; exact hr.2
    (apply x_g; apply w_sq; apply w_reg)
    refine w_bsl (cs := []) (by simp) (by simp [Instr.fill, zrow]) (fun b3 T3 => ?_)
    refine w_q (v := .slice (some ⟨ob, 0, none⟩) 256 256) rfl ⟨ob, 0, 0, 256, 256, rfl, rfl, rfl⟩ ?_
    refine w_appG (R := RByte) 0 rfl rfl (GRow.lit0 (R := RByte) (sz := 1)) rfl (Src.lit (ys := D.cur k) 5 rfl hcl.symm (by simp) (oneCell_bytes _) (fun i hi => ?_)) (by omega) (by simp; omega) (by simp; omega) (fun v' h' ho' => ?_)
    · simp only [RByte, chunk, Nat.mul_one, ← List.map_drop, ← List.map_take]
      rw [List.drop_eq_getElem_cons hi]; rfl
    rw [List.nil_append] at ho'
    (apply w_mv; apply w_mvi; rfl; apply w_done0; apply w_ret)
    refine finV [v', .int .i64 0] ⟨rfl, rfl, trivial⟩ (d' := join d2 h') (L' := [bx b T [.slice (some ⟨bs, 0, none⟩) D.syn.length cs', vo, .int .i64 r2, .int .i64 0], bx bs Ts ls, ho]) ?_ ⟨v', rfl, ?_, ?_⟩
    · exact Vs.freeze.trans (Vs.drop (List.sublist_append_left [_, _, _] [_, _]))
    · exact GRow.rsl (R := RByte) ho' mono_byte (by omega) (Le.join_left _ _) (Le.join_right _ _)
    · exact (hD.mono hl2).mono (Le.join_left _ _)
end Go.Gk.Dev
end

section
namespace Go.Gk.Cch
open Go Go.Gk Go.Gk.Dev
attribute [local irreducible] gwp gws xwp

def RFr (d : PHeap) (cs : List Value) (f : Fr) : Prop := ∃ a n c, cs = [.bool f.held, .int .i64 f.sec, .int .i64 f.pins, .bool f.late, .slice a n c] ∧ RBytes d (.slice a n c) f.b
theorem mono_fr : Mono RFr := fun hl ⟨a, n, c, h1, h2⟩ => ⟨a, n, c, h1, h2.mono hl⟩
theorem cell1_fr : Cell1 RFr := fun _ _ _ h => by obtain ⟨a, n, c, rfl, _⟩ := h; rfl
def wr (n : Nat) : Int := IntKind.i64.wrap (n : Int)
theorem wr_eq {n : Nat} (h : n ≤ 9223372036854775807) : wr n = n := wrap64_eq (by omega) (by omega)
theorem wr_succ (n : Nat) : IntKind.i64.wrap (wr n + 1) = wr (n + 1) := by
  simp [wr, IntKind.wrap, IntKind.signed, IntKind.bits]; omega
section
variable {P : Program} {pan : List PanicEntry → Post} {Qn : Env → Post} {Ls L : List PHeap} {ρ : Env} {d : PHeap} {s : GS} {t : Nat} {tk : Bool}
theorem w_addc {x y : Operand} {n : Nat} (ex : ev ρ x = .int .i64 (wr n)) (ey : ev ρ y = .int .i64 1) (h : gws P pan Qn s Ls (upd ρ t (.int .i64 (wr (n + 1)))) d L) :
    gws P pan Qn (.op tk ⟨some t, none, .bin .add x y⟩ s) Ls ρ d L := w_bin (by rw [ex, ey]; simp [binV, wr_succ]) h
end
def Ca (d : PHeap) (c : CD) (dv cv : Value) (L : List PHeap) : Prop :=
  ∃ b T bf cp cb hf s r bd, cv = .pointer (some ⟨b, 0, none⟩) ∧ dv = .pointer (some ⟨bd, 0, none⟩) ∧
    L = [bx b T [dv, .slice (some ⟨bf, 0, none⟩) c.fr.length cp, .chan (some cb), .int .i64 c.hand, .int .i64 (wr c.hits), .int .i64 (wr c.miss)], hf, sg cb (.chan c.fr.length (c.free.map fun i : Nat => Value.int .i64 i).toArray false s r false)] ∧
    GRow 5 RFr d (.slice (some ⟨bf, 0, none⟩) c.fr.length cp) c.fr hf ∧ 1 ≤ c.fr.length ∧ c.fr.length ≤ 64 ∧ c.hand < c.fr.length ∧ ∀ i ∈ c.free, i < c.fr.length
theorem Ca.mono {d d' : PHeap} {c : CD} {dv cv : Value} {L : List PHeap} (h : Ca d c dv cv L) (hl : Le d d') : Ca d' c dv cv L :=
  let ⟨b, T, bf, cp, cb, hf, s, r, bd, h1, h2, h3, h4, h5⟩ := h
  ⟨b, T, bf, cp, cb, hf, s, r, bd, h1, h2, h3, GRow.mono (R := RFr) mono_fr h4 hl, h5⟩
theorem Ca.mk {d : PHeap} {c : CD} {b bf cp cb s r bd n : Nat} {T : TypeId} {hf : PHeap} (hn : c.fr.length = n) (hg : GRow 5 RFr d (.slice (some ⟨bf, 0, none⟩) n cp) c.fr hf) (h1 : 1 ≤ n) (h2 : n ≤ 64) (h3 : c.hand < n) (h4 : ∀ i ∈ c.free, i < n) :
    Ca d c (.pointer (some ⟨bd, 0, none⟩)) (.pointer (some ⟨b, 0, none⟩)) [bx b T [.pointer (some ⟨bd, 0, none⟩), .slice (some ⟨bf, 0, none⟩) n cp, .chan (some cb), .int .i64 c.hand, .int .i64 (wr c.hits), .int .i64 (wr c.miss)], hf,
      sg cb (.chan n (c.free.map fun i : Nat => Value.int .i64 i).toArray false s r false)] := by
  subst hn
  exact ⟨b, T, bf, cp, cb, hf, s, r, bd, rfl, rfl, rfl, hg, h1, h2, h3, h4⟩

def CNoneOk (P : Program) (f : FuncId) : Prop := ∀ {d : PHeap} {b bd : Nat} {T : TypeId} {l : List Value}, GRead P f [.pointer (some ⟨b, 0, none⟩)] d [bx b T (.pointer (some ⟨bd, 0, none⟩) :: l)] (.bool false)
def g_cache_Cache_none : GFun :=
 ⟨12, [(.tmp 2)],
 (.seq
 (.reg false (.op false ⟨(some 2), none, (.mv (.const (.bool false)))⟩ .done))
 (.seq
 (.reg false (.op false ⟨(some 3), none, (.mv (.tmp 0))⟩
  (.op false ⟨(some 4), none, (.eqp false (.tmp 3) (.const (.pointer none)))⟩
  (.op false ⟨(some 5), none, (.mv (.tmp 4))⟩
  (.op false ⟨(some 6), (some (5, false)), (.mv (.tmp 0))⟩
  (.op false ⟨(some 7), (some (5, false)), (.nilc (.tmp 6))⟩
  (.op false ⟨(some 8), (some (5, false)), (.fld 0 (.tmp 7))⟩
  (.op false ⟨(some 9), (some (5, false)), (.ld none (.tmp 8))⟩
  (.op false ⟨(some 10), (some (5, false)), (.eqp false (.tmp 9) (.const (.pointer none)))⟩
  (.op false ⟨(some 11), none, (.pick (.tmp 5) (.const (.bool true)) (.tmp 10))⟩
  (.op false ⟨(some 2), none, (.mv (.tmp 11))⟩ .done))))))))))) .ret))⟩

theorem cnone_ok {P : Program} {f : FuncId} (hd : dec P f = some g_cache_Cache_none) : CNoneOk P f := by
  intro d b bd T l
  refine GCall_of hd (Nat.le_of_ble_eq_true rfl) ?_
  show gwp P _ _ _ _ _
  (apply w_sq; apply w_reg; apply w_mvb; rfl; apply w_done0; apply w_sq; apply w_reg; apply w_mvp; rfl; apply w_eqpS; rfl; rfl; apply w_mvb; rfl; apply w_gT; rfl; apply w_mvp; rfl; apply w_gT; rfl; apply w_nilc; rfl; apply w_gT; rfl; apply w_fld; rfl; apply w_gT; rfl; apply w_ld; rfl; exact hc_i 0 rfl rfl; apply w_gT; rfl; apply w_eqpS; rfl; rfl; apply w_pickFb; rfl; rfl; apply w_mvb; rfl; apply w_done0; apply w_ret)
  exact finR rfl (List.Sublist.refl _)

def CFindOk (P : Program) (f : FuncId) : Prop := ∀ {d : PHeap} {b bf cp : Nat} {T : TypeId} {x0 x1 x2 x3 x4 : Value} {hf : PHeap} {fs : List Fr} {k : Nat}, GRow 5 RFr d (.slice (some ⟨bf, 0, none⟩) fs.length cp) fs hf →
  GRead P f [.pointer (some ⟨b, 0, none⟩), .int .i64 k] d [bx b T [x0, .slice (some ⟨bf, 0, none⟩) fs.length cp, x1, x2, x3, x4], hf]
    (match findF k fs with | some i => .tuple #[.pointer (some ⟨bf, i * 5, none⟩), .int .i64 i] | none => .tuple #[.pointer none, .int .i64 0])
def g_cache_Cache_find : GFun :=
 ⟨43, [(.tmp 4), (.tmp 5)],
 (.seq
 (.reg false (.op false ⟨(some 4), none, (.mv (.const (.pointer none)))⟩
  (.op false ⟨(some 5), none, (.mv (.const (.int .i64 0)))⟩ .done)))
 (.seq (.seq
 (.reg false (.op false ⟨(some 7), none, (.mv (.tmp 0))⟩
  (.op false ⟨(some 8), none, (.nilc (.tmp 7))⟩
  (.op false ⟨(some 9), none, (.fld 1 (.tmp 8))⟩
  (.op false ⟨(some 10), none, (.ld none (.tmp 9))⟩
  (.op false ⟨(some 11), none, (.len (.tmp 10))⟩
  (.op false ⟨(some 12), none, (.mv (.const (.int .i64 0)))⟩ .done))))))) (.block 0 (.loop
 (.seq
 (.reg false (.op false ⟨(some 13), none, (.bin .lss (.tmp 12) (.tmp 11))⟩ .done))
 (.seq (.cond (.tmp 13) .skip (.exit 0))
 (.seq (.block 1
 (.seq
 (.reg false (.op false ⟨(some 14), none, (.mv (.tmp 12))⟩
  (.op false ⟨(some 6), none, (.mv (.tmp 14))⟩ .done)))
 (.seq
 (.reg false (.op false ⟨(some 15), none, (.mv (.tmp 0))⟩
  (.op false ⟨(some 16), none, (.nilc (.tmp 15))⟩
  (.op false ⟨(some 17), none, (.fld 1 (.tmp 16))⟩
  (.op false ⟨(some 18), none, (.ld none (.tmp 17))⟩
  (.op false ⟨(some 19), none, (.mv (.tmp 6))⟩
  (.op false ⟨(some 20), none, (.idx 5 (.tmp 18) (.tmp 19))⟩
  (.op false ⟨(some 21), none, (.fld 0 (.tmp 20))⟩
  (.op false ⟨(some 22), none, (.ld none (.tmp 21))⟩
  (.op false ⟨(some 23), none, (.mv (.tmp 22))⟩
  (.op false ⟨(some 24), (some (23, true)), (.mv (.tmp 0))⟩
  (.op false ⟨(some 25), (some (23, true)), (.nilc (.tmp 24))⟩
  (.op false ⟨(some 26), (some (23, true)), (.fld 1 (.tmp 25))⟩
  (.op false ⟨(some 27), (some (23, true)), (.ld none (.tmp 26))⟩
  (.op false ⟨(some 28), (some (23, true)), (.mv (.tmp 6))⟩
  (.op false ⟨(some 29), (some (23, true)), (.idx 5 (.tmp 27) (.tmp 28))⟩
  (.op false ⟨(some 30), (some (23, true)), (.fld 1 (.tmp 29))⟩
  (.op false ⟨(some 31), (some (23, true)), (.ld none (.tmp 30))⟩
  (.op false ⟨(some 32), (some (23, true)), (.mv (.tmp 1))⟩
  (.op false ⟨(some 33), (some (23, true)), (.bin .eql (.tmp 31) (.tmp 32))⟩
  (.op false ⟨(some 34), none, (.pick (.tmp 23) (.tmp 33) (.const (.bool false)))⟩ .done))))))))))))))))))))) (.cond (.tmp 34)
 (.seq
 (.reg false (.op false ⟨(some 35), none, (.mv (.tmp 0))⟩
  (.op false ⟨(some 36), none, (.nilc (.tmp 35))⟩
  (.op false ⟨(some 37), none, (.fld 1 (.tmp 36))⟩
  (.op false ⟨(some 38), none, (.ld none (.tmp 37))⟩
  (.op false ⟨(some 39), none, (.mv (.tmp 6))⟩
  (.op false ⟨(some 40), none, (.idx 5 (.tmp 38) (.tmp 39))⟩
  (.op false ⟨(some 41), none, (.mv (.tmp 6))⟩
  (.op false ⟨(some 4), none, (.mv (.tmp 40))⟩
  (.op false ⟨(some 5), none, (.mv (.tmp 41))⟩ .done)))))))))) .ret) .skip))))
 (.reg false (.op false ⟨(some 42), none, (.bin .add (.tmp 12) (.const (.int .i64 1)))⟩
  (.op false ⟨(some 12), none, (.mv (.tmp 42))⟩ .done)))))))))
 (.seq
 (.reg false (.op false ⟨(some 4), none, (.mv (.const (.pointer none)))⟩
  (.op false ⟨(some 5), none, (.mv (.const (.int .i64 0)))⟩ .done))) .ret)))⟩

theorem cfind_ok {P : Program} {f : FuncId} (hd : dec P f = some g_cache_Cache_find) : CFindOk P f := by
  intro d b bf cp T x0 x1 x2 x3 x4 hf fs k h
  have hlen := h.len_le
  refine GCall_of hd (Nat.le_of_ble_eq_true rfl) ?_
  show gwp P _ _ _ _ _
  (apply w_sq; apply w_reg; apply w_mvp; rfl; apply w_mvi; rfl; apply w_done0; apply w_sq; apply w_sq; apply w_reg; apply w_mvp; rfl; apply w_nilc; rfl; apply w_fld; rfl; apply w_ld; rfl; exact hc_i 0 rfl rfl; apply w_len; rfl; apply w_mvi; rfl; apply w_done0; apply w_block)
  refine w_loopN (α := Nat) (fun i => [(0, .pointer (some ⟨b, 0, none⟩)), (1, .int .i64 k), (11, .int .i64 fs.length), (12, .int .i64 i)]) (fun _ => [bx b T [x0, .slice (some ⟨bf, 0, none⟩) fs.length cp, x1, x2, x3, x4], hf])
    (fun i => i ≤ fs.length ∧ findF k fs = (findF k (fs.drop i)).map (· + i)) (fun i => fs.length - i) 0 ⟨rfl, rfl, rfl, rfl, trivial⟩ rfl ⟨by omega, by simp⟩ ?_
  rintro i ρ ⟨hi, hF⟩
  by_cases e : i < fs.length
  · obtain ⟨b1, T1, l1, c1, cs, q1, rfl, hcl, hcs, hle, ⟨a, n, c, rfl, hb⟩, -⟩ := GRow.at (by omega) h e
    cases q1
    have c0 := hcs 0 _ rfl
    have c1 := hcs 1 _ rfl
    rw [findF_drop e] at hF
    have hnext : ¬ (fs[i].held = true ∧ fs[i].sec = k) → findF k fs = (findF k (fs.drop (i + 1))).map (· + (i + 1)) := fun q => by
      rw [hF, if_neg q, Option.map_map]; congr 1; funext x; simp only [Function.comp]; omega
    cases hh : fs[i].held with
    | false =>
      rw [hh] at c0
      (apply w_sq; apply w_reg; apply w_lss; rfl; rfl; apply w_done0; apply w_sq; refine w_ifdT rfl (by omega) ?_; apply w_skip; apply w_sq; apply w_block; apply w_sq; apply w_reg; apply w_mvi; rfl; apply w_mvi; rfl; apply w_done0; apply w_sq; apply w_reg; apply w_mvp; rfl; apply w_nilc; rfl; apply w_fld; rfl; apply w_ld; rfl; exact hc_i 0 rfl rfl; apply w_mvi; rfl; refine w_idxN _ rfl rfl rfl (by omega) ?_; apply w_fld; rfl; apply w_ld; rfl; exact hc_i 1 rfl (by assumption); apply w_mvb; rfl; apply w_gF; rfl; apply w_gF; rfl; apply w_gF; rfl; apply w_gF; rfl; apply w_gF; rfl; apply w_gF; rfl; apply w_gF; rfl; apply w_gF; rfl; apply w_gF; rfl; apply w_gF; rfl; apply w_pickFb; rfl; rfl; apply w_done0; apply w_ifF; rfl; apply w_skip; apply w_reg; apply w_add; rfl; rfl; omega; omega; apply w_mvi; rfl; apply w_done0)
      exact ⟨i + 1, by omega, ⟨rfl, rfl, rfl, rfl, trivial⟩, rfl, rfl, e, hnext (by rw [hh]; rintro ⟨q, _⟩; cases q)⟩
    | true =>
      rw [hh] at c0
      by_cases hs : fs[i].sec = k
      · (apply w_sq; apply w_reg; apply w_lss; rfl; rfl; apply w_done0; apply w_sq; refine w_ifdT rfl (by omega) ?_; apply w_skip; apply w_sq; apply w_block; apply w_sq; apply w_reg; apply w_mvi; rfl; apply w_mvi; rfl; apply w_done0; apply w_sq; apply w_reg; apply w_mvp; rfl; apply w_nilc; rfl; apply w_fld; rfl; apply w_ld; rfl; exact hc_i 0 rfl rfl; apply w_mvi; rfl; refine w_idxN _ rfl rfl rfl (by omega) ?_; apply w_fld; rfl; apply w_ld; rfl; exact hc_i 1 rfl (by assumption); apply w_mvb; rfl; apply w_gT; rfl; apply w_mvp; rfl; apply w_gT; rfl; apply w_nilc; rfl; apply w_gT; rfl; apply w_fld; rfl; apply w_gT; rfl; apply w_ld; rfl; exact hc_i 0 rfl rfl; apply w_gT; rfl; apply w_mvi; rfl; apply w_gT; rfl; refine w_idxN _ rfl rfl rfl (by omega) ?_; apply w_gT; rfl; apply w_fld; rfl; apply w_gT; rfl; apply w_ld; rfl; exact hc_i 1 rfl (by assumption); apply w_gT; rfl; apply w_mvi; rfl; apply w_gT; rfl; apply w_eql; rfl; rfl; apply w_pickTb; rfl; rfl; apply w_done0; refine w_ifdT rfl (by omega) ?_; apply w_sq; apply w_reg; apply w_mvp; rfl; apply w_nilc; rfl; apply w_fld; rfl; apply w_ld; rfl; exact hc_i 0 rfl rfl; apply w_mvi; rfl; refine w_idxN _ rfl rfl rfl (by omega) ?_; apply w_mvi; rfl; apply w_mvp; rfl; apply w_mvi; rfl; apply w_done0; apply w_ret)
        rw [show findF k fs = some i by rw [hF, if_pos ⟨hh, hs⟩, Option.map_some, Nat.zero_add]]
        exact finR2 rfl rfl (List.Sublist.refl _)
      · (apply w_sq; apply w_reg; apply w_lss; rfl; rfl; apply w_done0; apply w_sq; refine w_ifdT rfl (by omega) ?_; apply w_skip; apply w_sq; apply w_block; apply w_sq; apply w_reg; apply w_mvi; rfl; apply w_mvi; rfl; apply w_done0; apply w_sq; apply w_reg; apply w_mvp; rfl; apply w_nilc; rfl; apply w_fld; rfl; apply w_ld; rfl; exact hc_i 0 rfl rfl; apply w_mvi; rfl; refine w_idxN _ rfl rfl rfl (by omega) ?_; apply w_fld; rfl; apply w_ld; rfl; exact hc_i 1 rfl (by assumption); apply w_mvb; rfl; apply w_gT; rfl; apply w_mvp; rfl; apply w_gT; rfl; apply w_nilc; rfl; apply w_gT; rfl; apply w_fld; rfl; apply w_gT; rfl; apply w_ld; rfl; exact hc_i 0 rfl rfl; apply w_gT; rfl; apply w_mvi; rfl; apply w_gT; rfl; refine w_idxN _ rfl rfl rfl (by omega) ?_; apply w_gT; rfl; apply w_fld; rfl; apply w_gT; rfl; apply w_ld; rfl; exact hc_i 1 rfl (by assumption); apply w_gT; rfl; apply w_mvi; rfl; apply w_gT; rfl; apply w_eql; rfl; rfl; apply w_pickTb; rfl; rfl; apply w_done0; refine w_ifdF rfl (by omega) ?_; apply w_skip; apply w_reg; apply w_add; rfl; rfl; omega; omega; apply w_mvi; rfl; apply w_done0)
        exact ⟨i + 1, by omega, ⟨rfl, rfl, rfl, rfl, trivial⟩, rfl, rfl, e, hnext (by rintro ⟨_, q⟩; exact hs q)⟩
  · (apply w_sq; apply w_reg; apply w_lss; rfl; rfl; apply w_done0; apply w_sq; refine w_ifdF rfl (by omega) ?_; apply w_exit; apply w_sq; apply w_reg; apply w_mvp; rfl; apply w_mvi; rfl; apply w_done0; apply w_ret)
    have : findF k fs = none := by
      rw [hF, List.drop_of_length_le (by omega)]; rfl
    rw [this]
    exact finR2 rfl rfl (List.Sublist.refl _)

def CPinnedOk (P : Program) (f : FuncId) : Prop := ∀ {d : PHeap} {b bf cp : Nat} {T : TypeId} {x0 x1 x2 x3 x4 : Value} {hf : PHeap} {fs : List Fr}, GRow 5 RFr d (.slice (some ⟨bf, 0, none⟩) fs.length cp) fs hf →
  GRead P f [.pointer (some ⟨b, 0, none⟩)] d [bx b T [x0, .slice (some ⟨bf, 0, none⟩) fs.length cp, x1, x2, x3, x4], hf] (.bool (pinnedF fs))
theorem pinned_false {fs : List Fr} {i : Nat} (hi : i < fs.length) (h : fs[i].pins = 0) : pinnedF fs = false := by
  unfold pinnedF; rw [List.all_eq_false]; exact ⟨_, List.getElem_mem hi, by simp [h]⟩
def g_cache_Cache_pinned : GFun :=
 ⟨18, [(.tmp 2)],
 (.seq
 (.reg false (.op false ⟨(some 2), none, (.mv (.const (.bool false)))⟩ .done))
 (.seq (.seq
 (.reg false (.op false ⟨(some 5), none, (.mv (.tmp 0))⟩
  (.op false ⟨(some 6), none, (.nilc (.tmp 5))⟩
  (.op false ⟨(some 7), none, (.fld 1 (.tmp 6))⟩
  (.op false ⟨(some 8), none, (.ld none (.tmp 7))⟩
  (.op false ⟨(some 9), none, (.len (.tmp 8))⟩
  (.op false ⟨(some 10), none, (.mv (.const (.int .i64 0)))⟩ .done))))))) (.block 0 (.loop
 (.seq
 (.reg false (.op false ⟨(some 11), none, (.bin .lss (.tmp 10) (.tmp 9))⟩ .done))
 (.seq (.cond (.tmp 11) .skip (.exit 0))
 (.seq (.block 1
 (.seq
 (.reg false (.op false ⟨(some 12), none, (.idx 5 (.tmp 8) (.tmp 10))⟩
  (.op false ⟨(some 13), none, (.ld (some 5) (.tmp 12))⟩
  (.op false ⟨(some 4), none, (.alo (.agg #[(.bool false), (.int .i64 0), (.int .i64 0), (.bool false), (.slice none 0 0)]))⟩
  (.op false ⟨none, none, (.st 5 (.tmp 4) (.tmp 13))⟩ .done)))))
 (.seq
 (.reg false (.op false ⟨(some 14), none, (.fld 2 (.tmp 4))⟩
  (.op false ⟨(some 15), none, (.ld none (.tmp 14))⟩
  (.op false ⟨(some 16), none, (.bin .eql (.tmp 15) (.const (.int .i64 0)))⟩ .done)))) (.cond (.tmp 16)
 (.seq
 (.reg false (.op false ⟨(some 2), none, (.mv (.const (.bool false)))⟩ .done)) .ret) .skip))))
 (.reg false (.op false ⟨(some 17), none, (.bin .add (.tmp 10) (.const (.int .i64 1)))⟩
  (.op false ⟨(some 10), none, (.mv (.tmp 17))⟩ .done)))))))))
 (.seq
 (.reg false (.op false ⟨(some 2), none, (.mv (.const (.bool true)))⟩ .done)) .ret)))⟩

theorem cpinned_ok {P : Program} {f : FuncId} (hd : dec P f = some g_cache_Cache_pinned) : CPinnedOk P f := by
  intro d b bf cp T x0 x1 x2 x3 x4 hf fs h
  have hlen := h.len_le
  refine GCall_of hd (Nat.le_of_ble_eq_true rfl) ?_
  show gwp P _ _ _ _ _
  (apply w_sq; apply w_reg; apply w_mvb; rfl; apply w_done0; apply w_sq; apply w_sq; apply w_reg; apply w_mvp; rfl; apply w_nilc; rfl; apply w_fld; rfl; apply w_ld; rfl; exact hc_i 0 rfl rfl; apply w_len; rfl; apply w_mvi; rfl; apply w_done0; apply w_block)
  refine w_loopN (α := Nat) (fun i => [(8, .slice (some ⟨bf, 0, none⟩) fs.length cp), (9, .int .i64 fs.length), (10, .int .i64 i)]) (fun _ => [bx b T [x0, .slice (some ⟨bf, 0, none⟩) fs.length cp, x1, x2, x3, x4], hf])
    (fun i => i ≤ fs.length ∧ pinnedF (fs.take i) = true) (fun i => fs.length - i) 0 ⟨rfl, rfl, rfl, trivial⟩ rfl ⟨by omega, by simp [pinnedF]⟩ ?_
  rintro i ρ ⟨hi, hF⟩
  by_cases e : i < fs.length
  · obtain ⟨b1, T1, l1, c1, cs, q1, rfl, hcl, hcs, hle, ⟨a, n, c, rfl, hb⟩, -⟩ := GRow.at (by omega) h e
    cases q1
    (apply w_sq; apply w_reg; apply w_lss; rfl; rfl; apply w_done0; apply w_sq; refine w_ifdT rfl (by omega) ?_; apply w_skip; apply w_sq; apply w_block; apply w_sq; apply w_reg; refine w_idxN _ rfl rfl rfl (by omega) ?_)
    refine w_ldC _ 1 rfl rfl hcl hcs ?_
    (apply w_aloL; intro _ _)
    refine w_stA 0 rfl rfl rfl rfl rfl rfl ?_
    by_cases hp : fs[i].pins = 0
    · (apply w_done0; apply w_sq; apply w_reg; apply w_fld; rfl; apply w_ld; rfl; exact hc_i 0 rfl rfl; apply w_eql; rfl; rfl; apply w_done0; refine w_ifdT rfl (by omega) ?_; apply w_sq; apply w_reg; apply w_mvb; rfl; apply w_done0; apply w_ret)
      refine fin1 rfl (L' := [_, _]) (List.sublist_cons_self _ _) ⟨?_, rfl, rfl⟩
      rw [pinned_false e hp]; rfl
    · (apply w_done0; apply w_sq; apply w_reg; apply w_fld; rfl; apply w_ld; rfl; exact hc_i 0 rfl rfl)
      refine w_vs d [_, _] (Vs.drop (List.sublist_cons_self _ _)) ?_
      (apply w_eql; rfl; rfl; apply w_done0; refine w_ifdF rfl (by omega) ?_; apply w_skip; apply w_reg; apply w_add; rfl; rfl; omega; omega; apply w_mvi; rfl; apply w_done0)
      refine ⟨i + 1, by omega, ⟨rfl, rfl, rfl, trivial⟩, rfl, rfl, e, ?_⟩
      rw [List.take_succ_eq_append_getElem e]
      unfold pinnedF at hF ⊢
      rw [List.all_append, hF]
      simp [hp]
  · (apply w_sq; apply w_reg; apply w_lss; rfl; rfl; apply w_done0; apply w_sq; refine w_ifdF rfl (by omega) ?_; apply w_exit; apply w_sq; apply w_reg; apply w_mvb; rfl; apply w_done0; apply w_ret)
    rw [List.take_of_length_le (by omega)] at hF
    rw [hF]
    exact finR rfl (List.Sublist.refl _)

def CSweepOk (P : Program) (f : FuncId) : Prop := ∀ {d : PHeap} {c : CD} {dv cv : Value} {L : List PHeap}, Ca d c dv cv L → (∀ f ∈ c.fr, f.pins ≤ 4611686018427387904) →
  GCall P f [cv] d L (Ret fun r d' L' => d' = d ∧ (pinnedF c.fr = true → r = .tuple #[.int .i64 0, .bool false] ∧ L' = L) ∧
    (pinnedF c.fr = false → r = .tuple #[.int .i64 (sweepF (measF c.fr c.hand + 1) c.fr c.hand).2.2, .bool true] ∧ Ca d { c with fr := (sweepF (measF c.fr c.hand + 1) c.fr c.hand).1, hand := (sweepF (measF c.fr c.hand + 1) c.fr c.hand).2.1 } dv cv L'))
theorem passF_get {l : List Fr} {h : Nat} (hh : h < l.length) : l.getD h fz = l[h] := by rw [List.getD_eq_getElem?_getD, List.getElem?_eq_getElem hh]; rfl
def g_cache_Cache_sweep (f_cache_Cache_pinned : Nat) : GFun :=
 ⟨47, [(.tmp 2), (.tmp 3)],
 (.seq
 (.reg false (.op false ⟨(some 2), none, (.mv (.const (.int .i64 0)))⟩
  (.op false ⟨(some 3), none, (.mv (.const (.bool false)))⟩ .done)))
 (.seq (.seq
 (.reg false (.op false ⟨(some 6), none, (.mv (.tmp 0))⟩
  (.op false ⟨(some 7), none, (.call f_cache_Cache_pinned [(.tmp 6)])⟩ .done))) (.cond (.tmp 7)
 (.seq
 (.reg false (.op false ⟨(some 2), none, (.mv (.const (.int .i64 0)))⟩
  (.op false ⟨(some 3), none, (.mv (.const (.bool false)))⟩ .done))) .ret) .skip)) (.block 0 (.loop (.block 1
 (.seq
 (.reg false (.op false ⟨(some 8), none, (.mv (.tmp 0))⟩
  (.op false ⟨(some 9), none, (.nilc (.tmp 8))⟩
  (.op false ⟨(some 10), none, (.fld 3 (.tmp 9))⟩
  (.op false ⟨(some 11), none, (.ld none (.tmp 10))⟩
  (.op false ⟨(some 4), none, (.mv (.tmp 11))⟩ .done))))))
 (.seq
 (.reg true (.op true ⟨(some 12), none, (.mv (.tmp 0))⟩
  (.op true ⟨(some 13), none, (.mv (.tmp 0))⟩
  (.op true ⟨(some 14), none, (.nilc (.tmp 13))⟩
  (.op true ⟨(some 15), none, (.fld 3 (.tmp 14))⟩
  (.op true ⟨(some 18), none, (.mv (.tmp 0))⟩
  (.op true ⟨(some 19), none, (.nilc (.tmp 18))⟩
  (.op true ⟨(some 20), none, (.fld 1 (.tmp 19))⟩
  (.alt ⟨(some 16), none, (.ld none (.tmp 15))⟩
  (.op true ⟨(some 17), none, (.bin .add (.tmp 16) (.const (.int .i64 1)))⟩
  (.op false ⟨(some 21), none, (.ld none (.tmp 20))⟩
  (.op true ⟨(some 22), none, (.len (.tmp 21))⟩
  (.op true ⟨(some 23), none, (.bin .rem (.tmp 17) (.tmp 22))⟩
  (.op true ⟨(some 24), none, (.nilc (.tmp 12))⟩
  (.op true ⟨(some 25), none, (.fld 3 (.tmp 24))⟩
  (.op false ⟨none, none, (.st 1 (.tmp 25) (.tmp 23))⟩ .done))))))) (.op false ⟨(some 21), none, (.ld none (.tmp 20))⟩
  (.op true ⟨(some 22), none, (.len (.tmp 21))⟩
  (.op false ⟨(some 16), none, (.ld none (.tmp 15))⟩
  (.op true ⟨(some 17), none, (.bin .add (.tmp 16) (.const (.int .i64 1)))⟩
  (.op true ⟨(some 23), none, (.bin .rem (.tmp 17) (.tmp 22))⟩
  (.op true ⟨(some 24), none, (.nilc (.tmp 12))⟩
  (.op true ⟨(some 25), none, (.fld 3 (.tmp 24))⟩
  (.op false ⟨none, none, (.st 1 (.tmp 25) (.tmp 23))⟩ .done)))))))))))))))))
 (.seq
 (.reg false (.op false ⟨(some 26), none, (.mv (.tmp 0))⟩
  (.op false ⟨(some 27), none, (.nilc (.tmp 26))⟩
  (.op false ⟨(some 28), none, (.fld 1 (.tmp 27))⟩
  (.op false ⟨(some 29), none, (.ld none (.tmp 28))⟩
  (.op false ⟨(some 30), none, (.mv (.tmp 4))⟩
  (.op false ⟨(some 31), none, (.idx 5 (.tmp 29) (.tmp 30))⟩
  (.op false ⟨(some 5), none, (.mv (.tmp 31))⟩ .done)))))))) (.block 2
 (.seq
 (.reg false (.op false ⟨(some 34), none, (.mv (.tmp 5))⟩
  (.op false ⟨(some 35), none, (.nilc (.tmp 34))⟩
  (.op false ⟨(some 36), none, (.fld 2 (.tmp 35))⟩
  (.op false ⟨(some 37), none, (.ld none (.tmp 36))⟩
  (.op false ⟨(some 38), none, (.bin .gtr (.tmp 37) (.const (.int .i64 0)))⟩
  (.op false ⟨(some 33), none, (.mv (.tmp 38))⟩ .done))))))) (.cond (.tmp 33) .skip
 (.seq
 (.reg false (.op false ⟨(some 40), none, (.mv (.tmp 5))⟩
  (.op false ⟨(some 41), none, (.nilc (.tmp 40))⟩
  (.op false ⟨(some 42), none, (.fld 3 (.tmp 41))⟩
  (.op false ⟨(some 43), none, (.ld none (.tmp 42))⟩
  (.op false ⟨(some 39), none, (.mv (.tmp 43))⟩ .done)))))) (.cond (.tmp 39)
 (.reg false (.op false ⟨(some 44), none, (.mv (.tmp 5))⟩
  (.op false ⟨(some 45), none, (.nilc (.tmp 44))⟩
  (.op false ⟨(some 46), none, (.fld 3 (.tmp 45))⟩
  (.op false ⟨none, none, (.st 1 (.tmp 46) (.const (.bool false)))⟩ .done)))))
 (.seq
 (.reg false (.op false ⟨(some 32), none, (.mv (.tmp 4))⟩
  (.op false ⟨(some 2), none, (.mv (.tmp 32))⟩
  (.op false ⟨(some 3), none, (.mv (.const (.bool true)))⟩ .done)))) .ret))))))))))))))⟩

theorem csweep_ok {P : Program} {f f1 : FuncId} (hd : dec P f = some (g_cache_Cache_sweep f1)) (h1 : CPinnedOk P f1) : CSweepOk P f := by
  intro d c dv cv L h hpb
  obtain ⟨b, T, bf, cp, cb, hf, s, r, bd, rfl, rfl, rfl, hg, hl1, hl2, hh, hfr⟩ := h
  refine GCall_of hd (Nat.le_of_ble_eq_true rfl) ?_
  show gwp P _ _ _ _ _
  (apply w_sq; apply w_reg; apply w_mvi; rfl; apply w_mvb; rfl; apply w_done0; apply w_sq; apply w_sq; apply w_reg; apply w_mvp; rfl)
  refine w_read (A := [_, _]) (B := [_]) rfl rfl (h1 hg) ?_
  cases hp : pinnedF c.fr with
  | true =>
    (apply w_done0; apply w_ifT; rfl; apply w_sq; apply w_reg; apply w_mvi; rfl; apply w_mvb; rfl; apply w_done0; apply w_ret)
    exact fin2 rfl rfl (List.Sublist.refl _) ⟨rfl, fun _ => ⟨rfl, rfl⟩, fun q => by cases q⟩
  | false =>
    (apply w_done0; apply w_ifF; rfl; apply w_skip; apply w_block)
    refine w_loopS (α := List Fr × Nat × PHeap) (fun x => [(0, .pointer (some ⟨b, 0, none⟩))])
      (fun x d' L' => d' = d ∧ x.1.length = c.fr.length ∧ x.2.1 < c.fr.length ∧ pinnedF x.1 = false ∧ (∀ f ∈ x.1, f.pins ≤ 4611686018427387904) ∧ sweepF (measF x.1 x.2.1 + 1) x.1 x.2.1 = sweepF (measF c.fr c.hand + 1) c.fr c.hand ∧
        L' = [bx b T [.pointer (some ⟨bd, 0, none⟩), .slice (some ⟨bf, 0, none⟩) c.fr.length cp, .chan (some cb), .int .i64 x.2.1, .int .i64 (wr c.hits), .int .i64 (wr c.miss)], x.2.2, sg cb (.chan c.fr.length (c.free.map fun i : Nat => Value.int .i64 i).toArray false s r false)] ∧
        GRow 5 RFr d (.slice (some ⟨bf, 0, none⟩) c.fr.length cp) x.1 x.2.2) (fun x => measF x.1 x.2.1) (c.fr, c.hand, hf) ⟨rfl, trivial⟩ ⟨rfl, rfl, hh, hp, hpb, rfl, rfl, hg⟩ ?_
    rintro ⟨fs, hand, hf'⟩ ρ d' L' ⟨rfl, hlen, hhand, hpin, hpb', hsw, rfl, hg'⟩
    simp only at hlen hhand hpin hpb' hsw hg' ⊢
    rw [← hlen] at hg'
    obtain ⟨b1, T1, l1, c1, cs, q1, rfl, hcl, hcs, hle, ⟨a, n, c', rfl, hb⟩, hset⟩ := GRow.at (by omega) hg' (show hand < fs.length by omega)
    cases q1
    have c2 := hcs 2 _ rfl
    have c3 := hcs 3 _ rfl
    have hgd : fs.getD hand fz = fs[hand] := passF_get (by omega)
    (apply w_block; apply w_sq; apply w_reg)
    (apply w_mvp; rfl; apply w_nilc; rfl; apply w_fld; rfl; apply w_ld; rfl; exact hc_i 0 rfl rfl; apply w_mvi; rfl; apply w_done0)
    refine w_mid (fun ρ d2 L' => SlotsAre ρ [(0, .pointer (some ⟨b, 0, none⟩)), (4, .int .i64 hand)] ∧ d2 = d' ∧ L' = [bx b T [.pointer (some ⟨bd, 0, none⟩), .slice (some ⟨bf, 0, none⟩) c.fr.length cp, .chan (some cb), .int .i64 (nextH fs hand : Nat), .int .i64 (wr c.hits), .int .i64 (wr c.miss)], bx bf T1 l1, sg cb (.chan c.fr.length (c.free.map fun i : Nat => Value.int .i64 i).toArray false s r false)]) ?_ ?_
    · refine w_drawnA [] _ rfl ?_
      have en : ((hand : Int) + 1) % (c.fr.length : Int) = (nextH fs hand : Nat) := by unfold nextH; rw [hlen]; simp
      (apply w_mvp; rfl; apply w_mvp; rfl; apply w_nilc; rfl; apply w_fld; rfl; apply w_mvp; rfl; apply w_nilc; rfl; apply w_fld; rfl)
      refine w_alt ?_ ?_
      · (apply w_ld; rfl; exact hc_i 0 rfl rfl; apply w_add; rfl; rfl; omega; omega; apply w_ld; rfl; exact hc_i 0 rfl rfl; apply w_len; rfl; apply w_rem; rfl; rfl; omega; omega; apply w_nilc; rfl; apply w_fld; rfl)
        refine w_stE 0 [.pointer (some ⟨bd, 0, none⟩), .slice (some ⟨bf, 0, none⟩) c.fr.length cp, .chan (some cb), .int .i64 (nextH fs hand : Nat), .int .i64 (wr c.hits), .int .i64 (wr c.miss)] rfl rfl rfl rfl (Nat.le_of_ble_eq_true rfl) rfl (by rw [← en]; rfl) ?_
        exact w_done0 ⟨⟨rfl, rfl, trivial⟩, rfl, rfl⟩
      · (apply w_ld; rfl; exact hc_i 0 rfl rfl; apply w_len; rfl; apply w_ld; rfl; exact hc_i 0 rfl rfl; apply w_add; rfl; rfl; omega; omega; apply w_rem; rfl; rfl; omega; omega; apply w_nilc; rfl; apply w_fld; rfl)
        refine w_stE 0 [.pointer (some ⟨bd, 0, none⟩), .slice (some ⟨bf, 0, none⟩) c.fr.length cp, .chan (some cb), .int .i64 (nextH fs hand : Nat), .int .i64 (wr c.hits), .int .i64 (wr c.miss)] rfl rfl rfl rfl (Nat.le_of_ble_eq_true rfl) rfl (by rw [← en]; rfl) ?_
        exact w_done0 ⟨⟨rfl, rfl, trivial⟩, rfl, rfl⟩
    · rintro ρ d2 L2 ⟨hs2, rfl, rfl⟩
      refine gwp_slots _ hs2 ?_
      by_cases hp0 : fs[hand].pins = 0
      · cases hla : fs[hand].late with
        | false =>
          rw [hla] at c3
          have ht : takenF fs hand = true := by unfold takenF; rw [hgd, hp0, hla]; rfl
          (apply w_sq; apply w_reg; apply w_mvp; rfl; apply w_nilc; rfl; apply w_fld; rfl; apply w_ld; rfl; exact hc_i 0 rfl rfl; apply w_mvi; rfl; refine w_idxN _ rfl rfl rfl (by omega) ?_; apply w_mvp; rfl; apply w_done0; apply w_block; apply w_sq; apply w_reg; apply w_mvp; rfl; apply w_nilc; rfl; apply w_fld; rfl; apply w_ld; rfl; exact hc_i 1 rfl (by assumption); apply w_gtr; rfl; rfl; apply w_mvb; rfl; apply w_done0; refine w_ifdF rfl (by omega) ?_; apply w_sq; apply w_reg; apply w_mvp; rfl; apply w_nilc; rfl; apply w_fld; rfl; apply w_ld; rfl; exact hc_i 1 rfl (by assumption); apply w_mvb; rfl; apply w_done0; apply w_ifF; rfl; apply w_sq; apply w_reg; apply w_mvi; rfl; apply w_mvi; rfl; apply w_mvb; rfl; apply w_done0; apply w_ret)
          have hres : sweepF (measF c.fr c.hand + 1) c.fr c.hand = (fs, nextH fs hand, hand) := by rw [← hsw, sweepF, ht]; rfl
          rw [hres]
          refine fin2 rfl rfl (List.Sublist.refl _) ⟨rfl, (fun q => nomatch q), fun _ => ⟨rfl, ?_⟩⟩
          refine ⟨b, T, bf, cp, cb, _, s, r, bd, rfl, rfl, ?_, hg', by simp only; omega, by simp only; omega, Nat.mod_lt _ (by omega), by rw [hlen]; exact hfr⟩
          simp only [hlen]
        | true =>
          rw [hla] at c3
          have ht : takenF fs hand = false := by unfold takenF; rw [hgd, hp0, hla]; rfl
          have hpass : passF fs hand = fs.set hand { fs[hand] with late := false } := by rw [passF, hgd, if_pos hp0]
          have hg2 := hset [.bool fs[hand].held, .int .i64 fs[hand].sec, .int .i64 fs[hand].pins, .bool false, .slice a n c'] { fs[hand] with late := false } rfl ⟨a, n, c', rfl, hb⟩
          rw [← hpass] at hg2
          (apply w_sq; apply w_reg; apply w_mvp; rfl; apply w_nilc; rfl; apply w_fld; rfl; apply w_ld; rfl; exact hc_i 0 rfl rfl; apply w_mvi; rfl; refine w_idxN _ rfl rfl rfl (by omega) ?_; apply w_mvp; rfl; apply w_done0; apply w_block; apply w_sq; apply w_reg; apply w_mvp; rfl; apply w_nilc; rfl; apply w_fld; rfl; apply w_ld; rfl; exact hc_i 1 rfl (by assumption); apply w_gtr; rfl; rfl; apply w_mvb; rfl; apply w_done0; refine w_ifdF rfl (by omega) ?_; apply w_sq; apply w_reg; apply w_mvp; rfl; apply w_nilc; rfl; apply w_fld; rfl; apply w_ld; rfl; exact hc_i 1 rfl (by assumption); apply w_mvb; rfl; apply w_done0; apply w_ifT; rfl; apply w_reg; apply w_mvp; rfl; apply w_nilc; rfl; apply w_fld; rfl)
          refine w_stE 1 _ rfl rfl rfl rfl (by omega) rfl (patch_part (cs := [.bool fs[hand].held, .int .i64 fs[hand].sec, .int .i64 fs[hand].pins, .bool true, .slice a n c']) (fun j u hu => hcs j u (by rw [hla]; exact hu)) (by simp) (by simp; omega)) ?_
          (apply w_done0)
          refine ⟨(passF fs hand, nextH fs hand, _), meas_step (by omega) hpin ht, ⟨rfl, trivial⟩, rfl, by rw [passF_len]; exact hlen, by simp only; rw [← hlen]; exact Nat.mod_lt _ (by omega), by rw [pinned_pass]; exact hpin, ?_, (sweep_step (by omega) hpin ht).trans hsw, rfl, by simp only; rw [← hlen]; exact hg2⟩
          intro f hf
          rw [hpass] at hf
          rcases List.mem_or_eq_of_mem_set hf with hf | rfl
          · exact hpb' f hf
          · simp only; omega
      · have ht : takenF fs hand = false := by unfold takenF; rw [hgd]; simp [hp0]
        have hpass : passF fs hand = fs := by rw [passF, hgd, if_neg hp0]
        (apply w_sq; apply w_reg; apply w_mvp; rfl; apply w_nilc; rfl; apply w_fld; rfl; apply w_ld; rfl; exact hc_i 0 rfl rfl; apply w_mvi; rfl; refine w_idxN _ rfl rfl rfl (by omega) ?_; apply w_mvp; rfl; apply w_done0; apply w_block; apply w_sq; apply w_reg; apply w_mvp; rfl; apply w_nilc; rfl; apply w_fld; rfl; apply w_ld; rfl; exact hc_i 1 rfl (by assumption); apply w_gtr; rfl; rfl; apply w_mvb; rfl; apply w_done0; refine w_ifdT rfl (by omega) ?_; apply w_skip)
        have h1 := meas_step (by omega) hpin ht
        have h2 := (sweep_step (by omega) hpin ht).trans hsw
        rw [hpass] at h1 h2
        exact ⟨(fs, nextH fs hand, _), h1, ⟨rfl, trivial⟩, rfl, hlen, by simp only; rw [← hlen]; exact Nat.mod_lt _ (by omega), hpin, hpb', h2, rfl, by simp only; rw [← hlen]; exact hg'⟩
end Go.Gk.Cch
end

section
namespace Go.Gk.Cch
open Go Go.Gk Go.Gk.Dev
attribute [local irreducible] gwp gws xwp

def optI (o : Option Nat) : Value := match o with | some i => .tuple #[.int .i64 i, .bool true] | none => .tuple #[.int .i64 0, .bool false]
def CRoomOk (P : Program) (f : FuncId) : Prop := ∀ {d : PHeap} {c : CD} {dv cv : Value} {L : List PHeap}, Ca d c dv cv L → PinB c 4611686018427387904 →
  GCall P f [cv] d L (Ret fun r d' L' => d' = d ∧ r = optI (roomF c).2 ∧ Ca d (roomF c).1 dv cv L')
def g_cache_Cache_room (f_cache_Cache_sweep : Nat) : GFunX :=
 (.mk 18 [(.tmp 2), (.tmp 3)]
 (.seq (.g
 (.reg false (.op false ⟨(some 2), none, (.mv (.const (.int .i64 0)))⟩
  (.op false ⟨(some 3), none, (.mv (.const (.bool false)))⟩ .done))))
 (.seq (.g
 (.reg false (.op false ⟨(some 5), none, (.mv (.tmp 0))⟩
  (.op false ⟨(some 6), none, (.nilc (.tmp 5))⟩
  (.op false ⟨(some 7), none, (.fld 2 (.tmp 6))⟩
  (.op false ⟨(some 8), none, (.ld none (.tmp 7))⟩ .done))))))
 (.seq (.sel .done (some 9) (.tmp 8) (.int .i64 0) (.op false ⟨(some 10), none, (.ext (.tmp 9) 0)⟩
  (.op false ⟨(some 11), none, (.bin .eql (.tmp 10) (.const (.int .i64 0)))⟩ .done))) (.g (.block 0 (.cond (.tmp 11)
 (.seq
 (.reg false (.op false ⟨(some 16), none, (.ext (.tmp 9) 2)⟩
  (.op false ⟨(some 4), none, (.mv (.tmp 16))⟩ .done)))
 (.seq
 (.reg false (.op false ⟨(some 17), none, (.mv (.tmp 4))⟩
  (.op false ⟨(some 2), none, (.mv (.tmp 17))⟩
  (.op false ⟨(some 3), none, (.mv (.const (.bool true)))⟩ .done)))) .ret))
 (.seq
 (.reg false (.op false ⟨(some 12), none, (.mv (.tmp 0))⟩
  (.op false ⟨(some 13), none, (.call f_cache_Cache_sweep [(.tmp 12)])⟩
  (.op false ⟨(some 14), none, (.ext (.tmp 13) 0)⟩
  (.op false ⟨(some 15), none, (.ext (.tmp 13) 1)⟩
  (.op false ⟨(some 2), none, (.mv (.tmp 14))⟩
  (.op false ⟨(some 3), none, (.mv (.tmp 15))⟩ .done))))))) .ret))))))))

theorem croom_ok {P : Program} {f f1 : FuncId} (hd : decx false false P f = some (g_cache_Cache_room f1)) (h1 : CSweepOk P f1) : CRoomOk P f := by
  intro d c dv cv L h hpb
  have h0 := h
  obtain ⟨b, T, bf, cp, cb, hf, s, r, bd, rfl, rfl, rfl, hg, hl1, hl2, hh, hfr⟩ := h
  refine GCallX_of hd (Nat.le_of_ble_eq_true rfl) ?_
  show xwp P _ _ _ _ _
  (apply x_sq; apply x_g; apply w_reg; apply w_mvi; rfl; apply w_mvb; rfl; apply w_done0; apply x_sq; apply x_g; apply w_reg; apply w_mvp; rfl; apply w_nilc; rfl; apply w_fld; rfl; apply w_ld; rfl; exact hc_i 0 rfl rfl; apply w_done0; apply x_sq; apply x_sel; apply w_done0)
  have hcase : c.free = [] ∨ ∃ i rest, c.free = i :: rest := by cases c.free with | nil => exact .inl rfl | cons i r => exact .inr ⟨i, r, rfl⟩
  rcases hcase with hfe | ⟨i, rest, hfe⟩
  · refine x_selNone 2 rfl (by rw [hfe]; rfl) ?_
    (apply w_ext; rfl; rfl; apply w_eql; rfl; rfl; apply w_done0; apply x_g; apply w_block; refine w_ifdF rfl (by omega) ?_; apply w_sq; apply w_reg; apply w_mvp; rfl)
    refine w_callA (B := []) rfl rfl (h1 h0 hpb) (fun u d' L' _ ⟨e1, e2, e3⟩ => ?_)
    subst e1
    cases hp : pinnedF c.fr with
    | true =>
      obtain ⟨rfl, rfl⟩ := e2 hp
      (apply w_ext; rfl; rfl; apply w_ext; rfl; rfl; apply w_mvi; rfl; apply w_mvb; rfl; apply w_done0; apply w_ret)
      have hr : roomF c = (c, none) := by unfold roomF; rw [hfe]; simp only [hp, if_true]
      rw [hr]
      exact fin2 rfl rfl (List.Sublist.refl _) ⟨rfl, rfl, h0⟩
    | false =>
      obtain ⟨rfl, hc⟩ := e3 hp
      (apply w_ext; rfl; rfl; apply w_ext; rfl; rfl; apply w_mvi; rfl; apply w_mvb; rfl; apply w_done0; apply w_ret)
      have hr : roomF c = ({ c with fr := (sweepF (measF c.fr c.hand + 1) c.fr c.hand).1, hand := (sweepF (measF c.fr c.hand + 1) c.fr c.hand).2.1 }, some (sweepF (measF c.fr c.hand + 1) c.fr c.hand).2.2) := by
        unfold roomF; rw [hfe]; simp only [hp, Bool.false_eq_true, if_false]
      rw [hr]
      exact fin2 rfl rfl (List.Sublist.refl _) ⟨rfl, rfl, by rw [List.append_nil]; exact hc⟩
  · refine x_selSome (v := .int .i64 i) (buf := rest.map fun i : Nat => Value.int .i64 i) 2 rfl (by rw [hfe]; rfl) ?_
    (apply w_ext; rfl; rfl; apply w_eql; rfl; rfl; apply w_done0; apply x_g; apply w_block; refine w_ifdT rfl (by omega) ?_; apply w_sq; apply w_reg; apply w_ext; rfl; rfl; apply w_mvi; rfl; apply w_done0; apply w_sq; apply w_reg; apply w_mvi; rfl; apply w_mvi; rfl; apply w_mvb; rfl; apply w_done0; apply w_ret)
    have hr : roomF c = ({ c with free := rest }, some i) := by unfold roomF; rw [hfe]
    rw [hr]
    exact fin2 rfl rfl (List.Sublist.refl _) ⟨rfl, rfl, b, T, bf, cp, cb, hf, s, r + 1, bd, rfl, rfl, rfl, hg, hl1, hl2, hh, fun j hj => hfr j (by rw [hfe]; exact List.mem_cons_of_mem _ hj)⟩

def GotB (d : PHeap) (r : Value) (o : Option Sec) : Prop := match o with | some b => ∃ u, r = .tuple #[u, .int .i64 0] ∧ RBytes d u b | none => r = .tuple #[.slice none 0 0, .int .i64 180]
def CGetOk (P : Program) (f : FuncId) : Prop := ∀ {d : PHeap} {c : CD} {D : DevD} {dv cv : Value} {LC LD : List PHeap} {k : Nat}, Ca d c dv cv LC → Dv d D dv LD → PinB c 4611686018427387904 → k < D.syn.length →
  GCall P f [cv, .int .i64 k] d (LC ++ LD) (Ret fun r d' L' => ∃ LC' LD', L' = LC' ++ LD' ∧ Ca d' (getF (D.cur k) c k).1 dv cv LC' ∧ Dv d' D dv LD' ∧ GotB d' r (getF (D.cur k) c k).2)
def g_cache_Cache_Get (f_cache_Cache_none f_device_Device_Size f_cache_Cache_find f_cache_Cache_room f_device_Device_Read : Nat) : GFunX :=
 (.mk 108 [(.tmp 4), (.tmp 5)]
 (.seq (.g
 (.reg false (.op false ⟨(some 4), none, (.mv (.const (.slice none 0 0)))⟩
  (.op false ⟨(some 5), none, (.mv (.const (.int .i64 0)))⟩ .done))))
 (.seq (.g (.block 0
 (.seq
 (.reg false (.op false ⟨(some 13), none, (.mv (.tmp 0))⟩
  (.op false ⟨(some 14), none, (.call f_cache_Cache_none [(.tmp 13)])⟩
  (.op false ⟨(some 12), none, (.mv (.tmp 14))⟩ .done)))) (.cond (.tmp 12)
 (.seq
 (.reg false (.op false ⟨(some 4), none, (.mv (.const (.slice none 0 0)))⟩
  (.op false ⟨(some 5), none, (.mv (.const (.int .i64 1)))⟩ .done))) .ret)
 (.seq
 (.reg false (.op false ⟨(some 16), none, (.mv (.tmp 1))⟩
  (.op false ⟨(some 17), none, (.bin .lss (.tmp 16) (.const (.int .i64 0)))⟩
  (.op false ⟨(some 18), none, (.mv (.tmp 17))⟩
  (.op false ⟨(some 19), (some (18, false)), (.mv (.tmp 1))⟩
  (.op false ⟨(some 20), (some (18, false)), (.mv (.tmp 0))⟩
  (.op false ⟨(some 21), (some (18, false)), (.nilc (.tmp 20))⟩
  (.op false ⟨(some 22), (some (18, false)), (.fld 0 (.tmp 21))⟩
  (.op false ⟨(some 23), (some (18, false)), (.ld none (.tmp 22))⟩
  (.op false ⟨(some 24), (some (18, false)), (.call f_device_Device_Size [(.tmp 23)])⟩
  (.op false ⟨(some 25), (some (18, false)), (.bin .geq (.tmp 19) (.tmp 24))⟩
  (.op false ⟨(some 26), none, (.pick (.tmp 18) (.const (.bool true)) (.tmp 25))⟩
  (.op false ⟨(some 15), none, (.mv (.tmp 26))⟩ .done))))))))))))) (.cond (.tmp 15)
 (.seq
 (.reg false (.op false ⟨(some 4), none, (.mv (.const (.slice none 0 0)))⟩
  (.op false ⟨(some 5), none, (.mv (.const (.int .i64 4)))⟩ .done))) .ret) .skip))))))
 (.seq (.g
 (.seq
 (.reg false (.op false ⟨(some 28), none, (.mv (.tmp 0))⟩
  (.op false ⟨(some 29), none, (.mv (.tmp 1))⟩
  (.op false ⟨(some 30), none, (.call f_cache_Cache_find [(.tmp 28), (.tmp 29)])⟩
  (.op false ⟨(some 27), none, (.mv (.tmp 30))⟩
  (.op false ⟨(some 31), none, (.ext (.tmp 27) 0)⟩
  (.op false ⟨(some 32), none, (.ext (.tmp 27) 1)⟩
  (.op false ⟨(some 6), none, (.mv (.tmp 31))⟩
  (.op false ⟨(some 7), none, (.mv (.tmp 32))⟩ .done)))))))))
 (.seq
 (.reg false (.op false ⟨(some 33), none, (.mv (.tmp 6))⟩
  (.op false ⟨(some 34), none, (.eqp true (.tmp 33) (.const (.pointer none)))⟩ .done))) (.cond (.tmp 34)
 (.seq
 (.reg false (.op false ⟨(some 35), none, (.mv (.tmp 6))⟩
  (.op false ⟨(some 36), none, (.nilc (.tmp 35))⟩
  (.op false ⟨(some 37), none, (.fld 2 (.tmp 36))⟩
  (.op false ⟨(some 38), none, (.ld none (.tmp 37))⟩
  (.op false ⟨(some 39), none, (.bin .add (.tmp 38) (.const (.int .i64 1)))⟩
  (.op false ⟨(some 40), none, (.nilc (.tmp 35))⟩
  (.op false ⟨(some 41), none, (.fld 2 (.tmp 40))⟩
  (.op false ⟨none, none, (.st 1 (.tmp 41) (.tmp 39))⟩ .done)))))))))
 (.seq
 (.reg false (.op false ⟨(some 42), none, (.mv (.tmp 6))⟩
  (.op false ⟨(some 43), none, (.nilc (.tmp 42))⟩
  (.op false ⟨(some 44), none, (.fld 3 (.tmp 43))⟩
  (.op false ⟨none, none, (.st 1 (.tmp 44) (.const (.bool true)))⟩ .done)))))
 (.seq
 (.reg false (.op false ⟨(some 45), none, (.mv (.tmp 0))⟩
  (.op false ⟨(some 46), none, (.nilc (.tmp 45))⟩
  (.op false ⟨(some 47), none, (.fld 4 (.tmp 46))⟩
  (.op false ⟨(some 48), none, (.ld none (.tmp 47))⟩
  (.op false ⟨(some 49), none, (.bin .add (.tmp 48) (.const (.int .i64 1)))⟩
  (.op false ⟨(some 50), none, (.nilc (.tmp 45))⟩
  (.op false ⟨(some 51), none, (.fld 4 (.tmp 50))⟩
  (.op false ⟨none, none, (.st 1 (.tmp 51) (.tmp 49))⟩ .done)))))))))
 (.seq
 (.reg false (.op false ⟨(some 52), none, (.bsl 0 1 [(.int .u8 0)] [])⟩
  (.op false ⟨(some 53), none, (.mv (.tmp 6))⟩
  (.op false ⟨(some 54), none, (.nilc (.tmp 53))⟩
  (.op false ⟨(some 55), none, (.fld 4 (.tmp 54))⟩
  (.op false ⟨(some 56), none, (.ld none (.tmp 55))⟩
  (.op false ⟨(some 57), none, (.app 1 1 [(.int .u8 0)] (.tmp 52) (.tmp 56))⟩
  (.op false ⟨(some 4), none, (.mv (.tmp 57))⟩
  (.op false ⟨(some 5), none, (.mv (.const (.int .i64 0)))⟩ .done))))))))) .ret)))) .skip))))
 (.seq (.g
 (.reg false (.op false ⟨(some 59), none, (.mv (.tmp 0))⟩
  (.op false ⟨(some 60), none, (.call f_cache_Cache_room [(.tmp 59)])⟩
  (.op false ⟨(some 58), none, (.mv (.tmp 60))⟩
  (.op false ⟨(some 61), none, (.ext (.tmp 58) 0)⟩
  (.op false ⟨(some 62), none, (.ext (.tmp 58) 1)⟩
  (.op false ⟨(some 8), none, (.mv (.tmp 61))⟩
  (.op false ⟨(some 9), none, (.mv (.tmp 62))⟩ .done)))))))))
 (.seq (.g
 (.seq
 (.reg false (.op false ⟨(some 63), none, (.mv (.tmp 9))⟩
  (.op false ⟨(some 64), none, (.un .not (.tmp 63))⟩ .done))) (.cond (.tmp 64)
 (.seq
 (.reg false (.op false ⟨(some 4), none, (.mv (.const (.slice none 0 0)))⟩
  (.op false ⟨(some 5), none, (.mv (.const (.int .i64 180)))⟩ .done))) .ret) .skip)))
 (.seq (.g
 (.reg false (.op false ⟨(some 66), none, (.mv (.tmp 0))⟩
  (.op false ⟨(some 67), none, (.nilc (.tmp 66))⟩
  (.op false ⟨(some 68), none, (.fld 0 (.tmp 67))⟩
  (.op false ⟨(some 69), none, (.ld none (.tmp 68))⟩
  (.op false ⟨(some 70), none, (.mv (.tmp 1))⟩
  (.op false ⟨(some 71), none, (.call f_device_Device_Read [(.tmp 69), (.tmp 70)])⟩
  (.op false ⟨(some 65), none, (.mv (.tmp 71))⟩
  (.op false ⟨(some 72), none, (.ext (.tmp 65) 0)⟩
  (.op false ⟨(some 73), none, (.ext (.tmp 65) 1)⟩
  (.op false ⟨(some 10), none, (.mv (.tmp 72))⟩
  (.op false ⟨(some 11), none, (.mv (.tmp 73))⟩ .done)))))))))))))
 (.seq (.seq (.g
 (.reg false (.op false ⟨(some 74), none, (.mv (.tmp 11))⟩
  (.op false ⟨(some 75), none, (.bin .neq (.tmp 74) (.const (.int .i64 0)))⟩ .done)))) (.cond (.tmp 75)
 (.seq (.g
 (.reg false (.op false ⟨(some 76), none, (.mv (.tmp 0))⟩
  (.op false ⟨(some 77), none, (.nilc (.tmp 76))⟩
  (.op false ⟨(some 78), none, (.fld 1 (.tmp 77))⟩
  (.op false ⟨(some 79), none, (.ld none (.tmp 78))⟩
  (.op false ⟨(some 80), none, (.mv (.tmp 8))⟩
  (.op false ⟨(some 81), none, (.bld [(0, 1), (1, 1), (2, 1), (3, 1), (4, 1)] [(.bool false), (.int .i64 0), (.int .i64 0), (.bool false), (.slice none 0 0)] [])⟩
  (.op false ⟨(some 82), none, (.idx 5 (.tmp 79) (.tmp 80))⟩
  (.op false ⟨none, none, (.st 5 (.tmp 82) (.tmp 81))⟩ .done))))))))))
 (.seq (.snd (.op false ⟨(some 83), none, (.mv (.tmp 0))⟩
  (.op false ⟨(some 84), none, (.nilc (.tmp 83))⟩
  (.op false ⟨(some 85), none, (.fld 2 (.tmp 84))⟩
  (.op false ⟨(some 86), none, (.ld none (.tmp 85))⟩
  (.op false ⟨(some 87), none, (.mv (.tmp 8))⟩ .done))))) none (.tmp 86) (.tmp 87) .done) (.g
 (.seq
 (.reg false (.op false ⟨(some 88), none, (.mv (.tmp 11))⟩
  (.op false ⟨(some 4), none, (.mv (.const (.slice none 0 0)))⟩
  (.op false ⟨(some 5), none, (.mv (.tmp 88))⟩ .done)))) .ret)))) (.g .skip))) (.g
 (.seq
 (.reg false (.op false ⟨(some 89), none, (.mv (.tmp 0))⟩
  (.op false ⟨(some 90), none, (.nilc (.tmp 89))⟩
  (.op false ⟨(some 91), none, (.fld 1 (.tmp 90))⟩
  (.op false ⟨(some 92), none, (.ld none (.tmp 91))⟩
  (.op false ⟨(some 93), none, (.mv (.tmp 8))⟩
  (.op false ⟨(some 94), none, (.mv (.tmp 1))⟩
  (.op false ⟨(some 95), none, (.mv (.tmp 10))⟩
  (.op false ⟨(some 96), none, (.bld [(0, 1), (1, 1), (2, 1), (3, 1), (4, 1)] [(.bool false), (.int .i64 0), (.int .i64 0), (.bool false), (.slice none 0 0)] [(0, (.const (.bool true))), (1, (.tmp 94)), (2, (.const (.int .i64 1))), (3, (.const (.bool true))), (4, (.tmp 95))])⟩
  (.op false ⟨(some 97), none, (.idx 5 (.tmp 92) (.tmp 93))⟩
  (.op false ⟨none, none, (.st 5 (.tmp 97) (.tmp 96))⟩ .done)))))))))))
 (.seq
 (.reg false (.op false ⟨(some 98), none, (.mv (.tmp 0))⟩
  (.op false ⟨(some 99), none, (.nilc (.tmp 98))⟩
  (.op false ⟨(some 100), none, (.fld 5 (.tmp 99))⟩
  (.op false ⟨(some 101), none, (.ld none (.tmp 100))⟩
  (.op false ⟨(some 102), none, (.bin .add (.tmp 101) (.const (.int .i64 1)))⟩
  (.op false ⟨(some 103), none, (.nilc (.tmp 98))⟩
  (.op false ⟨(some 104), none, (.fld 5 (.tmp 103))⟩
  (.op false ⟨none, none, (.st 1 (.tmp 104) (.tmp 102))⟩ .done)))))))))
 (.seq
 (.reg false (.op false ⟨(some 105), none, (.bsl 0 1 [(.int .u8 0)] [])⟩
  (.op false ⟨(some 106), none, (.mv (.tmp 10))⟩
  (.op false ⟨(some 107), none, (.app 1 1 [(.int .u8 0)] (.tmp 105) (.tmp 106))⟩
  (.op false ⟨(some 4), none, (.mv (.tmp 107))⟩
  (.op false ⟨(some 5), none, (.mv (.const (.int .i64 0)))⟩ .done)))))) .ret))))))))))))

set_option maxHeartbeats 1000000 in
theorem cget_ok {P : Program} {f f1 f2 f3 f4 f5 : FuncId} (hd : decx false false P f = some (g_cache_Cache_Get f1 f2 f3 f4 f5)) (h1 : CNoneOk P f1) (h2 : DSizeOk P f2) (h3 : CFindOk P f3) (h4 : CRoomOk P f4) (h5 : DReadOk P f5) : CGetOk P f := by
  intro d c D dv cv LC LD k h hD hpb hk
  have h0 := h
  obtain ⟨b, T, bf, cp, cb, hf, s, r, bd, rfl, rfl, rfl, hg, hl1, hl2, hh, hfr⟩ := h
  refine GCallX_of hd (Nat.le_of_ble_eq_true rfl) ?_
  show xwp P _ _ _ _ _
  (apply x_sq; apply x_g; apply w_reg; apply w_mvs; rfl; apply w_mvi; rfl; apply w_done0; apply x_sq; apply x_g; apply w_block; apply w_sq; apply w_reg; apply w_mvp; rfl)
  refine w_read (A := [_]) (B := _ :: _ :: LD) rfl rfl h1 ?_
  (apply w_mvb; rfl; apply w_done0; apply w_ifF; rfl; apply w_sq; apply w_reg; apply w_mvi; rfl; apply w_lss; rfl; rfl; apply w_mvb; rfl; refine w_gdF rfl (by omega) ?_; apply w_gT; rfl; apply w_mvi; rfl; apply w_gT; rfl; apply w_mvp; rfl; apply w_gT; rfl; apply w_nilc; rfl; apply w_gT; rfl; apply w_fld; rfl; apply w_gT; rfl; apply w_ld; rfl; exact hc_i 0 rfl rfl; apply w_gT; rfl)
  refine w_readP (A := LD) List.perm_append_comm rfl (h2 hD) ?_
  (apply w_gT; rfl; apply w_geq; rfl; rfl; apply w_pickFb; rfl; rfl; apply w_mvb; rfl; apply w_done0; refine w_ifdF rfl (by omega) ?_; apply w_skip; apply x_sq; apply x_g; apply w_sq; apply w_reg; apply w_mvp; rfl; apply w_mvi; rfl)
  refine w_read (A := [_, _]) (B := _ :: LD) rfl rfl (h3 hg) ?_
  cases hF : findF k c.fr with
  | some i =>
    obtain ⟨hi, hheld, hsec⟩ := findF_some hF
    obtain ⟨b1, T1, l1, c1, cs, q1, rfl, hcl, hcs, hle, ⟨a, n, c', rfl, hb⟩, hset⟩ := GRow.at (by omega) hg hi
    cases q1
    have hpi := hpb _ (List.getElem_mem hi)
    have c2 := hcs 2 _ rfl
    have hgd : c.fr.getD i fz = c.fr[i] := passF_get hi
    have hres : getF (D.cur k) c k = ({ c with fr := c.fr.set i { c.fr[i] with pins := c.fr[i].pins + 1, late := true }, hits := c.hits + 1 }, some c.fr[i].b) := by
      unfold getF; rw [hF]; simp only [hgd]
    rw [hres]
    (apply w_mvu; rfl; apply w_ext; rfl; rfl; apply w_ext; rfl; rfl; apply w_mvp; rfl; apply w_mvi; rfl; apply w_done0; apply w_sq; apply w_reg; apply w_mvp; rfl; apply w_eqpS; rfl; rfl; apply w_done0; apply w_ifT; rfl; apply w_sq; apply w_reg; apply w_mvp; rfl; apply w_nilc; rfl; apply w_fld; rfl; apply w_ld; rfl; exact hc_i 1 rfl (by assumption); apply w_add; rfl; rfl; omega; omega; apply w_nilc; rfl; apply w_fld; rfl)
    refine w_stE 1 (patch l1 (i * 5) [.bool c.fr[i].held, .int .i64 c.fr[i].sec, .int .i64 ((c.fr[i].pins : Int) + 1), .bool c.fr[i].late, .slice a n c']) rfl rfl rfl rfl (by omega) rfl (patch_part hcs (by simp) (by simp; omega)) ?_
    (apply w_done0; apply w_sq; apply w_reg; apply w_mvp; rfl; apply w_nilc; rfl; apply w_fld; rfl)
    refine w_stE 1 (patch l1 (i * 5) [.bool c.fr[i].held, .int .i64 c.fr[i].sec, .int .i64 ((c.fr[i].pins : Int) + 1), .bool true, .slice a n c']) rfl rfl rfl rfl (by rw [patch_len (by simp; omega)]; omega) rfl (patch_more (cs := [.bool c.fr[i].held, .int .i64 c.fr[i].sec, .int .i64 ((c.fr[i].pins : Int) + 1), .bool c.fr[i].late, .slice a n c']) (by simp) (by simp; omega)) ?_
    (apply w_done0; apply w_sq; apply w_reg; apply w_mvp; rfl; apply w_nilc; rfl; apply w_fld; rfl; apply w_ld; rfl; exact hc_i 0 rfl rfl)
    refine w_addc rfl rfl ?_
    (apply w_nilc; rfl; apply w_fld; rfl)
    refine w_stE 0 [.pointer (some ⟨bd, 0, none⟩), .slice (some ⟨bf, 0, none⟩) c.fr.length cp, .chan (some cb), .int .i64 c.hand, .int .i64 (wr (c.hits + 1)), .int .i64 (wr c.miss)] rfl rfl rfl rfl (Nat.le_of_ble_eq_true rfl) rfl rfl ?_
    have c4 : (patch l1 (i * 5) [.bool c.fr[i].held, .int .i64 c.fr[i].sec, .int .i64 ((c.fr[i].pins : Int) + 1), .bool true, .slice a n c'])[i * 5 + 4]? = some (.slice a n c') := patch_at (by simp; omega) rfl
    (apply w_done0; apply w_sq; apply w_reg)
    refine w_bsl (cs := []) (by simp) (by simp [Instr.fill, zrow]) (fun b3 T3 => ?_)
    (apply w_mv; apply w_nilc; rfl; apply w_fld; rfl)
    refine w_ld rfl (hc_i 2 rfl c4) ?_
    have hbl := hb.len_le
    refine w_appG (R := RByte) 0 rfl rfl (GRow.lit0 (R := RByte) (sz := 1)) rfl (RSl.src hb cell1_byte (by omega) _) (by omega) (by simp; omega) (by simp; omega) (fun v' h' ho' => ?_)
    rw [List.nil_append] at ho'
    (apply w_mv; apply w_mvi; rfl; apply w_done0; apply w_ret)
    have hg2 := hset [.bool c.fr[i].held, .int .i64 c.fr[i].sec, .int .i64 ((c.fr[i].pins : Int) + 1), .bool true, .slice a n c'] { c.fr[i] with pins := c.fr[i].pins + 1, late := true } rfl ⟨a, n, c', rfl, hb⟩
    refine finV [v', .int .i64 0] ⟨rfl, rfl, trivial⟩ (d' := join d h') (L' := [bx b T [.pointer (some ⟨bd, 0, none⟩), .slice (some ⟨bf, 0, none⟩) c.fr.length cp, .chan (some cb), .int .i64 c.hand, .int .i64 (wr (c.hits + 1)), .int .i64 (wr c.miss)],
      bx bf T1 (patch l1 (i * 5) [.bool c.fr[i].held, .int .i64 c.fr[i].sec, .int .i64 ((c.fr[i].pins : Int) + 1), .bool true, .slice a n c']), sg cb (.chan c.fr.length (c.free.map fun i : Nat => Value.int .i64 i).toArray false s r false)] ++ LD) Vs.freeze
      ⟨_, _, rfl, ?_, hD.mono (Le.join_left _ _), v', rfl, GRow.rsl (R := RByte) ho' mono_byte (by omega) (Le.join_left _ _) (Le.join_right _ _)⟩
    exact Ca.mk (by simp) (GRow.mono (R := RFr) mono_fr hg2 (Le.join_left _ _)) hl1 hl2 hh hfr
  | none =>
    (apply w_mvu; rfl; apply w_ext; rfl; rfl; apply w_ext; rfl; rfl; apply w_mvp; rfl; apply w_mvi; rfl; apply w_done0; apply w_sq; apply w_reg; apply w_mvp; rfl; apply w_eqpN; rfl; rfl; apply w_done0; apply w_ifF; rfl; apply w_skip; apply x_sq; apply x_g; apply w_reg; apply w_mvp; rfl)
    refine w_callA (A := [_, _, _]) (B := LD) rfl rfl (h4 h0 hpb) (fun u d' L' _ ⟨e1, e2, e3⟩ => ?_)
    subst e1
    subst e2
    cases hr : roomF c with
    | mk c1 o =>
    rw [hr] at e3
    simp only at e3
    have e3' := e3
    obtain ⟨b', T', bf', cp', cb', hf', s', r', bd', q1, q2, rfl, hg', hl1', hl2', hh', hfr'⟩ := e3
    cases q1; cases q2
    cases o with
    | none =>
      have hres : getF (D.cur k) c k = (c1, none) := by unfold getF; rw [hF, hr]
      rw [hres]
      (apply w_mvu; rfl; apply w_ext; rfl; rfl; apply w_ext; rfl; rfl; apply w_mvi; rfl; apply w_mvb; rfl; apply w_done0; apply x_sq; apply x_g; apply w_sq; apply w_reg; apply w_mvb; rfl; apply w_not; rfl; apply w_done0; apply w_ifT; rfl; apply w_sq; apply w_reg; apply w_mvs; rfl; apply w_mvi; rfl; apply w_done0; apply w_ret)
      exact fin2 rfl rfl (List.Sublist.refl _) ⟨_, _, rfl, e3', hD, rfl⟩
    | some i =>
      have hres : getF (D.cur k) c k = ({ c1 with fr := c1.fr.set i ⟨true, k, 1, true, D.cur k⟩, miss := c1.miss + 1 }, some (D.cur k)) := by unfold getF; rw [hF, hr]
      rw [hres]
      have hi := room_lt hh hfr hr
      (apply w_mvu; rfl; apply w_ext; rfl; rfl; apply w_ext; rfl; rfl; apply w_mvi; rfl; apply w_mvb; rfl; apply w_done0; apply x_sq; apply x_g; apply w_sq; apply w_reg; apply w_mvb; rfl; apply w_not; rfl; apply w_done0; apply w_ifF; rfl; apply w_skip; apply x_sq; apply x_g; apply w_reg; apply w_mvp; rfl; apply w_nilc; rfl; apply w_fld; rfl; apply w_ld; rfl; exact hc_i 0 rfl rfl; apply w_mvi; rfl)
      refine w_callP (A := LD) List.perm_append_comm rfl (h5 hD hk) (fun w d2 LD' hld ⟨u, e1, hu, hD'⟩ => ⟨d2, [_, _, _] ++ LD', Vs.perm List.perm_append_comm, ?_⟩)
      subst e1
      obtain ⟨au, cu, rfl⟩ := RSl.val hu
      obtain ⟨b1, T1, l1, x1, cs, q1, rfl, hcl, hcs, hle, -, hset⟩ := GRow.at (by omega) (GRow.mono (R := RFr) mono_fr hg' hld) hi
      cases q1
      (apply w_mvu; rfl; apply w_ext; rfl; rfl; apply w_ext; rfl; rfl; apply w_mvs; rfl; apply w_mvi; rfl; apply w_done0; apply x_sq; apply x_sq; apply x_g; apply w_reg; apply w_mvi; rfl; apply w_neq; rfl; rfl; apply w_done0; apply x_ifF; rfl; apply x_g; apply w_skip; apply x_g; apply w_sq; apply w_reg; apply w_mvp; rfl; apply w_nilc; rfl; apply w_fld; rfl; apply w_ld; rfl; exact hc_i 0 rfl rfl; apply w_mvi; rfl; apply w_mvi; rfl; apply w_mvs; rfl; apply w_bld; rfl; refine w_idxN _ rfl rfl rfl (by omega) ?_)
      refine w_stE2 (cs := [.bool true, .int .i64 k, .int .i64 1, .bool true, .slice au (D.cur k).length cu]) 1 rfl rfl rfl rfl hle rfl ?_
      (apply w_done0; apply w_sq; apply w_reg; apply w_mvp; rfl; apply w_nilc; rfl; apply w_fld; rfl; apply w_ld; rfl; exact hc_i 0 rfl rfl)
      refine w_addc rfl rfl ?_
      (apply w_nilc; rfl; apply w_fld; rfl)
      refine w_stE 0 [.pointer (some ⟨bd, 0, none⟩), .slice (some ⟨bf', 0, none⟩) c1.fr.length cp', .chan (some cb'), .int .i64 c1.hand, .int .i64 (wr c1.hits), .int .i64 (wr (c1.miss + 1))] rfl rfl rfl rfl (Nat.le_of_ble_eq_true rfl) rfl rfl ?_
      (apply w_done0; apply w_sq; apply w_reg)
      refine w_bsl (cs := []) (by simp) (by simp [Instr.fill, zrow]) (fun b3 T3 => ?_)
      (apply w_mv)
      have hbl := hu.len_le
      refine w_appG (R := RByte) 0 rfl rfl (GRow.lit0 (R := RByte) (sz := 1)) rfl (RSl.src hu cell1_byte (by omega) _) (by omega) (by simp; omega) (by simp; omega) (fun v' h' ho' => ?_)
      rw [List.nil_append] at ho'
      (apply w_mv; apply w_mvi; rfl; apply w_done0; apply w_ret)
      refine finV [v', .int .i64 0] ⟨rfl, rfl, trivial⟩ (d' := join d2 h') (L' := [bx b T' [.pointer (some ⟨bd, 0, none⟩), .slice (some ⟨bf', 0, none⟩) c1.fr.length cp', .chan (some cb'), .int .i64 c1.hand, .int .i64 (wr c1.hits), .int .i64 (wr (c1.miss + 1))],
        bx bf' T1 (patch l1 (i * 5) [.bool true, .int .i64 k, .int .i64 1, .bool true, .slice au (D.cur k).length cu]), sg cb' (.chan c1.fr.length (c1.free.map fun i : Nat => Value.int .i64 i).toArray false s' r' false)] ++ LD') Vs.freeze
        ⟨_, _, rfl, ?_, hD'.mono (Le.join_left _ _), v', rfl, GRow.rsl (R := RByte) ho' mono_byte (by omega) (Le.join_left _ _) (Le.join_right _ _)⟩
      exact Ca.mk (by simp) (GRow.mono (R := RFr) mono_fr (hset _ ⟨true, k, 1, true, D.cur k⟩ rfl ⟨au, _, cu, rfl, hu⟩) (Le.join_left _ _)) hl1' hl2' hh' hfr'
end Go.Gk.Cch
end

section
namespace Go.Gk.Cch
open Go Go.Gk Go.Gk.Dev
attribute [local irreducible] gwp gws xwp

def CLeaveOk (P : Program) (f : FuncId) : Prop := ∀ {d : PHeap} {c : CD} {dv cv : Value} {L : List PHeap} {k : Nat}, Ca d c dv cv L → PinB c 4611686018427387904 →
  GCall P f [cv, .int .i64 k] d L (Ret fun r d' L' => d' = d ∧ r = .int .i64 (leaveF c k).2 ∧ Ca d (leaveF c k).1 dv cv L')
def g_cache_Cache_Leave (f_cache_Cache_none f_cache_Cache_find : Nat) : GFun :=
 ⟨31, [(.tmp 4)],
 (.seq
 (.reg false (.op false ⟨(some 4), none, (.mv (.const (.int .i64 0)))⟩ .done))
 (.seq (.seq
 (.reg false (.op false ⟨(some 7), none, (.mv (.tmp 0))⟩
  (.op false ⟨(some 8), none, (.call f_cache_Cache_none [(.tmp 7)])⟩ .done))) (.cond (.tmp 8)
 (.seq
 (.reg false (.op false ⟨(some 4), none, (.mv (.const (.int .i64 1)))⟩ .done)) .ret) .skip))
 (.seq
 (.reg false (.op false ⟨(some 10), none, (.mv (.tmp 0))⟩
  (.op false ⟨(some 11), none, (.mv (.tmp 1))⟩
  (.op false ⟨(some 12), none, (.call f_cache_Cache_find [(.tmp 10), (.tmp 11)])⟩
  (.op false ⟨(some 9), none, (.mv (.tmp 12))⟩
  (.op false ⟨(some 13), none, (.ext (.tmp 9) 0)⟩
  (.op false ⟨(some 14), none, (.ext (.tmp 9) 1)⟩
  (.op false ⟨(some 5), none, (.mv (.tmp 13))⟩
  (.op false ⟨(some 6), none, (.mv (.tmp 14))⟩ .done)))))))))
 (.seq (.block 0
 (.seq
 (.reg false (.op false ⟨(some 16), none, (.mv (.tmp 5))⟩
  (.op false ⟨(some 17), none, (.eqp false (.tmp 16) (.const (.pointer none)))⟩
  (.op false ⟨(some 15), none, (.mv (.tmp 17))⟩ .done)))) (.cond (.tmp 15)
 (.seq
 (.reg false (.op false ⟨(some 4), none, (.mv (.const (.int .i64 240)))⟩ .done)) .ret)
 (.seq
 (.reg false (.op false ⟨(some 19), none, (.mv (.tmp 5))⟩
  (.op false ⟨(some 20), none, (.nilc (.tmp 19))⟩
  (.op false ⟨(some 21), none, (.fld 2 (.tmp 20))⟩
  (.op false ⟨(some 22), none, (.ld none (.tmp 21))⟩
  (.op false ⟨(some 23), none, (.bin .eql (.tmp 22) (.const (.int .i64 0)))⟩
  (.op false ⟨(some 18), none, (.mv (.tmp 23))⟩ .done))))))) (.cond (.tmp 18)
 (.seq
 (.reg false (.op false ⟨(some 4), none, (.mv (.const (.int .i64 180)))⟩ .done)) .ret) .skip)))))
 (.seq
 (.reg false (.op false ⟨(some 24), none, (.mv (.tmp 5))⟩
  (.op false ⟨(some 25), none, (.nilc (.tmp 24))⟩
  (.op false ⟨(some 26), none, (.fld 2 (.tmp 25))⟩
  (.op false ⟨(some 27), none, (.ld none (.tmp 26))⟩
  (.op false ⟨(some 28), none, (.bin .sub (.tmp 27) (.const (.int .i64 1)))⟩
  (.op false ⟨(some 29), none, (.nilc (.tmp 24))⟩
  (.op false ⟨(some 30), none, (.fld 2 (.tmp 29))⟩
  (.op false ⟨none, none, (.st 1 (.tmp 30) (.tmp 28))⟩ .done)))))))))
 (.seq
 (.reg false (.op false ⟨(some 4), none, (.mv (.const (.int .i64 0)))⟩ .done)) .ret))))))⟩

theorem cleave_ok {P : Program} {f f1 f2 : FuncId} (hd : dec P f = some (g_cache_Cache_Leave f1 f2)) (h1 : CNoneOk P f1) (h2 : CFindOk P f2) : CLeaveOk P f := by
  intro d c dv cv L k h hpb
  have h0 := h
  obtain ⟨b, T, bf, cp, cb, hf, s, r, bd, rfl, rfl, rfl, hg, hl1, hl2, hh, hfr⟩ := h
  refine GCall_of hd (Nat.le_of_ble_eq_true rfl) ?_
  show gwp P _ _ _ _ _
  (apply w_sq; apply w_reg; apply w_mvi; rfl; apply w_done0; apply w_sq; apply w_sq; apply w_reg; apply w_mvp; rfl)
  refine w_read (A := [_]) (B := [_, _]) rfl rfl h1 ?_
  (apply w_done0; apply w_ifF; rfl; apply w_skip; apply w_sq; apply w_reg; apply w_mvp; rfl; apply w_mvi; rfl)
  refine w_read (A := [_, _]) (B := [_]) rfl rfl (h2 hg) ?_
  cases hF : findF k c.fr with
  | none =>
    (apply w_mvu; rfl; apply w_ext; rfl; rfl; apply w_ext; rfl; rfl; apply w_mvp; rfl; apply w_mvi; rfl; apply w_done0; apply w_sq; apply w_block; apply w_sq; apply w_reg; apply w_mvp; rfl; apply w_eqpN; rfl; rfl; apply w_mvb; rfl; apply w_done0; apply w_ifT; rfl; apply w_sq; apply w_reg; apply w_mvi; rfl; apply w_done0; apply w_ret)
    have hr : leaveF c k = (c, 240) := by unfold leaveF; rw [hF]
    rw [hr]
    exact fin1 rfl (List.Sublist.refl _) ⟨rfl, rfl, h0⟩
  | some i =>
    obtain ⟨hi, hheld, hsec⟩ := findF_some hF
    obtain ⟨b1, T1, l1, c1, cs, q1, rfl, hcl, hcs, hle, ⟨a, n, c', rfl, hb⟩, hset⟩ := GRow.at (by omega) hg hi
    cases q1
    have hpi := hpb _ (List.getElem_mem hi)
    have c2 := hcs 2 _ rfl
    have hgd : c.fr.getD i fz = c.fr[i] := passF_get hi
    by_cases hp : c.fr[i].pins = 0
    · (apply w_mvu; rfl; apply w_ext; rfl; rfl; apply w_ext; rfl; rfl; apply w_mvp; rfl; apply w_mvi; rfl; apply w_done0; apply w_sq; apply w_block; apply w_sq; apply w_reg; apply w_mvp; rfl; apply w_eqpS; rfl; rfl; apply w_mvb; rfl; apply w_done0; apply w_ifF; rfl; apply w_sq; apply w_reg; apply w_mvp; rfl; apply w_nilc; rfl; apply w_fld; rfl; apply w_ld; rfl; exact hc_i 1 rfl (by assumption); apply w_eql; rfl; rfl; apply w_mvb; rfl; apply w_done0; refine w_ifdT rfl (by omega) ?_; apply w_sq; apply w_reg; apply w_mvi; rfl; apply w_done0; apply w_ret)
      have hr : leaveF c k = (c, 180) := by unfold leaveF; rw [hF]; simp only [hgd]; rw [if_pos hp]
      rw [hr]
      exact fin1 rfl (List.Sublist.refl _) ⟨rfl, rfl, h0⟩
    · (apply w_mvu; rfl; apply w_ext; rfl; rfl; apply w_ext; rfl; rfl; apply w_mvp; rfl; apply w_mvi; rfl; apply w_done0; apply w_sq; apply w_block; apply w_sq; apply w_reg; apply w_mvp; rfl; apply w_eqpS; rfl; rfl; apply w_mvb; rfl; apply w_done0; apply w_ifF; rfl; apply w_sq; apply w_reg; apply w_mvp; rfl; apply w_nilc; rfl; apply w_fld; rfl; apply w_ld; rfl; exact hc_i 1 rfl (by assumption); apply w_eql; rfl; rfl; apply w_mvb; rfl; apply w_done0; refine w_ifdF rfl (by omega) ?_; apply w_skip; apply w_sq; apply w_reg; apply w_mvp; rfl; apply w_nilc; rfl; apply w_fld; rfl; apply w_ld; rfl; exact hc_i 1 rfl (by assumption); apply w_sub; rfl; rfl; omega; omega; apply w_nilc; rfl; apply w_fld; rfl)
      refine w_stE 1 (patch l1 (i * 5) [.bool c.fr[i].held, .int .i64 c.fr[i].sec, .int .i64 ((c.fr[i].pins : Int) - 1), .bool c.fr[i].late, .slice a n c']) rfl rfl rfl rfl (by omega) rfl (patch_part hcs (by simp) (by simp; omega)) ?_
      (apply w_done0; apply w_sq; apply w_reg; apply w_mvi; rfl; apply w_done0; apply w_ret)
      have hr : leaveF c k = ({ c with fr := c.fr.set i { c.fr[i] with pins := c.fr[i].pins - 1 } }, 0) := by unfold leaveF; rw [hF]; simp only [hgd]; rw [if_neg hp]
      rw [hr]
      refine fin1 rfl (List.Sublist.refl _) ⟨rfl, rfl, ?_⟩
      exact Ca.mk (by simp) (hset _ { c.fr[i] with pins := c.fr[i].pins - 1 } rfl ⟨a, n, c', by simp only; rw [Int.ofNat_sub (by omega)]; rfl, hb⟩) hl1 hl2 hh hfr

def CForgetOk (P : Program) (f : FuncId) : Prop := ∀ {d : PHeap} {c : CD} {dv cv : Value} {L : List PHeap} {k : Nat}, Ca d c dv cv L → (∀ i, findF k c.fr = some i → c.free.length < c.fr.length) →
  GCall P f [cv, .int .i64 k] d L (Ret fun r d' L' => d' = d ∧ r = .int .i64 (forgetF c k).2 ∧ Ca d (forgetF c k).1 dv cv L')
def g_cache_Cache_Forget (f_cache_Cache_none f_cache_Cache_find : Nat) : GFunX :=
 (.mk 32 [(.tmp 4)]
 (.seq (.g
 (.reg false (.op false ⟨(some 4), none, (.mv (.const (.int .i64 0)))⟩ .done)))
 (.seq (.g
 (.seq
 (.reg false (.op false ⟨(some 7), none, (.mv (.tmp 0))⟩
  (.op false ⟨(some 8), none, (.call f_cache_Cache_none [(.tmp 7)])⟩ .done))) (.cond (.tmp 8)
 (.seq
 (.reg false (.op false ⟨(some 4), none, (.mv (.const (.int .i64 1)))⟩ .done)) .ret) .skip)))
 (.seq (.g
 (.reg false (.op false ⟨(some 10), none, (.mv (.tmp 0))⟩
  (.op false ⟨(some 11), none, (.mv (.tmp 1))⟩
  (.op false ⟨(some 12), none, (.call f_cache_Cache_find [(.tmp 10), (.tmp 11)])⟩
  (.op false ⟨(some 9), none, (.mv (.tmp 12))⟩
  (.op false ⟨(some 13), none, (.ext (.tmp 9) 0)⟩
  (.op false ⟨(some 14), none, (.ext (.tmp 9) 1)⟩
  (.op false ⟨(some 5), none, (.mv (.tmp 13))⟩
  (.op false ⟨(some 6), none, (.mv (.tmp 14))⟩ .done))))))))))
 (.seq (.g (.block 0
 (.seq
 (.reg false (.op false ⟨(some 16), none, (.mv (.tmp 5))⟩
  (.op false ⟨(some 17), none, (.eqp false (.tmp 16) (.const (.pointer none)))⟩
  (.op false ⟨(some 15), none, (.mv (.tmp 17))⟩ .done)))) (.cond (.tmp 15)
 (.seq
 (.reg false (.op false ⟨(some 4), none, (.mv (.const (.int .i64 240)))⟩ .done)) .ret)
 (.seq
 (.reg false (.op false ⟨(some 19), none, (.mv (.tmp 5))⟩
  (.op false ⟨(some 20), none, (.nilc (.tmp 19))⟩
  (.op false ⟨(some 21), none, (.fld 2 (.tmp 20))⟩
  (.op false ⟨(some 22), none, (.ld none (.tmp 21))⟩
  (.op false ⟨(some 23), none, (.bin .gtr (.tmp 22) (.const (.int .i64 0)))⟩
  (.op false ⟨(some 18), none, (.mv (.tmp 23))⟩ .done))))))) (.cond (.tmp 18)
 (.seq
 (.reg false (.op false ⟨(some 4), none, (.mv (.const (.int .i64 180)))⟩ .done)) .ret) .skip))))))
 (.seq (.g
 (.reg false (.op false ⟨(some 24), none, (.mv (.tmp 5))⟩
  (.op false ⟨(some 25), none, (.bld [(0, 1), (1, 1), (2, 1), (3, 1), (4, 1)] [(.bool false), (.int .i64 0), (.int .i64 0), (.bool false), (.slice none 0 0)] [])⟩
  (.op false ⟨(some 26), none, (.nilc (.tmp 24))⟩
  (.op false ⟨none, none, (.st 5 (.tmp 26) (.tmp 25))⟩ .done))))))
 (.seq (.snd (.op false ⟨(some 27), none, (.mv (.tmp 0))⟩
  (.op false ⟨(some 28), none, (.nilc (.tmp 27))⟩
  (.op false ⟨(some 29), none, (.fld 2 (.tmp 28))⟩
  (.op false ⟨(some 30), none, (.ld none (.tmp 29))⟩
  (.op false ⟨(some 31), none, (.mv (.tmp 6))⟩ .done))))) none (.tmp 30) (.tmp 31) .done) (.g
 (.seq
 (.reg false (.op false ⟨(some 4), none, (.mv (.const (.int .i64 0)))⟩ .done)) .ret)))))))))

theorem cforget_ok {P : Program} {f f1 f2 : FuncId} (hd : decx false false P f = some (g_cache_Cache_Forget f1 f2)) (h1 : CNoneOk P f1) (h2 : CFindOk P f2) : CForgetOk P f := by
  intro d c dv cv L k h hroom
  have h0 := h
  obtain ⟨b, T, bf, cp, cb, hf, s, r, bd, rfl, rfl, rfl, hg, hl1, hl2, hh, hfr⟩ := h
  refine GCallX_of hd (Nat.le_of_ble_eq_true rfl) ?_
  show xwp P _ _ _ _ _
  (apply x_sq; apply x_g; apply w_reg; apply w_mvi; rfl; apply w_done0; apply x_sq; apply x_g; apply w_sq; apply w_reg; apply w_mvp; rfl)
  refine w_read (A := [_]) (B := [_, _]) rfl rfl h1 ?_
  (apply w_done0; apply w_ifF; rfl; apply w_skip; apply x_sq; apply x_g; apply w_reg; apply w_mvp; rfl; apply w_mvi; rfl)
  refine w_read (A := [_, _]) (B := [_]) rfl rfl (h2 hg) ?_
  cases hF : findF k c.fr with
  | none =>
    (apply w_mvu; rfl; apply w_ext; rfl; rfl; apply w_ext; rfl; rfl; apply w_mvp; rfl; apply w_mvi; rfl; apply w_done0; apply x_sq; apply x_g; apply w_block; apply w_sq; apply w_reg; apply w_mvp; rfl; apply w_eqpN; rfl; rfl; apply w_mvb; rfl; apply w_done0; apply w_ifT; rfl; apply w_sq; apply w_reg; apply w_mvi; rfl; apply w_done0; apply w_ret)
    have hr : forgetF c k = (c, 240) := by unfold forgetF; rw [hF]
    rw [hr]
    exact fin1 rfl (List.Sublist.refl _) ⟨rfl, rfl, h0⟩
  | some i =>
    obtain ⟨hi, hheld, hsec⟩ := findF_some hF
    have hroom := hroom i hF
    obtain ⟨b1, T1, l1, c1, cs, q1, rfl, hcl, hcs, hle, ⟨a, n, c', rfl, hb⟩, hset⟩ := GRow.at (by omega) hg hi
    cases q1
    have c2 := hcs 2 _ rfl
    have hgd : c.fr.getD i fz = c.fr[i] := passF_get hi
    by_cases hp : c.fr[i].pins = 0
    · (apply w_mvu; rfl; apply w_ext; rfl; rfl; apply w_ext; rfl; rfl; apply w_mvp; rfl; apply w_mvi; rfl; apply w_done0; apply x_sq; apply x_g; apply w_block; apply w_sq; apply w_reg; apply w_mvp; rfl; apply w_eqpS; rfl; rfl; apply w_mvb; rfl; apply w_done0; apply w_ifF; rfl; apply w_sq; apply w_reg; apply w_mvp; rfl; apply w_nilc; rfl; apply w_fld; rfl; apply w_ld; rfl; exact hc_i 1 rfl (by assumption); apply w_gtr; rfl; rfl; apply w_mvb; rfl; apply w_done0; refine w_ifdF rfl (by omega) ?_; apply w_skip; apply x_sq; apply x_g; apply w_reg; apply w_mvp; rfl; apply w_bld; rfl; apply w_nilc; rfl)
      have hr : forgetF c k = ({ c with fr := c.fr.set i fz, free := c.free ++ [i] }, 0) := by unfold forgetF; rw [hF]; simp only [hgd]; rw [if_neg (by omega)]
      rw [hr]
      refine w_stE2 (cs := [.bool false, .int .i64 0, .int .i64 0, .bool false, .slice none 0 0]) 1 rfl rfl rfl rfl hle rfl ?_
      (apply w_done0; apply x_sq; apply x_snd; apply w_mvp; rfl; apply w_nilc; rfl; apply w_fld; rfl; apply w_ld; rfl; exact hc_i 0 rfl rfl; apply w_mvi; rfl; apply w_done0)
      refine x_send (cap := c.fr.length) (buf := c.free.map fun i : Nat => Value.int .i64 i) (v := .int .i64 i) 2 rfl rfl (by rw [List.length_map]; exact hroom) rfl ?_
      (apply w_done0; apply x_g; apply w_sq; apply w_reg; apply w_mvi; rfl; apply w_done0; apply w_ret)
      refine fin1 rfl (List.Sublist.refl _) ⟨rfl, rfl, ?_⟩
      have := Ca.mk (c := { c with fr := c.fr.set i fz, free := c.free ++ [i] }) (d := d) (b := b) (T := T) (cb := cb) (s := s + 1) (r := r) (bd := bd) (by simp) (hset _ fz rfl ⟨none, 0, 0, rfl, RSl.nil⟩) hl1 hl2 hh (fun j hj => by
        rcases List.mem_append.1 hj with hj | hj
        · exact hfr j hj
        · rw [List.mem_singleton.1 hj]; exact hi)
      simp only [List.map_append, List.map_cons, List.map_nil] at this
      exact this
    · (apply w_mvu; rfl; apply w_ext; rfl; rfl; apply w_ext; rfl; rfl; apply w_mvp; rfl; apply w_mvi; rfl; apply w_done0; apply x_sq; apply x_g; apply w_block; apply w_sq; apply w_reg; apply w_mvp; rfl; apply w_eqpS; rfl; rfl; apply w_mvb; rfl; apply w_done0; apply w_ifF; rfl; apply w_sq; apply w_reg; apply w_mvp; rfl; apply w_nilc; rfl; apply w_fld; rfl; apply w_ld; rfl; exact hc_i 1 rfl (by assumption); apply w_gtr; rfl; rfl; apply w_mvb; rfl; apply w_done0; refine w_ifdT rfl (by omega) ?_; apply w_sq; apply w_reg; apply w_mvi; rfl; apply w_done0; apply w_ret)
      have hr : forgetF c k = (c, 180) := by unfold forgetF; rw [hF]; simp only [hgd]; rw [if_pos (by omega)]
      rw [hr]
      exact fin1 rfl (List.Sublist.refl _) ⟨rfl, rfl, h0⟩

def CHeldOk (P : Program) (f : FuncId) : Prop := ∀ {d : PHeap} {c : CD} {dv cv : Value} {L : List PHeap}, Ca d c dv cv L → (∀ f ∈ c.fr, f.sec ≤ 8192) →
  GCall P f [cv] d L (Ret fun r d' L' => L' = L ∧ RInts d' r (heldF c))
def g_cache_Cache_Held (f_cache_Cache_none : Nat) : GFun :=
 ⟨29, [(.tmp 2)],
 (.seq
 (.reg false (.op false ⟨(some 2), none, (.mv (.const (.slice none 0 0)))⟩ .done))
 (.seq (.seq
 (.reg false (.op false ⟨(some 6), none, (.mv (.tmp 0))⟩
  (.op false ⟨(some 7), none, (.call f_cache_Cache_none [(.tmp 6)])⟩ .done))) (.cond (.tmp 7)
 (.seq
 (.reg false (.op false ⟨(some 2), none, (.mv (.const (.slice none 0 0)))⟩ .done)) .ret) .skip))
 (.seq
 (.reg false (.op false ⟨(some 3), none, (.mv (.const (.slice none 0 0)))⟩ .done))
 (.seq (.seq
 (.reg false (.op false ⟨(some 8), none, (.mv (.tmp 0))⟩
  (.op false ⟨(some 9), none, (.nilc (.tmp 8))⟩
  (.op false ⟨(some 10), none, (.fld 1 (.tmp 9))⟩
  (.op false ⟨(some 11), none, (.ld none (.tmp 10))⟩
  (.op false ⟨(some 12), none, (.len (.tmp 11))⟩
  (.op false ⟨(some 13), none, (.mv (.const (.int .i64 0)))⟩ .done))))))) (.block 0 (.loop
 (.seq
 (.reg false (.op false ⟨(some 14), none, (.bin .lss (.tmp 13) (.tmp 12))⟩ .done))
 (.seq (.cond (.tmp 14) .skip (.exit 0))
 (.seq (.block 1
 (.seq
 (.reg false (.op false ⟨(some 15), none, (.idx 5 (.tmp 11) (.tmp 13))⟩
  (.op false ⟨(some 16), none, (.ld (some 5) (.tmp 15))⟩
  (.op false ⟨(some 5), none, (.alo (.agg #[(.bool false), (.int .i64 0), (.int .i64 0), (.bool false), (.slice none 0 0)]))⟩
  (.op false ⟨none, none, (.st 5 (.tmp 5) (.tmp 16))⟩ .done)))))
 (.seq
 (.reg false (.op false ⟨(some 17), none, (.fld 0 (.tmp 5))⟩
  (.op false ⟨(some 18), none, (.ld none (.tmp 17))⟩ .done))) (.cond (.tmp 18)
 (.reg false (.op false ⟨(some 19), none, (.mv (.tmp 3))⟩
  (.op false ⟨(some 20), none, (.fld 1 (.tmp 5))⟩
  (.op false ⟨(some 21), none, (.ld none (.tmp 20))⟩
  (.op false ⟨(some 22), none, (.bsl 1 1 [(.int .i64 0)] [(0, (.tmp 21))])⟩
  (.op false ⟨(some 23), none, (.app 1 8 [(.int .i64 0)] (.tmp 19) (.tmp 22))⟩
  (.op false ⟨(some 3), none, (.mv (.tmp 23))⟩ .done)))))))
 (.reg false (.op false ⟨(some 24), none, (.mv (.tmp 3))⟩
  (.op false ⟨(some 25), none, (.bsl 1 1 [(.int .i64 0)] [(0, (.const (.int .i64 (-1))))])⟩
  (.op false ⟨(some 26), none, (.app 1 8 [(.int .i64 0)] (.tmp 24) (.tmp 25))⟩
  (.op false ⟨(some 3), none, (.mv (.tmp 26))⟩ .done)))))))))
 (.reg false (.op false ⟨(some 27), none, (.bin .add (.tmp 13) (.const (.int .i64 1)))⟩
  (.op false ⟨(some 13), none, (.mv (.tmp 27))⟩ .done)))))))))
 (.seq
 (.reg false (.op false ⟨(some 28), none, (.mv (.tmp 3))⟩
  (.op false ⟨(some 2), none, (.mv (.tmp 28))⟩ .done))) .ret)))))⟩

theorem cheld_ok {P : Program} {f f1 : FuncId} (hd : dec P f = some (g_cache_Cache_Held f1)) (h1 : CNoneOk P f1) : CHeldOk P f := by
  intro d c dv cv L h hsec
  obtain ⟨b, T, bf, cp, cb, hf, s, r, bd, rfl, rfl, rfl, hg, hl1, hl2, hh, hfr⟩ := h
  refine GCall_of hd (Nat.le_of_ble_eq_true rfl) ?_
  show gwp P _ _ _ _ _
  (apply w_sq; apply w_reg; apply w_mvs; rfl; apply w_done0; apply w_sq; apply w_sq; apply w_reg; apply w_mvp; rfl)
  refine w_read (A := [_]) (B := [_, _]) rfl rfl h1 ?_
  refine w_doneE ⟨d, emp :: [bx b T [.pointer (some ⟨bd, 0, none⟩), .slice (some ⟨bf, 0, none⟩) c.fr.length cp, .chan (some cb), .int .i64 c.hand, .int .i64 (wr c.hits), .int .i64 (wr c.miss)], hf, sg cb (.chan c.fr.length (c.free.map fun i : Nat => Value.int .i64 i).toArray false s r false)], Vs.emp, ?_⟩
  (apply w_ifF; rfl; apply w_skip; apply w_sq; apply w_reg; apply w_mvs; rfl; apply w_done0; apply w_sq; apply w_sq; apply w_reg; apply w_mvp; rfl; apply w_nilc; rfl; apply w_fld; rfl; apply w_ld; rfl; exact hc_i 1 rfl rfl; apply w_len; rfl; apply w_mvi; rfl; apply w_done0; apply w_block)
  have hlen : (heldF c).length = c.fr.length := by simp [heldF]
  refine w_loopS (α := Nat × Value × PHeap) (fun x => [(3, x.2.1), (11, .slice (some ⟨bf, 0, none⟩) c.fr.length cp), (12, .int .i64 c.fr.length), (13, .int .i64 x.1)])
    (fun x d' L' => d' = d ∧ x.1 ≤ c.fr.length ∧ GRow 1 RInt d x.2.1 ((heldF c).take x.1) x.2.2 ∧ L' = x.2.2 :: [bx b T [.pointer (some ⟨bd, 0, none⟩), .slice (some ⟨bf, 0, none⟩) c.fr.length cp, .chan (some cb), .int .i64 c.hand, .int .i64 (wr c.hits), .int .i64 (wr c.miss)], hf, sg cb (.chan c.fr.length (c.free.map fun i : Nat => Value.int .i64 i).toArray false s r false)])
    (fun x => c.fr.length - x.1) (0, .slice none 0 0, emp) ⟨rfl, rfl, rfl, rfl, trivial⟩ ⟨rfl, by omega, GRow.nil, rfl⟩ ?_
  rintro ⟨i, v, hv⟩ ρ d' L' ⟨rfl, hi, hrow, rfl⟩
  simp only at hi hrow ⊢
  by_cases e : i < c.fr.length
  · obtain ⟨b1, T1, l1, c1, cs, q1, rfl, hcl, hcs, hle, ⟨a, n, c', rfl, hb⟩, hset⟩ := GRow.at (by omega) hg e
    cases q1
    have hsi := hsec _ (List.getElem_mem e)
    have htl : ((heldF c).take i).length = i := by rw [List.length_take]; omega
    have hnext : (heldF c).take (i + 1) = (heldF c).take i ++ [if c.fr[i].held then (c.fr[i].sec : Int) else -1] := by
      rw [List.take_succ_eq_append_getElem (by omega)]; simp [heldF]
    (apply w_sq; apply w_reg; apply w_lss; rfl; rfl; apply w_done0; apply w_sq; refine w_ifdT rfl (by omega) ?_; apply w_skip; apply w_sq; apply w_block; apply w_sq; apply w_reg; refine w_idxN _ rfl rfl rfl (by omega) ?_)
    refine w_ldC _ 2 rfl rfl hcl hcs ?_
    (apply w_aloL; intro _ _)
    refine w_stA 0 rfl rfl rfl rfl rfl rfl ?_
    cases hh : c.fr[i].held with
    | true =>
      (apply w_done0; apply w_sq; apply w_reg; apply w_fld; rfl; apply w_ld; rfl; exact hc_i 0 rfl rfl; apply w_done0; apply w_ifT; rfl; apply w_reg; apply w_mv; apply w_fld; rfl; apply w_ld; rfl; exact hc_i 0 rfl rfl)
      refine w_bs1 rfl rfl (fun b3 T3 => ?_)
      refine w_appL (R := RInt) 1 rfl rfl hrow rfl (GRow.lit1 (x := (c.fr[i].sec : Int)) rfl ⟨rfl, by omega, by omega⟩) cell1_int (by omega) (by rw [htl]; simp; omega) (by rw [htl]; simp; omega) (fun v' h' ho' => ?_)
      refine w_vs d' (h' :: [_, _, _]) (Vs.drop (List.sublist_cons_self _ _)) ?_
      (apply w_mv; apply w_done0; apply w_reg; apply w_add; rfl; rfl; omega; omega; apply w_mvi; rfl; apply w_done0)
      rw [hh] at hnext
      exact ⟨(i + 1, v', h'), by simp only; omega, ⟨rfl, rfl, rfl, rfl, trivial⟩, rfl, e, by simp only [hnext]; exact ho', rfl⟩
    | false =>
      (apply w_done0; apply w_sq; apply w_reg; apply w_fld; rfl; apply w_ld; rfl; exact hc_i 0 rfl rfl; apply w_done0; apply w_ifF; rfl; apply w_reg; apply w_mv)
      refine w_bs1 rfl rfl (fun b3 T3 => ?_)
      refine w_appL (R := RInt) 1 rfl rfl hrow rfl (GRow.lit1 (x := (-1 : Int)) rfl ⟨rfl, by omega, by omega⟩) cell1_int (by omega) (by rw [htl]; simp; omega) (by rw [htl]; simp; omega) (fun v' h' ho' => ?_)
      refine w_vs d' (h' :: [_, _, _]) (Vs.drop (List.sublist_cons_self _ _)) ?_
      (apply w_mv; apply w_done0; apply w_reg; apply w_add; rfl; rfl; omega; omega; apply w_mvi; rfl; apply w_done0)
      rw [hh] at hnext
      exact ⟨(i + 1, v', h'), by simp only; omega, ⟨rfl, rfl, rfl, rfl, trivial⟩, rfl, e, by simp only [hnext]; exact ho', rfl⟩
  · (apply w_sq; apply w_reg; apply w_lss; rfl; rfl; apply w_done0; apply w_sq; refine w_ifdF rfl (by omega) ?_; apply w_exit; apply w_sq; apply w_reg; apply w_mv; apply w_mv; apply w_done0; apply w_ret)
    rw [List.take_of_length_le (by omega)] at hrow
    exact finV [v] ⟨rfl, trivial⟩ Vs.freeze ⟨rfl, GRow.rsl (R := RInt) hrow mono_int (by omega) (Le.join_left _ _) (Le.join_right _ _)⟩

def HitsOk (P : Program) (f : FuncId) : Prop := ∀ {d : PHeap} {c : CD} {dv cv : Value} {L : List PHeap}, Ca d c dv cv L → GRead P f [cv] d L (.int .i64 (wr c.hits))
def g_cache_Cache_Hits (f_cache_Cache_none : Nat) : GFun :=
 ⟨9, [(.tmp 2)],
 (.seq
 (.reg false (.op false ⟨(some 2), none, (.mv (.const (.int .i64 0)))⟩ .done))
 (.seq (.seq
 (.reg false (.op false ⟨(some 3), none, (.mv (.tmp 0))⟩
  (.op false ⟨(some 4), none, (.call f_cache_Cache_none [(.tmp 3)])⟩ .done))) (.cond (.tmp 4)
 (.seq
 (.reg false (.op false ⟨(some 2), none, (.mv (.const (.int .i64 0)))⟩ .done)) .ret) .skip))
 (.seq
 (.reg false (.op false ⟨(some 5), none, (.mv (.tmp 0))⟩
  (.op false ⟨(some 6), none, (.nilc (.tmp 5))⟩
  (.op false ⟨(some 7), none, (.fld 4 (.tmp 6))⟩
  (.op false ⟨(some 8), none, (.ld none (.tmp 7))⟩
  (.op false ⟨(some 2), none, (.mv (.tmp 8))⟩ .done)))))) .ret)))⟩

theorem chits_ok {P : Program} {f f1 : FuncId} (hd : dec P f = some (g_cache_Cache_Hits f1)) (h1 : CNoneOk P f1) : HitsOk P f := by
  intro d c dv cv L h
  obtain ⟨b, T, bf, cp, cb, hf, s, r, bd, rfl, rfl, rfl, hg, hl1, hl2, hh, hfr⟩ := h
  refine GCall_of hd (Nat.le_of_ble_eq_true rfl) ?_
  show gwp P _ _ _ _ _
  (apply w_sq; apply w_reg; apply w_mvi; rfl; apply w_done0; apply w_sq; apply w_sq; apply w_reg; apply w_mvp; rfl)
  refine w_read (A := [_]) (B := [_, _]) rfl rfl h1 ?_
  (apply w_done0; apply w_ifF; rfl; apply w_skip; apply w_sq; apply w_reg; apply w_mvp; rfl; apply w_nilc; rfl; apply w_fld; rfl; apply w_ld; rfl; exact hc_i 0 rfl rfl; apply w_mvi; rfl; apply w_done0; apply w_ret)
  exact finR rfl (List.Sublist.refl _)

def MissesOk (P : Program) (f : FuncId) : Prop := ∀ {d : PHeap} {c : CD} {dv cv : Value} {L : List PHeap}, Ca d c dv cv L → GRead P f [cv] d L (.int .i64 (wr c.miss))
def g_cache_Cache_Misses (f_cache_Cache_none : Nat) : GFun :=
 ⟨9, [(.tmp 2)],
 (.seq
 (.reg false (.op false ⟨(some 2), none, (.mv (.const (.int .i64 0)))⟩ .done))
 (.seq (.seq
 (.reg false (.op false ⟨(some 3), none, (.mv (.tmp 0))⟩
  (.op false ⟨(some 4), none, (.call f_cache_Cache_none [(.tmp 3)])⟩ .done))) (.cond (.tmp 4)
 (.seq
 (.reg false (.op false ⟨(some 2), none, (.mv (.const (.int .i64 0)))⟩ .done)) .ret) .skip))
 (.seq
 (.reg false (.op false ⟨(some 5), none, (.mv (.tmp 0))⟩
  (.op false ⟨(some 6), none, (.nilc (.tmp 5))⟩
  (.op false ⟨(some 7), none, (.fld 5 (.tmp 6))⟩
  (.op false ⟨(some 8), none, (.ld none (.tmp 7))⟩
  (.op false ⟨(some 2), none, (.mv (.tmp 8))⟩ .done)))))) .ret)))⟩

theorem cmisses_ok {P : Program} {f f1 : FuncId} (hd : dec P f = some (g_cache_Cache_Misses f1)) (h1 : CNoneOk P f1) : MissesOk P f := by
  intro d c dv cv L h
  obtain ⟨b, T, bf, cp, cb, hf, s, r, bd, rfl, rfl, rfl, hg, hl1, hl2, hh, hfr⟩ := h
  refine GCall_of hd (Nat.le_of_ble_eq_true rfl) ?_
  show gwp P _ _ _ _ _
  (apply w_sq; apply w_reg; apply w_mvi; rfl; apply w_done0; apply w_sq; apply w_sq; apply w_reg; apply w_mvp; rfl)
  refine w_read (A := [_]) (B := [_, _]) rfl rfl h1 ?_
  (apply w_done0; apply w_ifF; rfl; apply w_skip; apply w_sq; apply w_reg; apply w_mvp; rfl; apply w_nilc; rfl; apply w_fld; rfl; apply w_ld; rfl; exact hc_i 0 rfl rfl; apply w_mvi; rfl; apply w_done0; apply w_ret)
  exact finR rfl (List.Sublist.refl _)

def CacheNewOk (P : Program) (f : FuncId) : Prop := ∀ {d : PHeap} {D : DevD} {dv : Value} {LD : List PHeap} {n : Nat}, Dv d D dv LD → 1 ≤ D.syn.length → 1 ≤ n → n ≤ 64 →
  GCall P f [dv, .int .i64 n] d LD (Ret fun r d' L' => d' = d ∧ ∃ cv LC, r = .tuple #[cv, .int .i64 0] ∧ L' = LC ++ LD ∧ Ca d ⟨List.replicate n fz, List.range n, 0, 0, 0⟩ dv cv LC)
def g_cache_New (f_device_Device_Size : Nat) : GFunX :=
 (.mk 37 [(.tmp 4), (.tmp 5)]
 (.seq (.g
 (.reg false (.op false ⟨(some 4), none, (.mv (.const (.pointer none)))⟩
  (.op false ⟨(some 5), none, (.mv (.const (.int .i64 0)))⟩ .done))))
 (.seq (.g (.block 0
 (.seq
 (.reg false (.op false ⟨(some 9), none, (.mv (.tmp 0))⟩
  (.op false ⟨(some 10), none, (.call f_device_Device_Size [(.tmp 9)])⟩
  (.op false ⟨(some 11), none, (.bin .eql (.tmp 10) (.const (.int .i64 0)))⟩
  (.op false ⟨(some 8), none, (.mv (.tmp 11))⟩ .done))))) (.cond (.tmp 8)
 (.seq
 (.reg false (.op false ⟨(some 4), none, (.mv (.const (.pointer none)))⟩
  (.op false ⟨(some 5), none, (.mv (.const (.int .i64 1)))⟩ .done))) .ret)
 (.seq
 (.reg false (.op false ⟨(some 13), none, (.mv (.tmp 1))⟩
  (.op false ⟨(some 14), none, (.bin .lss (.tmp 13) (.const (.int .i64 1)))⟩
  (.op false ⟨(some 15), none, (.mv (.tmp 14))⟩
  (.op false ⟨(some 16), (some (15, false)), (.mv (.tmp 1))⟩
  (.op false ⟨(some 17), (some (15, false)), (.bin .gtr (.tmp 16) (.const (.int .i64 64)))⟩
  (.op false ⟨(some 18), none, (.pick (.tmp 15) (.const (.bool true)) (.tmp 17))⟩
  (.op false ⟨(some 12), none, (.mv (.tmp 18))⟩ .done)))))))) (.cond (.tmp 12)
 (.seq
 (.reg false (.op false ⟨(some 4), none, (.mv (.const (.pointer none)))⟩
  (.op false ⟨(some 5), none, (.mv (.const (.int .i64 2)))⟩ .done))) .ret) .skip))))))
 (.seq (.g
 (.reg true (.op true ⟨(some 19), none, (.mv (.tmp 0))⟩
  (.op true ⟨(some 20), none, (.mv (.tmp 1))⟩
  (.op true ⟨(some 22), none, (.mv (.tmp 1))⟩
  (.alt ⟨(some 21), none, (.mks 5 56 [(.bool false), (.int .i64 0), (.int .i64 0), (.bool false), (.slice none 0 0)] (.tmp 20) (.tmp 20))⟩
  (.op false ⟨(some 23), none, (.mop (.mkc 8 (.tmp 22)))⟩
  (.op true ⟨(some 24), none, (.bld [(0, 1), (1, 1), (2, 1), (3, 1), (4, 1), (5, 1)] [(.pointer none), (.slice none 0 0), (.chan none), (.int .i64 0), (.int .i64 0), (.int .i64 0)] [(0, (.tmp 19)), (1, (.tmp 21)), (2, (.tmp 23))])⟩
  (.op false ⟨(some 25), none, (.box (.tmp 24))⟩
  (.bar (.op true ⟨(some 6), none, (.mv (.tmp 25))⟩ .done))))) (.op false ⟨(some 23), none, (.mop (.mkc 8 (.tmp 22)))⟩
  (.op false ⟨(some 21), none, (.mks 5 56 [(.bool false), (.int .i64 0), (.int .i64 0), (.bool false), (.slice none 0 0)] (.tmp 20) (.tmp 20))⟩
  (.op true ⟨(some 24), none, (.bld [(0, 1), (1, 1), (2, 1), (3, 1), (4, 1), (5, 1)] [(.pointer none), (.slice none 0 0), (.chan none), (.int .i64 0), (.int .i64 0), (.int .i64 0)] [(0, (.tmp 19)), (1, (.tmp 21)), (2, (.tmp 23))])⟩
  (.op false ⟨(some 25), none, (.box (.tmp 24))⟩
  (.bar (.op true ⟨(some 6), none, (.mv (.tmp 25))⟩ .done))))))))))))
 (.seq (.seq (.g
 (.reg false (.op false ⟨(some 26), none, (.mv (.tmp 1))⟩
  (.op false ⟨(some 27), none, (.mv (.const (.int .i64 0)))⟩ .done)))) (.block 1 (.loop
 (.seq (.g
 (.reg false (.op false ⟨(some 28), none, (.bin .lss (.tmp 27) (.tmp 26))⟩ .done)))
 (.seq (.g (.cond (.tmp 28) .skip (.exit 1)))
 (.seq (.block 2
 (.seq (.g
 (.reg false (.op false ⟨(some 29), none, (.mv (.tmp 27))⟩
  (.op false ⟨(some 7), none, (.mv (.tmp 29))⟩ .done)))) (.snd (.op false ⟨(some 30), none, (.mv (.tmp 6))⟩
  (.op false ⟨(some 31), none, (.nilc (.tmp 30))⟩
  (.op false ⟨(some 32), none, (.fld 2 (.tmp 31))⟩
  (.op false ⟨(some 33), none, (.ld none (.tmp 32))⟩
  (.op false ⟨(some 34), none, (.mv (.tmp 7))⟩ .done))))) none (.tmp 33) (.tmp 34) .done))) (.g
 (.reg false (.op false ⟨(some 35), none, (.bin .add (.tmp 27) (.const (.int .i64 1)))⟩
  (.op false ⟨(some 27), none, (.mv (.tmp 35))⟩ .done)))))))))) (.g
 (.seq
 (.reg false (.op false ⟨(some 36), none, (.mv (.tmp 6))⟩
  (.op false ⟨(some 4), none, (.mv (.tmp 36))⟩
  (.op false ⟨(some 5), none, (.mv (.const (.int .i64 0)))⟩ .done)))) .ret)))))))

theorem cnew_ok {P : Program} {f f1 : FuncId} (hd : decx false false P f = some (g_cache_New f1)) (h1 : DSizeOk P f1) : CacheNewOk P f := by
  intro d D dv LD n hD hs hn1 hn2
  have hD0 := hD
  obtain ⟨bd, -, -, -, -, -, -, rfl, -⟩ := hD
  refine GCallX_of hd (Nat.le_of_ble_eq_true rfl) ?_
  show xwp P _ _ _ _ _
  (apply x_sq; apply x_g; apply w_reg; apply w_mvp; rfl; apply w_mvi; rfl; apply w_done0; apply x_sq; apply x_g; apply w_block; apply w_sq; apply w_reg; apply w_mvp; rfl)
  refine w_readP (A := LD) (B := []) (by rw [List.append_nil]) rfl (h1 hD0) ?_
  (apply w_eql; rfl; rfl; apply w_mvb; rfl; apply w_done0; refine w_ifdF rfl (by omega) ?_; apply w_sq; apply w_reg; apply w_mvi; rfl; apply w_lss; rfl; rfl; apply w_mvb; rfl; refine w_gdF rfl (by omega) ?_; apply w_gT; rfl; apply w_mvi; rfl; apply w_gT; rfl; apply w_gtr; rfl; rfl; apply w_pickFb; rfl; rfl; apply w_mvb; rfl; apply w_done0; refine w_ifdF rfl (by omega) ?_; apply w_skip; apply x_sq; apply x_g)
  refine w_cut (fun ρ d' L' => d' = d ∧ ∃ b T bf Tf cb, SlotsAre ρ [(1, .int .i64 n), (6, .pointer (some ⟨b, 0, none⟩))] ∧
    L' = [bx b T [.pointer (some ⟨bd, 0, none⟩), .slice (some ⟨bf, 0, none⟩) n n, .chan (some cb), .int .i64 0, .int .i64 0, .int .i64 0], bx bf Tf (zrow [.bool false, .int .i64 0, .int .i64 0, .bool false, .slice none 0 0] (n * 5)), sg cb (.chan n #[] false 0 0 false)] ++ LD) ?_ ?_
  · refine w_drawnA [] _ rfl ?_
    (apply w_mvp; rfl; apply w_mvi; rfl; apply w_mvi; rfl)
    refine w_alt ?_ ?_
    · refine w_mks rfl rfl (Nat.le_refl n) (by omega) (by omega) (fun bf Tf => ?_)
      refine w_mkc rfl (by omega) (by omega) (fun cb => ?_)
      refine w_bld (cs := [.pointer (some ⟨bd, 0, none⟩), .slice (some ⟨bf, 0, none⟩) n n, .chan (some cb), .int .i64 0, .int .i64 0, .int .i64 0]) rfl ?_
      refine w_boxa rfl (fun b T => ?_)
      (apply w_bar; apply w_mvp; rfl)
      exact w_doneE ⟨d, _ :: _ :: _ :: LD, Vs.perm ((List.Perm.swap _ _ LD).cons _), rfl, b, T, bf, Tf, cb, ⟨rfl, rfl, trivial⟩, rfl⟩
    · refine w_mkc rfl (by omega) (by omega) (fun cb => ?_)
      refine w_mks rfl rfl (Nat.le_refl n) (by omega) (by omega) (fun bf Tf => ?_)
      refine w_bld (cs := [.pointer (some ⟨bd, 0, none⟩), .slice (some ⟨bf, 0, none⟩) n n, .chan (some cb), .int .i64 0, .int .i64 0, .int .i64 0]) rfl ?_
      refine w_boxa rfl (fun b T => ?_)
      (apply w_bar; apply w_mvp; rfl)
      exact w_doneE ⟨d, [_, _, _] ++ LD, Vs.refl _ _, rfl, b, T, bf, Tf, cb, ⟨rfl, rfl, trivial⟩, rfl⟩
  · rintro ρ d' L' ⟨rfl, b, T, bf, Tf, cb, hsl, rfl⟩
    refine x_slots _ hsl ?_
    (apply x_sq; apply x_sq; apply x_g; apply w_reg; apply w_mvi; rfl; apply w_mvi; rfl; apply w_done0; apply x_block)
    refine x_loopS (α := Nat) (fun i => [(6, .pointer (some ⟨b, 0, none⟩)), (26, .int .i64 n), (27, .int .i64 i)])
      (fun i d2 L' => d2 = d' ∧ i ≤ n ∧ L' = [bx b T [.pointer (some ⟨bd, 0, none⟩), .slice (some ⟨bf, 0, none⟩) n n, .chan (some cb), .int .i64 0, .int .i64 0, .int .i64 0], bx bf Tf (zrow [.bool false, .int .i64 0, .int .i64 0, .bool false, .slice none 0 0] (n * 5)), sg cb (.chan n ((List.range i).map fun i : Nat => Value.int .i64 i).toArray false i 0 false)] ++ LD)
      (fun i => n - i) 0 ⟨rfl, rfl, rfl, trivial⟩ ⟨rfl, by omega, rfl⟩ ?_
    rintro i ρ d2 L2 ⟨rfl, hi, rfl⟩
    by_cases e : i < n
    · (apply x_sq; apply x_g; apply w_reg; apply w_lss; rfl; rfl; apply w_done0; apply x_sq; apply x_g; refine w_ifdT rfl (by omega) ?_; apply w_skip; apply x_sq; apply x_block; apply x_sq; apply x_g; apply w_reg; apply w_mvi; rfl; apply w_mvi; rfl; apply w_done0; apply x_snd; apply w_mvp; rfl; apply w_nilc; rfl; apply w_fld; rfl; apply w_ld; rfl; exact hc_i 0 rfl rfl; apply w_mvi; rfl; apply w_done0)
      refine x_send (cap := n) (buf := (List.range i).map fun i : Nat => Value.int .i64 i) (v := .int .i64 i) 2 rfl rfl (by simpa using e) rfl ?_
      (apply w_done0; apply x_g; apply w_reg; apply w_add; rfl; rfl; omega; omega; apply w_mvi; rfl; apply w_done0)
      refine ⟨i + 1, by omega, ⟨rfl, rfl, rfl, trivial⟩, rfl, e, ?_⟩
      rw [List.range_succ, List.map_append]
      rfl
    · (apply x_sq; apply x_g; apply w_reg; apply w_lss; rfl; rfl; apply w_done0; apply x_sq; apply x_g; refine w_ifdF rfl (by omega) ?_; apply w_exit; apply x_g; apply w_sq; apply w_reg; apply w_mvp; rfl; apply w_mvp; rfl; apply w_mvi; rfl; apply w_done0; apply w_ret)
      have ei : i = n := by omega
      subst ei
      refine fin2 rfl rfl (List.Sublist.refl _) ⟨rfl, _, _, rfl, rfl, ?_⟩
      have hw0 : wr 0 = 0 := rfl
      have := Ca.mk (c := ⟨List.replicate i fz, List.range i, 0, 0, 0⟩) (d := d2) (b := b) (T := T) (cb := cb) (s := i) (r := 0) (bd := bd) (n := i) (by simp) (GRow.zero (b := bf) (T := Tf) (R := RFr) (x := fz) rfl (by omega) ⟨none, 0, 0, rfl, RSl.nil⟩ (by omega)) hn1 hn2 hn1 (fun j hj => by simpa using hj)
      exact this
end Go.Gk.Cch
end

section
namespace Go.Gk.Node
open Go Go.Gk
attribute [local irreducible] gwp gws

def CloneOk {α : Type} (R : PHeap → List Value → α → Prop) (by_ : Nat) (P : Program) (f : FuncId) : Prop := ∀ {d : PHeap} {v : Value} {xs : List α}, RSl 1 R d v xs → xs.length * by_ ≤ 140737488355328 →
  GCall P f [v] d [] (Ret fun r d' L' => d' = d ∧ ∃ h, L' = [h] ∧ GRow 1 R d r xs h)
def g_slices_Clone_byte_byte : GFun :=
 ⟨8, [(.tmp 2)],
 (.seq
 (.reg false (.op false ⟨(some 2), none, (.mv (.const (.slice none 0 0)))⟩ .done))
 (.seq (.seq
 (.reg false (.op false ⟨(some 3), none, (.mv (.tmp 0))⟩
  (.op false ⟨(some 4), none, (.eqs false (.tmp 3) (.const (.slice none 0 0)))⟩ .done))) (.cond (.tmp 4)
 (.seq
 (.reg false (.op false ⟨(some 2), none, (.mv (.const (.slice none 0 0)))⟩ .done)) .ret) .skip))
 (.seq
 (.reg false (.op false ⟨(some 5), none, (.bsl 0 1 [(.int .u8 0)] [])⟩
  (.op false ⟨(some 6), none, (.mv (.tmp 0))⟩
  (.op false ⟨(some 7), none, (.app 1 1 [(.int .u8 0)] (.tmp 5) (.tmp 6))⟩
  (.op false ⟨(some 2), none, (.mv (.tmp 7))⟩ .done))))) .ret)))⟩

theorem clone_byte_byte {P : Program} {f : FuncId} (hd : dec P f = some g_slices_Clone_byte_byte) : CloneOk RByte 1 P f := by
  intro d v xs hv hb
  have hv' := hv
  have hxl := RSl.len_le hv
  obtain ⟨a, c, b, o, rfl, h2, h3, h4, h5, _⟩ := hv
  refine GCall_of hd (Nat.le_of_ble_eq_true rfl) ?_
  show gwp P _ _ _ _ _
  cases a with
  | none =>
    have : xs = [] := List.eq_nil_of_length_eq_zero (by have := h4 rfl; omega)
    subst this
    apply w_sq; apply w_reg
    refine w_vs d [emp] Vs.emp ?_
    (apply w_mvs; rfl; apply w_done0; apply w_sq; apply w_sq; apply w_reg; apply w_mvs; rfl; apply w_eqsN; rfl; rfl; apply w_done0; apply w_ifT; rfl; apply w_sq; apply w_reg; apply w_mvs; rfl; apply w_done0; apply w_ret)
    exact fin1 (L' := [emp]) rfl (List.Sublist.refl _) ⟨rfl, emp, rfl, GRow.nil⟩
  | some a =>
    (apply w_sq; apply w_reg; apply w_mvs; rfl; apply w_done0; apply w_sq; apply w_sq; apply w_reg; apply w_mvs; rfl; apply w_eqsS; rfl; rfl; apply w_done0; apply w_ifF; rfl; apply w_skip; apply w_sq; apply w_reg)
    refine w_bsl (cs := []) (by omega) rfl (fun b8 T8 => ?_)
    (apply w_mvs; rfl)
    refine w_appG 0 rfl rfl (GRow.lit0 (R := RByte) (sz := 1)) rfl (RSl.src (R := RByte) (xs := xs) hv' cell1_byte (by omega) _) (by omega) (by simp; omega) (by simp; omega) (fun v5 h5 hrow5 => ?_)
    (apply w_mv; apply w_done0; apply w_ret)
    exact fin1 (L' := [h5]) rfl (List.Sublist.refl _) ⟨rfl, h5, rfl, hrow5⟩
def g_slices_Clone_int_int : GFun :=
 ⟨8, [(.tmp 2)],
 (.seq
 (.reg false (.op false ⟨(some 2), none, (.mv (.const (.slice none 0 0)))⟩ .done))
 (.seq (.seq
 (.reg false (.op false ⟨(some 3), none, (.mv (.tmp 0))⟩
  (.op false ⟨(some 4), none, (.eqs false (.tmp 3) (.const (.slice none 0 0)))⟩ .done))) (.cond (.tmp 4)
 (.seq
 (.reg false (.op false ⟨(some 2), none, (.mv (.const (.slice none 0 0)))⟩ .done)) .ret) .skip))
 (.seq
 (.reg false (.op false ⟨(some 5), none, (.bsl 0 1 [(.int .i64 0)] [])⟩
  (.op false ⟨(some 6), none, (.mv (.tmp 0))⟩
  (.op false ⟨(some 7), none, (.app 1 8 [(.int .i64 0)] (.tmp 5) (.tmp 6))⟩
  (.op false ⟨(some 2), none, (.mv (.tmp 7))⟩ .done))))) .ret)))⟩

theorem clone_int_int {P : Program} {f : FuncId} (hd : dec P f = some g_slices_Clone_int_int) : CloneOk RInt 8 P f := by
  intro d v xs hv hb
  have hv' := hv
  have hxl := RSl.len_le hv
  obtain ⟨a, c, b, o, rfl, h2, h3, h4, h5, _⟩ := hv
  refine GCall_of hd (Nat.le_of_ble_eq_true rfl) ?_
  show gwp P _ _ _ _ _
  cases a with
  | none =>
    have : xs = [] := List.eq_nil_of_length_eq_zero (by have := h4 rfl; omega)
    subst this
    apply w_sq; apply w_reg
    refine w_vs d [emp] Vs.emp ?_
    (apply w_mvs; rfl; apply w_done0; apply w_sq; apply w_sq; apply w_reg; apply w_mvs; rfl; apply w_eqsN; rfl; rfl; apply w_done0; apply w_ifT; rfl; apply w_sq; apply w_reg; apply w_mvs; rfl; apply w_done0; apply w_ret)
    exact fin1 (L' := [emp]) rfl (List.Sublist.refl _) ⟨rfl, emp, rfl, GRow.nil⟩
  | some a =>
    (apply w_sq; apply w_reg; apply w_mvs; rfl; apply w_done0; apply w_sq; apply w_sq; apply w_reg; apply w_mvs; rfl; apply w_eqsS; rfl; rfl; apply w_done0; apply w_ifF; rfl; apply w_skip; apply w_sq; apply w_reg)
    refine w_bsl (cs := []) (by omega) rfl (fun b8 T8 => ?_)
    (apply w_mvs; rfl)
    refine w_appG 0 rfl rfl (GRow.lit0 (R := RInt) (sz := 1)) rfl (RSl.src (R := RInt) (xs := xs) hv' cell1_int (by omega) _) (by omega) (by simp; omega) (by simp; omega) (fun v5 h5 hrow5 => ?_)
    (apply w_mv; apply w_done0; apply w_ret)
    exact fin1 (L' := [h5]) rfl (List.Sublist.refl _) ⟨rfl, h5, rfl, hrow5⟩
end Go.Gk.Node
end

section
namespace Go.Gk.Pgr
open Go Go.Gk Go.Gk.Dev Go.Gk.Cch Go.Gk.Node
attribute [local irreducible] gwp gws xwp

abbrev kI (k : Int) : Value := .int .i64 k
abbrev mpI (mb : Nat) (ms : List (Int × Value × Nat)) (clk : Nat) : PHeap := mp kI id mb ms clk
def MapOk (d : PHeap) (frm : Nat) (kinds : List Int) (fb : Nat → Sec) (ms : List (Int × Value × Nat)) : Prop := ∀ i, i < kinds.length → kinds.getD i 0 = 1 → ∃ v, mGet ((frm + i : Nat) : Int) ms = some v ∧ RBytes d v (fb i) ∧ (fb i).length = 256
theorem MapOk.mono {d d' : PHeap} {frm : Nat} {kinds : List Int} {fb : Nat → Sec} {ms : List (Int × Value × Nat)} (h : MapOk d frm kinds fb ms) (hl : Le d d') : MapOk d' frm kinds fb ms := fun i hi hk =>
  let ⟨v, h1, h2, h3⟩ := h i hi hk
  ⟨v, h1, h2.mono hl, h3⟩
def Pg (d : PHeap) (s : PD) (dv pv : Value) (L : List PHeap) : Prop :=
  ∃ b T cv bk cp hk mb ms clk c LC LD bd, pv = .pointer (some ⟨b, 0, none⟩) ∧ dv = .pointer (some ⟨bd, 0, none⟩) ∧
    L = bx b T [dv, cv, .int .i64 s.frm, .slice (some ⟨bk, 0, none⟩) s.kinds.length cp, .map (some mb), .int .i64 (wr s.round), .int .i64 (wr s.tc)] :: hk :: mpI mb ms clk :: (LC ++ LD) ∧
    GRow 1 RInt d (.slice (some ⟨bk, 0, none⟩) s.kinds.length cp) s.kinds hk ∧ MapOk d s.frm s.kinds s.fb ms ∧ Ca d c dv cv LC ∧ Dv d ⟨s.syn, []⟩ dv LD ∧ CacheOk s c ∧ Good s
theorem Pg.mono {d d' : PHeap} {s : PD} {dv pv : Value} {L : List PHeap} (h : Pg d s dv pv L) (hl : Le d d') : Pg d' s dv pv L :=
  let ⟨b, T, cv, bk, cp, hk, mb, ms, clk, c, LC, LD, bd, h1, h2, h3, h4, h5, h6, h7, h8, h9⟩ := h
  ⟨b, T, cv, bk, cp, hk, mb, ms, clk, c, LC, LD, bd, h1, h2, h3, GRow.mono (R := RInt) mono_int h4 hl, h5.mono hl, h6.mono hl, h7.mono hl, h8, h9⟩
theorem Pg.ptr {d : PHeap} {s : PD} {dv pv : Value} {L : List PHeap} (h : Pg d s dv pv L) : ∃ b, pv = .pointer (some ⟨b, 0, none⟩) := let ⟨b, _, _, _, _, _, _, _, _, _, _, _, _, h1, _⟩ := h; ⟨b, h1⟩
theorem Pg.good {d : PHeap} {s : PD} {dv pv : Value} {L : List PHeap} (h : Pg d s dv pv L) : Good s := let ⟨_, _, _, _, _, _, _, _, _, _, _, _, _, _, _, _, _, _, _, _, _, h9⟩ := h; h9
theorem Pg.mk {d : PHeap} {s : PD} {b : Nat} {T : TypeId} {cv : Value} {bk cp n : Nat} {hk : PHeap} {mb : Nat} {ms : List (Int × Value × Nat)} {clk : Nat} {c : CD} {LC LD : List PHeap} {bd : Nat} (hn : s.kinds.length = n)
    (h4 : GRow 1 RInt d (.slice (some ⟨bk, 0, none⟩) n cp) s.kinds hk) (h5 : MapOk d s.frm s.kinds s.fb ms) (h6 : Ca d c (.pointer (some ⟨bd, 0, none⟩)) cv LC) (h7 : Dv d ⟨s.syn, []⟩ (.pointer (some ⟨bd, 0, none⟩)) LD) (h8 : CacheOk s c) (h9 : Good s) :
    Pg d s (.pointer (some ⟨bd, 0, none⟩)) (.pointer (some ⟨b, 0, none⟩)) (bx b T [.pointer (some ⟨bd, 0, none⟩), cv, .int .i64 s.frm, .slice (some ⟨bk, 0, none⟩) n cp, .map (some mb), .int .i64 (wr s.round), .int .i64 (wr s.tc)] :: hk :: mpI mb ms clk :: (LC ++ LD)) := by
  subst hn
  exact ⟨b, T, cv, bk, cp, hk, mb, ms, clk, c, LC, LD, bd, rfl, rfl, rfl, h4, h5, h6, h7, h8, h9⟩

def PNoneOk (P : Program) (f : FuncId) : Prop := ∀ {d : PHeap} {b bd : Nat} {T : TypeId} {l : List Value}, GRead P f [.pointer (some ⟨b, 0, none⟩)] d [bx b T (.pointer (some ⟨bd, 0, none⟩) :: l)] (.bool false)
def g_pager_Pager_none : GFun :=
 ⟨12, [(.tmp 2)],
 (.seq
 (.reg false (.op false ⟨(some 2), none, (.mv (.const (.bool false)))⟩ .done))
 (.seq
 (.reg false (.op false ⟨(some 3), none, (.mv (.tmp 0))⟩
  (.op false ⟨(some 4), none, (.eqp false (.tmp 3) (.const (.pointer none)))⟩
  (.op false ⟨(some 5), none, (.mv (.tmp 4))⟩
  (.op false ⟨(some 6), (some (5, false)), (.mv (.tmp 0))⟩
  (.op false ⟨(some 7), (some (5, false)), (.nilc (.tmp 6))⟩
  (.op false ⟨(some 8), (some (5, false)), (.fld 0 (.tmp 7))⟩
  (.op false ⟨(some 9), (some (5, false)), (.ld none (.tmp 8))⟩
  (.op false ⟨(some 10), (some (5, false)), (.eqp false (.tmp 9) (.const (.pointer none)))⟩
  (.op false ⟨(some 11), none, (.pick (.tmp 5) (.const (.bool true)) (.tmp 10))⟩
  (.op false ⟨(some 2), none, (.mv (.tmp 11))⟩ .done))))))))))) .ret))⟩

theorem pnone_ok {P : Program} {f : FuncId} (hd : dec P f = some g_pager_Pager_none) : PNoneOk P f := by
  intro d b bd T l
  refine GCall_of hd (Nat.le_of_ble_eq_true rfl) ?_
  show gwp P _ _ _ _ _
  (apply w_sq; apply w_reg; apply w_mvb; rfl; apply w_done0; apply w_sq; apply w_reg; apply w_mvp; rfl; apply w_eqpS; rfl; rfl; apply w_mvb; rfl; apply w_gT; rfl; apply w_mvp; rfl; apply w_gT; rfl; apply w_nilc; rfl; apply w_gT; rfl; apply w_fld; rfl; apply w_gT; rfl; apply w_ld; rfl; exact hc_i 0 rfl rfl; apply w_gT; rfl; apply w_eqpS; rfl; rfl; apply w_pickFb; rfl; rfl; apply w_mvb; rfl; apply w_done0; apply w_ret)
  exact finR rfl (List.Sublist.refl _)

def kindV (frm : Nat) (ks : List Int) (k : Int) : Int := if (frm : Int) ≤ k ∧ k < (frm : Int) + ks.length then ks.getD (k - frm).toNat 0 else -1
def KindOk (P : Program) (f : FuncId) : Prop := ∀ {d : PHeap} {b bk cp frm : Nat} {T : TypeId} {x0 x1 x4 x5 x6 : Value} {hk : PHeap} {ks : List Int} {k : Int}, GRow 1 RInt d (.slice (some ⟨bk, 0, none⟩) ks.length cp) ks hk → frm ≤ 8192 →
  GRead P f [.pointer (some ⟨b, 0, none⟩), .int .i64 k] d [bx b T [x0, x1, .int .i64 frm, .slice (some ⟨bk, 0, none⟩) ks.length cp, x4, x5, x6], hk] (.int .i64 (kindV frm ks k))
def g_pager_Pager_kind : GFun :=
 ⟨37, [(.tmp 4)],
 (.seq
 (.reg false (.op false ⟨(some 4), none, (.mv (.const (.int .i64 0)))⟩ .done))
 (.seq (.seq
 (.reg true (.op true ⟨(some 5), none, (.mv (.tmp 1))⟩
  (.op true ⟨(some 6), none, (.mv (.tmp 0))⟩
  (.op true ⟨(some 7), none, (.nilc (.tmp 6))⟩
  (.op true ⟨(some 8), none, (.fld 2 (.tmp 7))⟩
  (.op true ⟨(some 9), none, (.ld none (.tmp 8))⟩
  (.op true ⟨(some 10), none, (.bin .lss (.tmp 5) (.tmp 9))⟩
  (.op true ⟨(some 11), none, (.mv (.tmp 10))⟩
  (.op true ⟨(some 12), (some (11, false)), (.mv (.tmp 1))⟩
  (.op true ⟨(some 13), (some (11, false)), (.mv (.tmp 0))⟩
  (.op true ⟨(some 14), (some (11, false)), (.nilc (.tmp 13))⟩
  (.op true ⟨(some 15), (some (11, false)), (.fld 2 (.tmp 14))⟩
  (.op true ⟨(some 16), (some (11, false)), (.ld none (.tmp 15))⟩
  (.op true ⟨(some 17), (some (11, false)), (.mv (.tmp 0))⟩
  (.op true ⟨(some 18), (some (11, false)), (.nilc (.tmp 17))⟩
  (.op true ⟨(some 19), (some (11, false)), (.fld 3 (.tmp 18))⟩
  (.op true ⟨(some 20), (some (11, false)), (.ld none (.tmp 19))⟩
  (.op true ⟨(some 21), (some (11, false)), (.len (.tmp 20))⟩
  (.op true ⟨(some 22), (some (11, false)), (.bin .add (.tmp 16) (.tmp 21))⟩
  (.op true ⟨(some 23), (some (11, false)), (.bin .geq (.tmp 12) (.tmp 22))⟩
  (.op true ⟨(some 24), none, (.pick (.tmp 11) (.const (.bool true)) (.tmp 23))⟩ .done))))))))))))))))))))) (.cond (.tmp 24)
 (.seq
 (.reg false (.op false ⟨(some 4), none, (.mv (.const (.int .i64 (-1))))⟩ .done)) .ret) .skip))
 (.seq
 (.reg true (.op true ⟨(some 25), none, (.mv (.tmp 0))⟩
  (.op true ⟨(some 26), none, (.nilc (.tmp 25))⟩
  (.op true ⟨(some 27), none, (.fld 3 (.tmp 26))⟩
  (.op true ⟨(some 28), none, (.ld none (.tmp 27))⟩
  (.op true ⟨(some 29), none, (.mv (.tmp 1))⟩
  (.op true ⟨(some 30), none, (.mv (.tmp 0))⟩
  (.op true ⟨(some 31), none, (.nilc (.tmp 30))⟩
  (.op true ⟨(some 32), none, (.fld 2 (.tmp 31))⟩
  (.op true ⟨(some 33), none, (.ld none (.tmp 32))⟩
  (.op true ⟨(some 34), none, (.bin .sub (.tmp 29) (.tmp 33))⟩
  (.op true ⟨(some 35), none, (.idx 1 (.tmp 28) (.tmp 34))⟩
  (.op true ⟨(some 36), none, (.ld none (.tmp 35))⟩
  (.bar (.op true ⟨(some 4), none, (.mv (.tmp 36))⟩ .done))))))))))))))) .ret)))⟩

theorem kind_ok {P : Program} {f : FuncId} (hd : dec P f = some g_pager_Pager_kind) : KindOk P f := by
  intro d b bk cp frm T x0 x1 x4 x5 x6 hk ks k hg hf
  have hlen := hg.len_le
  refine GCall_of hd (Nat.le_of_ble_eq_true rfl) ?_
  show gwp P _ _ _ _ _
  by_cases h1 : k < frm
  · (apply w_sq; apply w_reg; apply w_mvi; rfl; apply w_done0; apply w_sq; apply w_sq; apply w_drawn; apply w_mvi; rfl; apply w_mvp; rfl; apply w_nilc; rfl; apply w_fld; rfl; apply w_ld; rfl; exact hc_i 0 rfl rfl; apply w_lss; rfl; rfl; apply w_mvb; rfl; refine w_gdT rfl (by omega) ?_; apply w_gF; rfl; apply w_gF; rfl; apply w_gF; rfl; apply w_gF; rfl; apply w_gF; rfl; apply w_gF; rfl; apply w_gF; rfl; apply w_gF; rfl; apply w_gF; rfl; apply w_gF; rfl; apply w_gF; rfl; apply w_gF; rfl; apply w_pickTb; rfl; rfl; apply w_done; apply w_ifT; rfl; apply w_sq; apply w_reg; apply w_mvi; rfl; apply w_done0; apply w_ret)
    rw [show kindV frm ks k = -1 by unfold kindV; rw [if_neg (by omega)]]
    exact finR rfl (List.Sublist.refl _)
  · by_cases h2 : k < (frm : Int) + ks.length
    · obtain ⟨m, hm⟩ : ∃ m : Nat, k = (frm : Int) + m := ⟨(k - frm).toNat, by omega⟩
      subst hm
      have hml : m < ks.length := by omega
      obtain ⟨b1, T1, l1, c1, cs, q1, rfl, hcl, hcs, hle, ⟨rfl, -, -⟩, -⟩ := GRow.at (by omega) hg hml
      cases q1
      have c0 := hcs 0 _ rfl
      rw [show kindV frm ks ((frm : Int) + m) = ks[m] by
        unfold kindV; rw [if_pos (by omega), show ((frm : Int) + m - frm).toNat = m by omega, List.getD_eq_getElem?_getD, List.getElem?_eq_getElem hml]; rfl]
      (apply w_sq; apply w_reg; apply w_mvi; rfl; apply w_done0; apply w_sq; apply w_sq; apply w_drawn; apply w_mvi; rfl; apply w_mvp; rfl; apply w_nilc; rfl; apply w_fld; rfl; apply w_ld; rfl; exact hc_i 0 rfl rfl; apply w_lss; rfl; rfl; apply w_mvb; rfl; refine w_gdF rfl (by omega) ?_; apply w_gT; rfl; apply w_mvi; rfl; apply w_gT; rfl; apply w_mvp; rfl; apply w_gT; rfl; apply w_nilc; rfl; apply w_gT; rfl; apply w_fld; rfl; apply w_gT; rfl; apply w_ld; rfl; exact hc_i 0 rfl rfl; apply w_gT; rfl; apply w_mvp; rfl; apply w_gT; rfl; apply w_nilc; rfl; apply w_gT; rfl; apply w_fld; rfl; apply w_gT; rfl; apply w_ld; rfl; exact hc_i 0 rfl rfl; apply w_gT; rfl; apply w_len; rfl; apply w_gT; rfl; apply w_add; rfl; rfl; omega; omega; apply w_gT; rfl; apply w_geq; rfl; rfl; apply w_pickFb; rfl; rfl; apply w_done; refine w_ifdF rfl (by omega) ?_; apply w_skip; apply w_sq; apply w_drawn; apply w_mvp; rfl; apply w_nilc; rfl; apply w_fld; rfl; apply w_ld; rfl; exact hc_i 0 rfl rfl; apply w_mvi; rfl; apply w_mvp; rfl; apply w_nilc; rfl; apply w_fld; rfl; apply w_ld; rfl; exact hc_i 0 rfl rfl; apply w_sub; rfl; rfl; omega; omega)
      refine w_idxN m rfl rfl (by omega) hml ?_
      (apply w_ld; rfl; exact hc_i 1 rfl (by assumption); apply w_bar; apply w_mvi; rfl; apply w_done0; apply w_ret)
      exact finR rfl (List.Sublist.refl _)
    · (apply w_sq; apply w_reg; apply w_mvi; rfl; apply w_done0; apply w_sq; apply w_sq; apply w_drawn; apply w_mvi; rfl; apply w_mvp; rfl; apply w_nilc; rfl; apply w_fld; rfl; apply w_ld; rfl; exact hc_i 0 rfl rfl; apply w_lss; rfl; rfl; apply w_mvb; rfl; refine w_gdF rfl (by omega) ?_; apply w_gT; rfl; apply w_mvi; rfl; apply w_gT; rfl; apply w_mvp; rfl; apply w_gT; rfl; apply w_nilc; rfl; apply w_gT; rfl; apply w_fld; rfl; apply w_gT; rfl; apply w_ld; rfl; exact hc_i 0 rfl rfl; apply w_gT; rfl; apply w_mvp; rfl; apply w_gT; rfl; apply w_nilc; rfl; apply w_gT; rfl; apply w_fld; rfl; apply w_gT; rfl; apply w_ld; rfl; exact hc_i 0 rfl rfl; apply w_gT; rfl; apply w_len; rfl; apply w_gT; rfl; apply w_add; rfl; rfl; omega; omega; apply w_gT; rfl; apply w_geq; rfl; rfl; apply w_pickFb; rfl; rfl; apply w_done; refine w_ifdT rfl (by omega) ?_; apply w_sq; apply w_reg; apply w_mvi; rfl; apply w_done0; apply w_ret)
      rw [show kindV frm ks k = -1 by unfold kindV; rw [if_neg (by omega)]]
      exact finR rfl (List.Sublist.refl _)

def IndexOk (P : Program) (f : FuncId) : Prop := ∀ {d : PHeap} {v : Value} {xs : List Int} {x : Int}, RSl 1 RInt d v xs → GPure P f [v, .int .i64 x] d (.int .i64 (match place0 x xs with | some i => (i : Int) | none => -1))
def g_slices_Index_int_int : GFun :=
 ⟨19, [(.tmp 4)],
 (.seq
 (.reg false (.op false ⟨(some 4), none, (.mv (.const (.int .i64 0)))⟩ .done))
 (.seq (.seq
 (.reg false (.op false ⟨(some 6), none, (.mv (.tmp 0))⟩
  (.op false ⟨(some 7), none, (.len (.tmp 6))⟩
  (.op false ⟨(some 8), none, (.mv (.const (.int .i64 0)))⟩ .done)))) (.block 0 (.loop
 (.seq
 (.reg false (.op false ⟨(some 9), none, (.bin .lss (.tmp 8) (.tmp 7))⟩ .done))
 (.seq (.cond (.tmp 9) .skip (.exit 0))
 (.seq (.block 1
 (.seq
 (.reg false (.op false ⟨(some 10), none, (.mv (.tmp 8))⟩
  (.op false ⟨(some 5), none, (.mv (.tmp 10))⟩ .done)))
 (.seq
 (.reg false (.op false ⟨(some 11), none, (.mv (.tmp 1))⟩
  (.op false ⟨(some 12), none, (.mv (.tmp 0))⟩
  (.op false ⟨(some 13), none, (.mv (.tmp 5))⟩
  (.op false ⟨(some 14), none, (.idx 1 (.tmp 12) (.tmp 13))⟩
  (.op false ⟨(some 15), none, (.ld none (.tmp 14))⟩
  (.op false ⟨(some 16), none, (.bin .eql (.tmp 11) (.tmp 15))⟩ .done))))))) (.cond (.tmp 16)
 (.seq
 (.reg false (.op false ⟨(some 17), none, (.mv (.tmp 5))⟩
  (.op false ⟨(some 4), none, (.mv (.tmp 17))⟩ .done))) .ret) .skip))))
 (.reg false (.op false ⟨(some 18), none, (.bin .add (.tmp 8) (.const (.int .i64 1)))⟩
  (.op false ⟨(some 8), none, (.mv (.tmp 18))⟩ .done)))))))))
 (.seq
 (.reg false (.op false ⟨(some 4), none, (.mv (.const (.int .i64 (-1))))⟩ .done)) .ret)))⟩

theorem index_ok {P : Program} {f : FuncId} (hd : dec P f = some g_slices_Index_int_int) : IndexOk P f := by
  intro d v xs x hv
  have hlen := hv.len_le
  refine GCall_of hd (Nat.le_of_ble_eq_true rfl) ?_
  show gwp P _ _ _ _ _
  (apply w_sq; apply w_reg; apply w_mvi; rfl; apply w_done0; apply w_sq; apply w_sq; apply w_reg; apply w_mv; apply w_lenR; rfl; assumption; apply w_mvi; rfl; apply w_done0; apply w_block)
  refine w_loopN (α := Nat) (fun i => [(0, v), (1, .int .i64 x), (7, .int .i64 xs.length), (8, .int .i64 i)]) (fun _ => []) (fun i => i ≤ xs.length ∧ place0 x xs = (place0 x (xs.drop i)).map (· + i)) (fun i => xs.length - i) 0 ⟨rfl, rfl, rfl, rfl, trivial⟩ rfl ⟨by omega, by simp⟩ ?_
  rintro i ρ ⟨hi, hF⟩
  by_cases e : i < xs.length
  · rw [place0_drop e] at hF
    by_cases hx : x = xs[i]
    · (apply w_sq; apply w_reg; apply w_lss; rfl; rfl; apply w_done0; apply w_sq; refine w_ifdT rfl (by omega) ?_; apply w_skip; apply w_sq; apply w_block; apply w_sq; apply w_reg; apply w_mvi; rfl; apply w_mvi; rfl; apply w_done0; apply w_sq; apply w_reg; apply w_mvi; rfl; apply w_mv; apply w_mvi; rfl; refine w_idxR (sz := 1) (R := RInt) (by rfl) (by assumption) (by rfl) rfl (by omega) ?_; rintro _ _ _ _ _ ⟨rfl, _, _⟩; apply w_ld; rfl; exact hc_ds0 (by assumption) rfl; apply w_eql; rfl; rfl; apply w_done0; refine w_ifdT rfl (by omega) ?_; apply w_sq; apply w_reg; apply w_mvi; rfl; apply w_mvi; rfl; apply w_done0; apply w_ret)
      rw [if_pos hx, Option.map_some, Nat.zero_add] at hF
      refine finPi rfl ?_
      rw [hF]
    · (apply w_sq; apply w_reg; apply w_lss; rfl; rfl; apply w_done0; apply w_sq; refine w_ifdT rfl (by omega) ?_; apply w_skip; apply w_sq; apply w_block; apply w_sq; apply w_reg; apply w_mvi; rfl; apply w_mvi; rfl; apply w_done0; apply w_sq; apply w_reg; apply w_mvi; rfl; apply w_mv; apply w_mvi; rfl; refine w_idxR (sz := 1) (R := RInt) (by rfl) (by assumption) (by rfl) rfl (by omega) ?_; rintro _ _ _ _ _ ⟨rfl, _, _⟩; apply w_ld; rfl; exact hc_ds0 (by assumption) rfl; apply w_eql; rfl; rfl; apply w_done0; refine w_ifdF rfl (by omega) ?_; apply w_skip; apply w_reg; apply w_add; rfl; rfl; omega; omega; apply w_mvi; rfl; apply w_done0)
      rw [if_neg hx, Option.map_map] at hF
      exact ⟨i + 1, by omega, ⟨rfl, rfl, rfl, rfl, trivial⟩, rfl, rfl, e, by rw [hF]; congr 1; funext z; simp only [Function.comp]; omega⟩
  · (apply w_sq; apply w_reg; apply w_lss; rfl; rfl; apply w_done0; apply w_sq; refine w_ifdF rfl (by omega) ?_; apply w_exit; apply w_sq; apply w_reg; apply w_mvi; rfl; apply w_done0; apply w_ret)
    have : place0 x xs = none := by rw [hF, List.drop_of_length_le (by omega)]; rfl
    refine finPi rfl ?_
    rw [this]

def MapCloneOk (P : Program) (f : FuncId) : Prop := ∀ {d : PHeap} {mb clk : Nat} {ms : List (Int × Value × Nat)}, Le (mpI mb ms clk) d → GCall P f [.map (some mb)] d [] (Ret fun r d' L' => d' = d ∧ ∃ q, r = .map (some q) ∧ L' = [mpI q ms clk])
def g_maps_Clone_map_int_byte_int_byte (T_map_int_uint8 : Nat) : GFun :=
 ⟨9, [(.tmp 2)],
 (.seq
 (.reg false (.op false ⟨(some 2), none, (.mv (.const (.map none)))⟩ .done))
 (.seq (.seq
 (.reg false (.op false ⟨(some 3), none, (.mv (.tmp 0))⟩
  (.op false ⟨(some 4), none, (.eqm false (.tmp 3) (.const (.map none)))⟩ .done))) (.cond (.tmp 4)
 (.seq
 (.reg false (.op false ⟨(some 2), none, (.mv (.const (.map none)))⟩ .done)) .ret) .skip))
 (.seq
 (.reg false (.op false ⟨(some 5), none, (.mv (.tmp 0))⟩
  (.op false ⟨(some 6), none, (.mki T_map_int_uint8 (.tmp 5))⟩
  (.op false ⟨(some 7), none, (.mop (.cln (.tmp 6)))⟩
  (.op false ⟨(some 8), none, (.tas T_map_int_uint8 (.tmp 7))⟩
  (.op false ⟨(some 2), none, (.mv (.tmp 8))⟩ .done)))))) .ret)))⟩

theorem mapClone_ok {P : Program} {f : FuncId} {t1 : Nat} (hd : dec P f = some (g_maps_Clone_map_int_byte_int_byte t1)) : MapCloneOk P f := by
  intro d mb clk ms hm
  refine GCall_of hd (Nat.le_of_ble_eq_true rfl) ?_
  show gwp P _ _ _ _ _
  (apply w_sq; apply w_reg; apply w_mv; apply w_done0; apply w_sq; apply w_sq; apply w_reg; apply w_mv)
  refine w_eqmS rfl rfl ?_
  (apply w_done0; apply w_ifF; rfl; apply w_skip; apply w_sq; apply w_reg; apply w_mv; apply w_mki)
  refine w_cln rfl ⟨d, .inl rfl, hm _ _ (sg_self _ _)⟩ (fun q => ?_)
  refine w_tas rfl ?_
  (apply w_mv; apply w_done0; apply w_ret)
  exact fin1 rfl (List.Sublist.refl _) ⟨rfl, q, rfl, rfl⟩
end Go.Gk.Pgr
end
