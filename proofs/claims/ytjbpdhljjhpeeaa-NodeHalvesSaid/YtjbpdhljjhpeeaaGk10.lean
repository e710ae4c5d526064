/-
  Slices with a block of their own, that grow by append; what such a block is read as when it is written no more.
-/
import Derived.Test.YtjbpdhljjhpeeaaGk8
namespace Go.Gk
open Go

/-- A slice of n elements of sz cells each, in a block of its own: 'xs' are the elements' cells. -/
def ORow (sz : Nat) (v : Value) (n : Nat) (xs : List Value) (h : PHeap) : Prop :=
  xs.length = n * sz ∧ n ≤ 140737488355328 ∧ ((v = .slice none 0 0 ∧ n = 0 ∧ h = emp) ∨
    ∃ b T l c, v = .slice (some ⟨b, 0, none⟩) n c ∧ h = bx b T l ∧ n ≤ c ∧ c ≤ 9223372036854775807 ∧ c * sz ≤ l.length ∧ l.take xs.length = xs)

theorem ORow.nil (sz : Nat) : ORow sz (.slice none 0 0) 0 [] emp := ⟨by simp, by omega, .inl ⟨rfl, rfl, rfl⟩⟩
theorem ORow.mk {sz n c b : Nat} {T : TypeId} {l xs : List Value} (h1 : xs.length = n * sz) (h2 : n ≤ 140737488355328) (h3 : n ≤ c) (h4 : c ≤ 9223372036854775807) (h5 : c * sz ≤ l.length) (h6 : l.take xs.length = xs) :
    ORow sz (.slice (some ⟨b, 0, none⟩) n c) n xs (bx b T l) := ⟨h1, h2, .inr ⟨b, T, l, c, rfl, rfl, h3, h4, h5, h6⟩⟩
/-- A slice literal, or a made one that is full. -/
theorem ORow.lit {sz n b : Nat} {T : TypeId} {l : List Value} (h1 : l.length = n * sz) (h2 : n ≤ 140737488355328) : ORow sz (.slice (some ⟨b, 0, none⟩) n n) n l (bx b T l) :=
  ORow.mk h1 h2 (Nat.le_refl n) (by omega) (by rw [h1]; exact Nat.le_refl _) (by simp)
theorem ORow.slice {sz n : Nat} {v : Value} {xs : List Value} {h : PHeap} (o : ORow sz v n xs h) : ∃ a b c, v = .slice a n c ∧ SAd a n b 0 ∧ n ≤ c ∧ (c ≠ 0 → ∀ a', a = some a' → a'.spot = none) ∧ (a = none → c = 0) ∧ c ≤ 9223372036854775807 ∧
    ∀ i u, xs[i]? = some u → ∀ d Lk, h ∈ Lk → HC d Lk ⟨b, i, none⟩ u := by
  obtain ⟨h1, h2, ⟨rfl, rfl, rfl⟩ | ⟨b, T, l, c, rfl, rfl, h3, h4, h5, h6⟩⟩ := o
  · refine ⟨none, 0, 0, rfl, fun h => absurd rfl h, Nat.le_refl 0, (fun _ _ h => nomatch h), fun _ => rfl, by omega, fun i u hu => ?_⟩
    have : xs = [] := List.eq_nil_of_length_eq_zero (by simpa using h1)
    subst this; simp at hu
  · refine ⟨_, b, c, rfl, SAd.some n b 0, h3, (fun _ _ h => by cases h; rfl), (fun h => nomatch h), h4, fun i u hu d Lk hk => ⟨rfl, bx b T l, .inr hk, l.toArray, T, (0, 0), sg_self _ _, ?_⟩⟩
    have hi : i < xs.length := (List.getElem?_eq_some_iff.1 hu).1
    rw [← h6] at hu
    rw [List.getElem?_take_of_lt (by omega)] at hu
    simpa using hu

/-- The block of 'h' in the place of one of L; what is in front goes. -/
theorem Vs.put {d h h' : PHeap} {L : List PHeap} {i : Nat} (hi : L[i]? = some h) : Vs d (h' :: L) d (L.set i h') := by
  obtain ⟨A, B, rfl, e2⟩ := getElem?_split hi h'
  rw [e2]
  refine (Vs.perm (L' := h :: (A ++ h' :: B)) ?_).trans (Vs.drop (List.sublist_cons_self _ _))
  refine (List.Perm.cons h' List.perm_middle).trans ((List.Perm.swap h h' _).trans (List.Perm.cons h List.perm_middle.symm))

/-- Where the cells 'news' of a slice of m elements are read. -/
def RdX (d : PHeap) (Lk : List PHeap) (v : Value) (m sz : Nat) (news : List Value) : Prop :=
  ∃ a c, v = .slice a m c ∧ news.length = m * sz ∧ (a = none → news = []) ∧ ∀ a', a = some a' → ∀ i u, news[i]? = some u → HC d Lk (a'.add i) u

theorem RdX.lit {d : PHeap} {Lk : List PHeap} {b n c sz : Nat} {T : TypeId} {l : List Value} (i : Nat) (hi : Lk[i]? = some (bx b T l)) (hl : l.length = n * sz) : RdX d Lk (.slice (some ⟨b, 0, none⟩) n c) n sz l :=
  ⟨_, c, rfl, hl, (fun h => nomatch h), fun a' h j u hu => by cases h; rw [Addr.add_lit, Nat.zero_add]; exact hc_i i hi hu⟩
theorem ORow.rdx {sz n : Nat} {v : Value} {xs : List Value} {h d : PHeap} {Lk : List PHeap} (o : ORow sz v n xs h) (hk : h ∈ Lk) : RdX d Lk v n sz xs := by
  have hl := o.1
  obtain ⟨a, b, c, rfl, h2, h3, h4, h5, h6, h7⟩ := o.slice
  refine ⟨a, c, rfl, hl, ?_, ?_⟩
  · intro e
    cases xs with
    | nil => rfl
    | cons u us =>
      have : n ≠ 0 := by rintro rfl; simp at hl
      rw [h2 this] at e; cases e
  · intro a' ha i u hu
    have : n ≠ 0 := by
      rintro rfl
      have : xs = [] := List.eq_nil_of_length_eq_zero (by simpa using hl)
      subst this; simp at hu
    have e := h2 this
    rw [ha] at e; cases e
    rw [Addr.add_lit, Nat.zero_add]
    exact h7 i u hu d Lk hk

section
variable {P : Program} {pan : List PanicEntry → Post} {Qn : Env → Post} {Ls L : List PHeap} {ρ : Env} {d : PHeap} {s : GS} {t : Nat}
/-- append to a slice with its own block; what comes then may be told otherwise. -/
theorem w_appV {sz by_ : Nat} {z : List Value} {x y : Operand} (i : Nat) {v : Value} {n m : Nat} {xs news : List Value} {h : PHeap} (ex : ev ρ x = v) (hi : L[i]? = some h) (ho : ORow sz v n xs h)
    {w : Value} (ey : ev ρ y = w) (hx : RdX d (Ls ++ L ++ L) w m sz news) (h1 : (news.all (·.oneCell')) = true) (hsz : 0 < sz) (hm : n + m ≤ 140737488355328) (hb : (n + m) * by_ ≤ 140737488355328)
    (k : ∀ v' h', ORow sz v' (n + m) (xs ++ news) h' → ∃ d2 L2, Vs d (L.set i h') d2 L2 ∧ gws P pan Qn s Ls (upd ρ t v') d2 L2) : gws P pan Qn (.op false ⟨some t, none, .app sz by_ z x y⟩ s) Ls ρ d L := by
  obtain ⟨xa, xc, rfl, hl, hx0, hxc⟩ := hx
  have hxl := ho.1
  have hlen : (xs ++ news).length = (n + m) * sz := by rw [List.length_append, hxl, hl, Nat.add_mul]
  refine ⟨d, L, Vs.refl d L, ?_⟩
  simp only [gop, gi, maxLen]
  obtain ⟨h2, h3, ⟨rfl, rfl, rfl⟩ | ⟨b, T, l, c, rfl, rfl, h4, h5, h6, h7⟩⟩ := ho
  · have hxs : xs = [] := List.eq_nil_of_length_eq_zero (by simpa using hxl)
    subst hxs
    refine ⟨none, 0, 0, xa, m, xc, news, ex, ey, hl, h1, hx0, hxc, by omega, by omega, fun hle => .inl ?_, fun hlt => ⟨by simpa using hb, [], by simp, fun _ => rfl, (fun _ h => nomatch h), fun b T c' hc1 hc2 => ?_⟩⟩
    · have hm0 : m = 0 := by omega
      subst hm0
      have hn : news = [] := List.eq_nil_of_length_eq_zero (by simpa using hl)
      subst hn
      obtain ⟨d2, L2, hv, hg⟩ := k (.slice none 0 0) emp (by simpa using ORow.nil sz)
      have e : L.set i emp = L := by
        obtain ⟨hlt, he⟩ := List.getElem?_eq_some_iff.1 hi
        rw [← he]; simp
      rw [e] at hv
      exact ⟨rfl, d2, L2, hv, by simpa [put] using hg⟩
    · have o : ORow sz (.slice (some ⟨b, 0, none⟩) (0 + m) c') (0 + m) ([] ++ news) (bx b T (news ++ zrow z ((c' - (0 + m)) * sz))) := by
        refine ORow.mk hlen hm (by omega) hc2 ?_ ?_
        · simp only [List.nil_append, List.length_append, hl, zrow, List.length_map, List.length_range]
          rw [← Nat.add_mul]
          exact Nat.le_of_eq (by congr 1; omega)
        · simp
      obtain ⟨d2, L2, hv, hg⟩ := k _ _ o
      exact ⟨d2, L2, (Vs.put hi).trans hv, by simpa [put] using hg⟩
  · refine ⟨_, n, c, xa, m, xc, news, ex, ey, hl, h1, hx0, hxc, by omega, h5, fun hle => .inr ⟨i, b, 0, T, l, rfl, hi, ?_, ?_⟩, fun hlt => ⟨hb, xs, hxl, (fun h => nomatch h), fun a' ha j u hu => ?_, fun b' T' c' hc1 hc2 => ?_⟩⟩
    · rw [Nat.zero_add]; exact Nat.le_trans (Nat.mul_le_mul_right sz hle) h6
    · have h8 : (n + m) * sz ≤ l.length := Nat.le_trans (Nat.mul_le_mul_right sz hle) h6
      rw [Nat.add_mul] at h8
      refine k (.slice (some ⟨b, 0, none⟩) (n + m) c) (bx b T (patch l (0 + n * sz) news)) (ORow.mk hlen hm hle h5 ?_ ?_)
      · simp only [patch, List.length_append, List.length_take, List.length_drop]
        have := hl
        omega
      · rw [hlen, Nat.add_mul]
        have e1 : l.take (n * sz) = xs := by rw [← hxl]; exact h7
        simp only [patch, Nat.zero_add, e1]
        rw [← hl, ← hxl, ← List.length_append]
        exact List.take_left
    · cases ha
      rw [Addr.add_lit, Nat.zero_add]
      refine ⟨rfl, bx b T l, .inr (List.mem_append_right _ (List.mem_of_getElem? hi)), l.toArray, T, (0, 0), sg_self _ _, ?_⟩
      have hj : j < xs.length := (List.getElem?_eq_some_iff.1 hu).1
      rw [← h7] at hu
      rw [List.getElem?_take_of_lt (by omega)] at hu
      simpa using hu
    · have o : ORow sz (.slice (some ⟨b', 0, none⟩) (n + m) c') (n + m) (xs ++ news) (bx b' T' (xs ++ news ++ zrow z ((c' - (n + m)) * sz))) := by
        refine ORow.mk hlen hm hc1 hc2 ?_ ?_
        · simp only [List.length_append, hxl, hl, zrow, List.length_map, List.length_range]
          rw [← Nat.add_mul, ← Nat.add_mul]
          exact Nat.le_of_eq (by congr 1; omega)
        · exact List.take_left
      obtain ⟨d2, L2, hv, hg⟩ := k _ _ o
      exact ⟨d2, L2, (Vs.put hi).trans hv, by simpa [put] using hg⟩
theorem w_app {sz by_ : Nat} {z : List Value} {x y : Operand} (i : Nat) {v : Value} {n m : Nat} {xs news : List Value} {h : PHeap} (ex : ev ρ x = v) (hi : L[i]? = some h) (ho : ORow sz v n xs h)
    {w : Value} (ey : ev ρ y = w) (hx : RdX d (Ls ++ L ++ L) w m sz news) (h1 : (news.all (·.oneCell')) = true) (hsz : 0 < sz) (hm : n + m ≤ 140737488355328) (hb : (n + m) * by_ ≤ 140737488355328)
    (k : ∀ v' h', ORow sz v' (n + m) (xs ++ news) h' → gws P pan Qn s Ls (upd ρ t v') d (L.set i h')) : gws P pan Qn (.op false ⟨some t, none, .app sz by_ z x y⟩ s) Ls ρ d L :=
  w_appV i ex hi ho ey hx h1 hsz hm hb (fun v' h' o => ⟨d, _, Vs.refl _ _, k v' h' o⟩)
end

/-! ### what is frozen is read -/
theorem ORow.dcs {sz n : Nat} {v : Value} {xs : List Value} {h d : PHeap} (o : ORow sz v n xs h) (hl : Le h d) : ∃ a b c, v = .slice a n c ∧ SAd a n b 0 ∧ n ≤ c ∧ (c ≠ 0 → ∀ a', a = some a' → a'.spot = none) ∧ (a = none → c = 0) ∧ c ≤ 9223372036854775807 ∧
    (xs ≠ [] → ∃ (l : Array Value) (T : TypeId) (fr : Nat × Nat), d b (.cells l T fr) ∧ ∀ (i : Nat) (u : Value), xs[i]? = some u → l[i]? = some u) := by
  obtain ⟨h1, h2, ⟨rfl, rfl, rfl⟩ | ⟨b, T, l, c, rfl, rfl, h3, h4, h5, h6⟩⟩ := o
  · have : xs = [] := List.eq_nil_of_length_eq_zero (by simpa using h1)
    subst this
    exact ⟨none, 0, 0, rfl, fun h => absurd rfl h, Nat.le_refl 0, (fun _ _ h => nomatch h), fun _ => rfl, by omega, fun h => absurd rfl h⟩
  · refine ⟨_, b, c, rfl, SAd.some n b 0, h3, (fun _ _ h => by cases h; rfl), (fun h => nomatch h), h4, fun _ => ⟨l.toArray, T, (0, 0), hl _ _ (sg_self _ _), fun i u hu => ?_⟩⟩
    have hi : i < xs.length := (List.getElem?_eq_some_iff.1 hu).1
    rw [← h6] at hu
    rw [List.getElem?_take_of_lt (by omega)] at hu
    simpa using hu
/-- Frozen, it is a slice of what its cells read as. -/
theorem ORow.rsl {α : Type} {sz n : Nat} {R : PHeap → List Value → α → Prop} {v : Value} {cs : List Value} {xs : List α} {h d : PHeap} (o : ORow sz v n cs h) (hl : Le h d) (hn : n = xs.length) (hsz : 0 < sz)
    (hR : ∀ i (hi : i < xs.length), R d ((cs.drop (i * sz)).take sz) xs[i]) : RSl sz R d v xs := by
  have h1 := o.1
  have h2 := o.2.1
  obtain ⟨a, b, c, rfl, k1, k2, k3, k4, k5, k6⟩ := o.dcs hl
  subst hn
  refine ⟨a, c, b, 0, rfl, k1, k3, k4, k2, k5, h2, fun i hi => ⟨(cs.drop (i * sz)).take sz, ?_, ?_, hR i hi⟩⟩
  · have : (i + 1) * sz ≤ xs.length * sz := Nat.mul_le_mul_right sz hi
    rw [Nat.add_mul] at this
    simp only [List.length_take, List.length_drop, h1]
    omega
  · have : cs ≠ [] := by
      rintro rfl
      have h3 : (i + 1) * sz ≤ xs.length * sz := Nat.mul_le_mul_right sz hi
      have h4 : xs.length * sz = 0 := by rw [← h1]; rfl
      rw [Nat.add_mul, Nat.one_mul] at h3
      omega
    obtain ⟨l, T, fr, e1, e2⟩ := k6 this
    refine ⟨l, T, fr, e1, fun j u hu => ?_⟩
    rw [List.getElem?_take] at hu
    split at hu
    · rw [List.getElem?_drop] at hu
      rw [Nat.zero_add]
      exact e2 _ _ hu
    · cases hu
theorem ORow.rsl1 {α : Type} {n : Nat} {R : PHeap → List Value → α → Prop} {v : Value} {cs : List Value} {xs : List α} {h d : PHeap} (o : ORow 1 v n cs h) (hl : Le h d) (hn : n = xs.length)
    (hR : ∀ i (hi : i < xs.length), ∃ u, cs[i]? = some u ∧ R d [u] xs[i]) : RSl 1 R d v xs := by
  refine o.rsl hl hn (by omega) (fun i hi => ?_)
  obtain ⟨u, hu, hr⟩ := hR i hi
  have : (cs.drop (i * 1)).take 1 = [u] := by
    rw [Nat.mul_one]
    obtain ⟨hlt, he⟩ := List.getElem?_eq_some_iff.1 hu
    rw [List.drop_eq_getElem_cons hlt, he]; rfl
  rw [this]; exact hr
theorem ORow.bytes {n : Nat} {v : Value} {xs : List UInt8} {h d : PHeap} (o : ORow 1 v n (xs.map byteV) h) (hl : Le h d) : RBytes d v xs := by
  have hn := o.1
  refine o.rsl1 hl (by simpa using hn.symm) (fun i hi => ⟨byteV xs[i], by simp [hi], rfl⟩)

/-- A slice of data is read so. -/
theorem RSl.rdx {α : Type} {R : PHeap → List Value → α → Prop} {d : PHeap} {v : Value} {xs : List α} {f : α → Value} (h : RSl 1 R d v xs) (hf : ∀ cs x, R d cs x → cs = [f x]) (Lk : List PHeap) : RdX d Lk v xs.length 1 (xs.map f) := by
  obtain ⟨a, c, b, o, rfl, h2, h3, h4, h5, h6, h7, h8⟩ := h
  refine ⟨a, c, rfl, by simp, ?_, ?_⟩
  · intro e
    cases xs with
    | nil => rfl
    | cons u us => have := h2 (by simp); rw [e] at this; cases this
  · intro a' ha i u hu
    have hi : i < xs.length := by
      have := (List.getElem?_eq_some_iff.1 hu).1
      simpa using this
    have e := h2 (by omega)
    rw [ha] at e; cases e
    obtain ⟨cs, k1, k2, k3⟩ := h8 i hi
    have := hf _ _ k3
    subst this
    rw [List.getElem?_map, List.getElem?_eq_getElem hi] at hu
    simp only [Option.map_some, Option.some.injEq] at hu
    subst hu
    rw [Nat.mul_one] at k2
    rw [Addr.add_lit]
    exact hc_d k2.one
theorem RBytes.rdx {d : PHeap} {v : Value} {xs : List UInt8} (h : RBytes d v xs) (Lk : List PHeap) : RdX d Lk v xs.length 1 (xs.map byteV) := RSl.rdx h (fun _ _ h => h) Lk
theorem RInts.rdx {d : PHeap} {v : Value} {xs : List Int} (h : RInts d v xs) (Lk : List PHeap) : RdX d Lk v xs.length 1 (xs.map (Value.int .i64)) := RSl.rdx h (fun _ _ h => h.1) Lk
theorem RStrs.rdx {d : PHeap} {v : Value} {xs : List (List UInt8)} (h : RStrs d v xs) (Lk : List PHeap) : RdX d Lk v xs.length 1 (xs.map strV) := RSl.rdx h (fun _ _ h => h.1) Lk
end Go.Gk
