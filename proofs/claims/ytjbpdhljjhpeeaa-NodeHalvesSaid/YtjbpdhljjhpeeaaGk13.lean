/-
  Slices that grow in a block of their own, told by what their elements are; steps over data that find their facts by themselves.
-/
import Derived.Test.YtjbpdhljjhpeeaaGk12
namespace Go.Gk
open Go

def chunk (cs : List Value) (i sz : Nat) : List Value := (cs.drop (i * sz)).take sz
/-- A slice in a block of its own: its elements read as 'xs'. -/
def GRow {α : Type} (sz : Nat) (R : PHeap → List Value → α → Prop) (d : PHeap) (v : Value) (xs : List α) (h : PHeap) : Prop :=
  ∃ cs, ORow sz v xs.length cs h ∧ ∀ i (hi : i < xs.length), R d (chunk cs i sz) xs[i]
/-- Where a slice's elements are read. -/
def Src {α : Type} (sz : Nat) (R : PHeap → List Value → α → Prop) (d : PHeap) (Lk : List PHeap) (w : Value) (ys : List α) : Prop :=
  ∃ news, RdX d Lk w ys.length sz news ∧ (news.all (·.oneCell')) = true ∧ ∀ i (hi : i < ys.length), R d (chunk news i sz) ys[i]
/-- What is read so are single cells. -/
def Cell1 {α : Type} (R : PHeap → List Value → α → Prop) : Prop := ∀ d cs x, R d cs x → (cs.all (·.oneCell')) = true
def Mono {α : Type} (R : PHeap → List Value → α → Prop) : Prop := ∀ {d d' cs x}, Le d d' → R d cs x → R d' cs x

theorem cell1_byte : Cell1 RByte := fun _ _ _ h => by cases h; rfl
theorem cell1_int : Cell1 RInt := fun _ _ _ h => by obtain ⟨rfl, _⟩ := h; rfl
theorem cell1_str : Cell1 RStr := fun _ _ _ h => by obtain ⟨rfl, _⟩ := h; rfl
theorem cell1_bs : Cell1 RBs := fun _ _ _ h => by obtain ⟨_, rfl, _, _, _, _, rfl, _⟩ := h; rfl
theorem mono_byte : Mono RByte := fun _ h => h
theorem mono_int : Mono RInt := fun _ h => h
theorem mono_str : Mono RStr := fun _ h => h
theorem mono_bs : Mono RBs := fun hl ⟨u, h1, h2⟩ => ⟨u, h1, h2.mono hl⟩

section
variable {α : Type} {sz : Nat} {R : PHeap → List Value → α → Prop} {d : PHeap} {v : Value} {xs : List α} {h : PHeap}
theorem chunk_len {cs : List Value} {n i : Nat} (hl : cs.length = n * sz) (hi : i < n) : (chunk cs i sz).length = sz := by
  have : (i + 1) * sz ≤ n * sz := Nat.mul_le_mul_right sz hi
  rw [Nat.add_mul, Nat.one_mul] at this
  simp only [chunk, List.length_take, List.length_drop, hl]
  omega
theorem chunk_app_left {cs ds : List Value} {n i : Nat} (hl : cs.length = n * sz) (hi : i < n) : chunk (cs ++ ds) i sz = chunk cs i sz := by
  have : (i + 1) * sz ≤ n * sz := Nat.mul_le_mul_right sz hi
  rw [Nat.add_mul, Nat.one_mul] at this
  simp only [chunk]
  rw [List.drop_append_of_le_length (by omega), List.take_append_of_le_length (by simp only [List.length_drop]; omega)]
theorem chunk_app_right {cs ds : List Value} {n i : Nat} (hl : cs.length = n * sz) (hi : n ≤ i) : chunk (cs ++ ds) i sz = chunk ds (i - n) sz := by
  have h1 : n * sz ≤ i * sz := Nat.mul_le_mul_right sz hi
  simp only [chunk]
  rw [List.drop_append, List.drop_of_length_le (by omega), List.nil_append, hl, Nat.sub_mul]
theorem GRow.nil : GRow sz R d (.slice none 0 0) [] emp := ⟨[], ORow.nil sz, fun i hi => absurd hi (Nat.not_lt_zero i)⟩
/-- An empty literal. -/
theorem GRow.lit0 {b : Nat} {T : TypeId} : GRow sz R d (.slice (some ⟨b, 0, none⟩) 0 0) [] (bx b T []) := ⟨[], ORow.lit (by simp) (by simp), fun i hi => absurd hi (Nat.not_lt_zero i)⟩
theorem GRow.mono (hR : Mono R) (o : GRow sz R d v xs h) {d' : PHeap} (hl : Le d d') : GRow sz R d' v xs h :=
  let ⟨cs, h1, h2⟩ := o
  ⟨cs, h1, fun i hi => hR hl (h2 i hi)⟩
theorem GRow.len_le (o : GRow sz R d v xs h) : xs.length ≤ 140737488355328 := let ⟨_, h1, _⟩ := o; h1.2.1
theorem GRow.val (o : GRow sz R d v xs h) : ∃ a c, v = .slice a xs.length c := by
  obtain ⟨cs, h1, _⟩ := o
  obtain ⟨a, b, c, e, _⟩ := h1.slice
  exact ⟨a, c, e⟩
theorem RSl.val (o : RSl sz R d v xs) : ∃ a c, v = .slice a xs.length c := let ⟨a, c, _, _, e, _⟩ := o; ⟨a, c, e⟩
/-- Frozen, it is data. -/
theorem GRow.rsl (o : GRow sz R d v xs h) (hR : Mono R) (hsz : 0 < sz) {d' : PHeap} (hl : Le d d') (hh : Le h d') : RSl sz R d' v xs := by
  obtain ⟨cs, h1, h2⟩ := o
  exact h1.rsl hh rfl hsz (fun i hi => hR hl (h2 i hi))
theorem GRow.src (o : GRow sz R d v xs h) (hc : Cell1 R) {Lk : List PHeap} (hk : h ∈ Lk) : Src sz R d Lk v xs := by
  obtain ⟨cs, h1, h2⟩ := o
  refine ⟨cs, h1.rdx hk, ?_, h2⟩
  have hl := h1.1
  rw [List.all_eq_true]
  intro u hu
  obtain ⟨j, hj, rfl⟩ := List.getElem_of_mem hu
  by_cases h0 : sz = 0
  · subst h0; simp at hl; subst hl; simp at hj
  · have hq : j / sz < xs.length := by rw [Nat.div_lt_iff_lt_mul (by omega)]; omega
    have := List.all_eq_true.1 (hc _ _ _ (h2 _ hq)) cs[j] (by
      have hdm := Nat.div_add_mod' j sz
      have hm := Nat.mod_lt j (show 0 < sz by omega)
      rw [List.mem_iff_getElem?]
      refine ⟨j % sz, ?_⟩
      rw [chunk, List.getElem?_take_of_lt hm, List.getElem?_drop, hdm, List.getElem?_eq_getElem hj])
    exact this
theorem RSl.src (o : RSl sz R d v xs) (hc : Cell1 R) (hsz : 0 < sz) (Lk : List PHeap) : Src sz R d Lk v xs := by
  obtain ⟨a, c, b, o, rfl, h2, h3, h4, h5, h6, h7, h8⟩ := o
  -- the elements' cells, one behind the other
  have key : ∀ n, n ≤ xs.length → ∃ news : List Value, news.length = n * sz ∧ (∀ j u, news[j]? = some u → DC d b (o + j) u) ∧ (news.all (·.oneCell')) = true ∧ ∀ i (hi : i < n) (hi' : i < xs.length), R d (chunk news i sz) xs[i] := by
    intro n
    induction n with
    | zero => exact fun _ => ⟨[], by simp, fun j u hu => by simp at hu, rfl, fun i hi => absurd hi (Nat.not_lt_zero i)⟩
    | succ n ih =>
      intro hn
      obtain ⟨news, k1, k2, k3, k4⟩ := ih (by omega)
      obtain ⟨cs, m1, m2, m3⟩ := h8 n (by omega)
      refine ⟨news ++ cs, by simp [k1, m1, Nat.add_mul], fun j u hu => ?_, ?_, fun i hi hi' => ?_⟩
      · rw [List.getElem?_append] at hu
        split at hu
        · exact k2 j u hu
        · rename_i hj
          have := m2.at hu
          rw [k1] at this
          rw [show o + j = o + n * sz + (j - n * sz) by omega]
          exact this
      · rw [List.all_append, k3, hc _ _ _ m3]; rfl
      · by_cases e : i < n
        · rw [chunk_app_left k1 e]; exact k4 i e hi'
        · obtain rfl : i = n := by omega
          rw [chunk_app_right k1 (Nat.le_refl _), Nat.sub_self]
          have : chunk cs 0 sz = cs := by simp [chunk, ← m1]
          rw [this]; exact m3
  obtain ⟨news, k1, k2, k3, k4⟩ := key xs.length (Nat.le_refl _)
  refine ⟨news, ⟨a, c, rfl, k1, fun e => ?_, fun a' ha i u hu => ?_⟩, k3, fun i hi => k4 i hi hi⟩
  · cases xs with
    | nil => exact List.eq_nil_of_length_eq_zero (by simpa using k1)
    | cons x xs => have := h2 (by simp); rw [e] at this; cases this
  · have h0 : xs.length ≠ 0 := by
      intro h0
      rw [h0, Nat.zero_mul] at k1
      rw [List.eq_nil_of_length_eq_zero k1] at hu; simp at hu
    have e := h2 h0
    rw [ha] at e; cases e
    rw [Addr.add_lit]
    exact hc_d (k2 i u hu)
/-- A literal, or a full block. -/
theorem Src.lit {Lk : List PHeap} {b c n : Nat} {T : TypeId} {cs : List Value} {ys : List α} (i : Nat) (hi : Lk[i]? = some (bx b T cs)) (hn : n = ys.length) (hl : cs.length = ys.length * sz) (h1 : (cs.all (·.oneCell')) = true)
    (h2 : ∀ i (hi : i < ys.length), R d (chunk cs i sz) ys[i]) : Src sz R d Lk (.slice (some ⟨b, 0, none⟩) n c) ys := by
  subst hn
  exact ⟨cs, RdX.lit i hi hl, h1, h2⟩
theorem GRow.lit {b n : Nat} {T : TypeId} {cs : List Value} (hn : n = xs.length) (hl : cs.length = xs.length * sz) (hx : xs.length ≤ 140737488355328) (h2 : ∀ i (hi : i < xs.length), R d (chunk cs i sz) xs[i]) :
    GRow sz R d (.slice (some ⟨b, 0, none⟩) n n) xs (bx b T cs) := by
  subst hn
  exact ⟨cs, ORow.lit hl hx, h2⟩
theorem GRow.lit1 {b : Nat} {T : TypeId} {cs : List Value} {x : α} (hl : cs.length = sz) (h2 : R d cs x) : GRow sz R d (.slice (some ⟨b, 0, none⟩) 1 1) [x] (bx b T cs) :=
  GRow.lit rfl (by simp [hl]) (by simp) (fun i hi => by
    obtain rfl : i = 0 := by simpa using hi
    have : chunk cs 0 sz = cs := by simp [chunk, ← hl]
    rw [this]; exact h2)
end
theorem GRow.litB {d : PHeap} {b n : Nat} {T : TypeId} {cs : List Value} {l : List UInt8} (e : cs = l.map byteV) (hn : n = l.length) (hx : l.length ≤ 140737488355328) : GRow 1 RByte d (.slice (some ⟨b, 0, none⟩) n n) l (bx b T cs) := by
  subst e
  refine GRow.lit hn (by simp) hx (fun i hi => ?_)
  simp only [RByte, chunk, Nat.mul_one, ← List.map_drop, ← List.map_take]
  rw [List.drop_eq_getElem_cons hi]; rfl
theorem GRow.litI {d : PHeap} {b n : Nat} {T : TypeId} {cs : List Value} {l : List Int} (e : cs = l.map (Value.int .i64)) (hb : ∀ x ∈ l, -9223372036854775808 ≤ x ∧ x ≤ 9223372036854775807) (hn : n = l.length) (hx : l.length ≤ 140737488355328) : GRow 1 RInt d (.slice (some ⟨b, 0, none⟩) n n) l (bx b T cs) := by
  subst e
  refine GRow.lit hn (by simp) hx (fun i hi => ?_)
  simp only [RInt, chunk, Nat.mul_one, ← List.map_drop, ← List.map_take]
  rw [List.drop_eq_getElem_cons hi]; exact ⟨rfl, hb _ (List.getElem_mem hi)⟩
/-- A row of bytes, cell by cell. -/
theorem GRow.bytes {d : PHeap} {v : Value} {xs : List UInt8} {h : PHeap} (o : GRow 1 RByte d v xs h) : ORow 1 v xs.length (xs.map byteV) h := by
  obtain ⟨cs, h1, h2⟩ := o
  have hl := h1.1
  have : cs = xs.map byteV := by
    apply List.ext_getElem
    · simp at hl ⊢; exact hl
    · intro i h3 h4
      have h5 : i < xs.length := by simpa using h4
      have h6 : chunk cs i 1 = [byteV xs[i]] := h2 i h5
      simp only [chunk, Nat.mul_one] at h6
      have h7 := congrArg (·[0]?) h6
      simp only [List.getElem?_take_of_lt (show 0 < 1 by omega), List.getElem?_drop, Nat.add_zero, List.getElem?_eq_getElem h3, List.getElem?_cons_zero, Option.some.injEq] at h7
      simp [h7]
  rw [← this]; exact h1

section
variable {P : Program} {pan : List PanicEntry → Post} {Qn : Env → Post} {Ls L : List PHeap} {ρ : Env} {d : PHeap} {s : GS} {t : Nat} {tk : Bool}
/-- append to a slice of its own. -/
theorem w_appG {α : Type} {sz by_ : Nat} {R : PHeap → List Value → α → Prop} {z : List Value} {x y : Operand} (i : Nat) {v w : Value} {xs ys : List α} {h : PHeap} (ex : ev ρ x = v) (hi : L[i]? = some h) (ho : GRow sz R d v xs h)
    (ey : ev ρ y = w) (hs : Src sz R d (Ls ++ L ++ L) w ys) (hsz : 0 < sz) (hm : xs.length + ys.length ≤ 140737488355328) (hb : (xs.length + ys.length) * by_ ≤ 140737488355328)
    (k : ∀ v' h', GRow sz R d v' (xs ++ ys) h' → gws P pan Qn s Ls (upd ρ t v') d (L.set i h')) : gws P pan Qn (.op false ⟨some t, none, .app sz by_ z x y⟩ s) Ls ρ d L := by
  obtain ⟨cs, h1, h2⟩ := ho
  obtain ⟨news, k1, k2, k3⟩ := hs
  have hl := h1.1
  refine w_app i ex hi h1 ey k1 k2 hsz hm hb (fun v' h' o => k v' h' ⟨cs ++ news, by rw [List.length_append]; exact o, fun j hj => ?_⟩)
  by_cases e : j < xs.length
  · rw [chunk_app_left hl e, List.getElem_append_left e]; exact h2 j e
  · rw [chunk_app_right hl (by omega), List.getElem_append_right (by omega)]
    exact k3 _ (by simp at hj; omega)
/-- The same to nil: a new block. -/
theorem w_appN {α : Type} {sz by_ : Nat} {R : PHeap → List Value → α → Prop} {z : List Value} {x y : Operand} {w : Value} {ys : List α} (ex : ev ρ x = .slice none 0 0)
    (ey : ev ρ y = w) (hs : Src sz R d (Ls ++ L ++ L) w ys) (hsz : 0 < sz) (hm : ys.length ≤ 140737488355328) (hb : ys.length * by_ ≤ 140737488355328)
    (k : ∀ v' h', GRow sz R d v' ys h' → gws P pan Qn s Ls (upd ρ t v') d (h' :: L)) : gws P pan Qn (.op false ⟨some t, none, .app sz by_ z x y⟩ s) Ls ρ d L := by
  refine w_vs d (emp :: L) Vs.emp ?_
  refine w_appG (R := R) 0 ex rfl GRow.nil ey ?_ hsz (by simpa using hm) (by simpa using hb) (fun v' h' o => k v' h' (by simpa using o))
  obtain ⟨news, ⟨a, c, e1, e2, e3, e4⟩, k2, k3⟩ := hs
  refine ⟨news, ⟨a, c, e1, e2, e3, fun a' ha i u hu => ?_⟩, k2, k3⟩
  obtain ⟨h1, h, h2, h3⟩ := e4 a' ha i u hu
  refine ⟨h1, h, ?_, h3⟩
  rcases h2 with h2 | h2
  · exact .inl h2
  · refine .inr ?_
    simp only [List.mem_append, List.mem_cons] at h2 ⊢
    rcases h2 with (h2 | h2) | h2 <;> simp [h2]
/-- What was laid for the append goes. -/
theorem w_appL {α : Type} {sz by_ : Nat} {R : PHeap → List Value → α → Prop} {z : List Value} {x y : Operand} (i : Nat) {v w : Value} {xs ys : List α} {h g : PHeap} (ex : ev ρ x = v) (hi : L[i]? = some h) (ho : GRow sz R d v xs h)
    (ey : ev ρ y = w) (hs : GRow sz R d w ys g) (hc : Cell1 R) (hsz : 0 < sz) (hm : xs.length + ys.length ≤ 140737488355328) (hb : (xs.length + ys.length) * by_ ≤ 140737488355328)
    (k : ∀ v' h', GRow sz R d v' (xs ++ ys) h' → gws P pan Qn s Ls (upd ρ t v') d (L.set i h')) : gws P pan Qn (.op false ⟨some t, none, .app sz by_ z x y⟩ s) Ls ρ d (g :: L) := by
  obtain ⟨cs, h1, h2⟩ := ho
  obtain ⟨news, k1, k2, k3⟩ := (hs.src hc (by simp) : Src sz R d (Ls ++ (g :: L) ++ (g :: L)) w ys)
  have hl := h1.1
  refine w_appV (i + 1) ex (by simpa using hi) h1 ey k1 k2 hsz hm hb (fun v' h' o => ⟨d, L.set i h', ?_, k v' h' ⟨cs ++ news, by rw [List.length_append]; exact o, fun j hj => ?_⟩⟩)
  · rw [List.set_cons_succ]
    exact Vs.drop (List.sublist_cons_self _ _)
  · by_cases e : j < xs.length
    · rw [chunk_app_left hl e, List.getElem_append_left e]; exact h2 j e
    · rw [chunk_app_right hl (by omega), List.getElem_append_right (by omega)]
      exact k3 _ (by simp at hj; omega)
theorem w_lenG {α : Type} {sz : Nat} {R : PHeap → List Value → α → Prop} {x : Operand} {v : Value} {xs : List α} {h : PHeap} (ex : ev ρ x = v) (hr : GRow sz R d v xs h) (k : gws P pan Qn s Ls (upd ρ t (.int .i64 xs.length)) d L) :
    gws P pan Qn (.op tk ⟨some t, none, .len x⟩ s) Ls ρ d L := by
  obtain ⟨a, c, rfl⟩ := hr.val
  exact w_len ex k
theorem w_b2sG {x : Operand} {v : Value} {l : List UInt8} {h : PHeap} (ex : ev ρ x = v) (hr : GRow 1 RByte d v l h) (hk : h ∈ lk tk Ls L) (k : gws P pan Qn s Ls (upd ρ t (strV l)) d L) : gws P pan Qn (.op tk ⟨some t, none, .b2s x⟩ s) Ls ρ d L := by
  have o := hr.bytes
  obtain ⟨a, b, c, rfl, h2, h3, h4, h5, h6, h7⟩ := o.slice
  refine w_b2s (b := b) (o := 0) ex rfl h2 (fun i u hu => ?_) k
  rw [Nat.zero_add]
  exact h7 i _ (by rw [List.getElem?_map, hu]; rfl) d _ hk
/-- An element of data. -/
theorem w_idxR {α : Type} {sz : Nat} {R : PHeap → List Value → α → Prop} {x i : Operand} {v : Value} {xs : List α} {k : IntKind} {j : Int} {m : Nat} (ex : ev ρ x = v) (hr : RSl sz R d v xs) (ei : ev ρ i = .int k j) (hm : j = (m : Int)) (hl : m < xs.length)
    (h : ∀ b o cs, cs.length = sz → DCs d b o cs → R d cs xs[m] → gws P pan Qn s Ls (upd ρ t (.pointer (some ⟨b, o, none⟩))) d L) : gws P pan Qn (.op tk ⟨some t, none, .idx sz x i⟩ s) Ls ρ d L := by
  obtain ⟨a, c, b, o, rfl, h2, h3, h4, h5, h6, h7, h8⟩ := hr
  obtain ⟨cs, k1, k2, k3⟩ := h8 m hl
  exact w_idx m ex ei hm hl h2 (h b _ cs k1 k2 k3)
end
section
variable {P : Program} {Q : GPost} {ρ : Env} {d : PHeap} {L : List PHeap}
/-- A loop over a slice that grows: its value and its block are told apart from the rest. -/
theorem w_loopV {α : Type} {a : GCode} (slots : α → Value → List (Nat × Value)) (inv : α → Value → PHeap → PHeap → List PHeap → Prop) (meas : α → Nat) (x0 : α) (v0 : Value) (h0 : PHeap) (hs : SlotsAre ρ (slots x0 v0)) (i0 : inv x0 v0 h0 d L)
    (round : ∀ x v h ρ d L, inv x v h d L → gwp P a { Q with n := fun ρ d L => ∃ x' v' h', meas x' < meas x ∧ SlotsAre ρ (slots x' v') ∧ inv x' v' h' d L } (updL ρ (slots x v)) d L) : gwp P (.loop a) Q ρ d L :=
  w_loopS (α := α × Value × PHeap) (fun x => slots x.1 x.2.1) (fun x d L => inv x.1 x.2.1 x.2.2 d L) (fun x => meas x.1) (x0, v0, h0) hs i0
    (fun x ρ d L hi => gwp_mono (fun ρ d L ⟨x', v', h', a, b, c⟩ => ⟨(x', v', h'), a, b, c⟩) (round x.1 x.2.1 x.2.2 ρ d L hi))
end
section
variable {P : Program} {pan : List PanicEntry → Post} {Qn : Env → Post} {Ls L : List PHeap} {ρ : Env} {d : PHeap} {s t : GS} {g : GOp}
/-- Either of two may come first. -/
theorem w_alt (h1 : gws P pan Qn (.op false g s) Ls ρ d L) (h2 : gws P pan Qn t Ls ρ d L) : gws P pan Qn (.alt g s t) Ls ρ d L := ⟨h1, h2⟩
/-- The blocks in another order, or fewer. -/
theorem w_pick (is : List Nat) (hp : is.isPerm (List.range L.length) = true) (h : gws P pan Qn (.op false g s) Ls ρ d (pick L is)) : gws P pan Qn (.op false g s) Ls ρ d L := w_vs d _ (Vs.pick is hp) h
theorem w_donep (is : List Nat) (hp : is.isPerm (List.range L.length) = true) (h : Qn ρ d (pick L is)) : gws P pan Qn .done [] ρ d L := ⟨d, _, Vs.pick is hp, h⟩
theorem w_doneE (h : ∃ d1 L1, Vs d L d1 L1 ∧ Qn ρ d1 L1) : gws P pan Qn .done [] ρ d L := h
theorem res_tmp {C : Addr → Value → Prop} {t : Nat} {v : Value} (e : ρ t = v) : resOne ρ C (.tmp t) v := e.symm
theorem res_cell {t n b : Nat} {T : TypeId} {l : List Value} (i : Nat) (e : ρ t = .pointer (some ⟨b, 0, none⟩)) (hi : L[i]? = some (bx b T l)) (hn : l.length = n) : resOne ρ (HC d L) (.cell t (some n)) (.agg l.toArray) :=
  ⟨b, 0, l, e, hn, fun j u hu => by rw [Nat.zero_add]; exact hc_i i hi hu, rfl⟩
/-- The end: all blocks become data. -/
theorem finF {res : List GRes} {R : Ending → PHeap → List PHeap → Prop} (vs : List Value) (hr : resAll ρ (HC d L) res vs) (h : ∀ d', Le d d' → (∀ k ∈ L, Le k d') → R (.returned (resV vs)) d' []) : retPost res R ρ d L :=
  let ⟨d', h1, h2, h3⟩ := Vs.frzAll d L
  ⟨vs, hr, d', [], h1, h d' h2 h3⟩
theorem finS {res : List GRes} {R : Ending → PHeap → List PHeap → Prop} (vs : List Value) {L' : List PHeap} (hr : resAll ρ (HC d L) res vs) (hs : L'.Sublist L) (h : R (.returned (resV vs)) d L') : retPost res R ρ d L :=
  ⟨vs, hr, d, L', Vs.drop hs, h⟩
end
section
variable {P : Program} {pan : List PanicEntry → Post} {Qn : Env → Post} {Ls L : List PHeap} {ρ : Env} {d : PHeap} {s : GS} {t : Nat} {tk : Bool}
theorem w_pickdT {c a b : Operand} {p : Prop} [Decidable p] {v : Value} (e : ev ρ c = .bool (decide p)) (hp : p) (ea : ev ρ a = v) (h : gws P pan Qn s Ls (upd ρ t v) d L) : gws P pan Qn (.op tk ⟨some t, none, .pick c a b⟩ s) Ls ρ d L :=
  w_pickT (by rw [e]; simp [hp]) ea h
theorem w_pickdF {c a b : Operand} {p : Prop} [Decidable p] {v : Value} (e : ev ρ c = .bool (decide p)) (hp : ¬ p) (eb : ev ρ b = v) (h : gws P pan Qn s Ls (upd ρ t v) d L) : gws P pan Qn (.op tk ⟨some t, none, .pick c a b⟩ s) Ls ρ d L :=
  w_pickF (by rw [e]; simp [hp]) eb h
theorem w_pickqT {c a b : Operand} {q : Bool} {v : Value} (e : ev ρ c = .bool q) (hp : q = true) (ea : ev ρ a = v) (h : gws P pan Qn s Ls (upd ρ t v) d L) : gws P pan Qn (.op tk ⟨some t, none, .pick c a b⟩ s) Ls ρ d L :=
  w_pickT (by rw [e, hp]) ea h
theorem w_pickqF {c a b : Operand} {q : Bool} {v : Value} (e : ev ρ c = .bool q) (hp : q = false) (eb : ev ρ b = v) (h : gws P pan Qn s Ls (upd ρ t v) d L) : gws P pan Qn (.op tk ⟨some t, none, .pick c a b⟩ s) Ls ρ d L :=
  w_pickF (by rw [e, hp]) eb h
end
theorem GCall.monoV {P : Program} {f : FuncId} {args : List Value} {d : PHeap} {L : List PHeap} {R R' : Ending → PHeap → List PHeap → Prop}
    (h : GCall P f args d L R) (hr : ∀ e d' L', Le d d' → R e d' L' → ∃ d2 L2, Vs d' L' d2 L2 ∧ R' e d2 L2) : GCall P f args d L R' :=
  ⟨h.1, fun F W x => (h.2 F W x).mono fun e W' ⟨d', L', a, b, c, r⟩ => let ⟨d2, L2, v, r2⟩ := hr e d' L' b r; ⟨d2, L2, v.2 F W' a, b.trans v.1, c, r2⟩⟩
theorem GCall.monoR {P : Program} {f : FuncId} {args : List Value} {d : PHeap} {L : List PHeap} {R R' : Value → PHeap → List PHeap → Prop}
    (h : GCall P f args d L (Ret R)) (hr : ∀ v d' L', Le d d' → R v d' L' → ∃ d2 L2, Vs d' L' d2 L2 ∧ R' v d2 L2) : GCall P f args d L (Ret R') :=
  h.monoV (fun e d' L' hl r => by
    cases e with
    | returned v => exact hr v d' L' hl r
    | panicked c => exact r.elim
    | outgrown => exact r.elim)
theorem FRow.grow {N : Nat} {v : Value} {c : List UInt8} {h d : PHeap} (r : FRow N v c h) (hN : N ≤ 140737488355328) : GRow 1 RByte d v c h := by
  obtain ⟨hc, b, T, rfl, rfl⟩ := r
  refine ⟨c.map byteV, ORow.mk (by simp) (by omega) hc (by omega) (by simp; omega) (by simp), fun i hi => ?_⟩
  simp only [RByte, chunk, Nat.mul_one, ← List.map_drop, ← List.map_take]
  rw [List.drop_eq_getElem_cons hi]; rfl
end Go.Gk
