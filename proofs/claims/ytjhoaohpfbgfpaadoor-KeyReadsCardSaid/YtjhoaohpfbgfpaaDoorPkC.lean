/-
  Our own texts, one behind the other: Gk13 Gk14 Gk15 Gk16 Gk20 Gk22 GkV1 GkU1 GkV2 GkV3 GkV10 GkTabs Gk21.
-/
import Derived.Below
import Derived.Shelf.Unicode.DecodeSlow
import Derived.Lib.LaidU8T
import Derived.Shelf.Unicode.ValidAny
import GoSem.PinnedTables
import Derived.KernelRfl
import Derived.Lib.ValidLaws
import Derived.Test.YtjhoaohpfbgfpaaDoorPkB
section
namespace Go.Gk
open Go

def chunk (cs : List Value) (i sz : Nat) : List Value := (cs.drop (i * sz)).take sz
def GRow {α : Type} (sz : Nat) (R : PHeap → List Value → α → Prop) (d : PHeap) (v : Value) (xs : List α) (h : PHeap) : Prop :=
  ∃ cs, ORow sz v xs.length cs h ∧ ∀ i (hi : i < xs.length), R d (chunk cs i sz) xs[i]
def Src {α : Type} (sz : Nat) (R : PHeap → List Value → α → Prop) (d : PHeap) (Lk : List PHeap) (w : Value) (ys : List α) : Prop :=
  ∃ news, RdX d Lk w ys.length sz news ∧ (news.all (·.oneCell')) = true ∧ ∀ i (hi : i < ys.length), R d (chunk news i sz) ys[i]
def Cell1 {α : Type} (R : PHeap → List Value → α → Prop) : Prop := ∀ d cs x, R d cs x → (cs.all (·.oneCell')) = true
def Mono {α : Type} (R : PHeap → List Value → α → Prop) : Prop := ∀ {d d' cs x}, Le d d' → R d cs x → R d' cs x

theorem cell1_byte : Cell1 RByte := fun _ _ _ h => by cases h; rfl
theorem cell1_int : Cell1 RInt := fun _ _ _ h => by obtain ⟨rfl, _⟩ := h; rfl
theorem cell1_str : Cell1 RStr := fun _ _ _ h => by obtain ⟨rfl, _⟩ := h; rfl
theorem cell1_bs : Cell1 RBs := fun _ _ _ h => by obtain ⟨_, rfl, _, _, _, _, rfl, _⟩ := h; rfl
theorem mono_byte : Mono RByte := fun _ h => h
theorem mono_int : Mono RInt := fun _ h => h
theorem mono_str : Mono RStr := fun _ h => h
theorem mono_bs : Mono RBs := fun hl ⟨u, h1, h2⟩ => ⟨u, h1, h2.mono hl⟩

section
variable {α : Type} {sz : Nat} {R : PHeap → List Value → α → Prop} {d : PHeap} {v : Value} {xs : List α} {h : PHeap}
theorem chunk_len {cs : List Value} {n i : Nat} (hl : cs.length = n * sz) (hi : i < n) : (chunk cs i sz).length = sz := by
  have : (i + 1) * sz ≤ n * sz := Nat.mul_le_mul_right sz hi
  rw [Nat.add_mul, Nat.one_mul] at this
  simp only [chunk, List.length_take, List.length_drop, hl]
  omega
theorem chunk_app_left {cs ds : List Value} {n i : Nat} (hl : cs.length = n * sz) (hi : i < n) : chunk (cs ++ ds) i sz = chunk cs i sz := by
  have : (i + 1) * sz ≤ n * sz := Nat.mul_le_mul_right sz hi
  rw [Nat.add_mul, Nat.one_mul] at this
  simp only [chunk]
  rw [List.drop_append_of_le_length (by omega), List.take_append_of_le_length (by simp only [List.length_drop]; omega)]
theorem chunk_app_right {cs ds : List Value} {n i : Nat} (hl : cs.length = n * sz) (hi : n ≤ i) : chunk (cs ++ ds) i sz = chunk ds (i - n) sz := by
  have h1 : n * sz ≤ i * sz := Nat.mul_le_mul_right sz hi
  simp only [chunk]
  rw [List.drop_append, List.drop_of_length_le (by omega), List.nil_append, hl, Nat.sub_mul]
theorem GRow.nil : GRow sz R d (.slice none 0 0) [] emp := ⟨[], ORow.nil sz, fun i hi => absurd hi (Nat.not_lt_zero i)⟩
theorem GRow.lit0 {b : Nat} {T : TypeId} : GRow sz R d (.slice (some ⟨b, 0, none⟩) 0 0) [] (bx b T []) := ⟨[], ORow.lit (by simp) (by simp), fun i hi => absurd hi (Nat.not_lt_zero i)⟩
theorem GRow.mono (hR : Mono R) (o : GRow sz R d v xs h) {d' : PHeap} (hl : Le d d') : GRow sz R d' v xs h :=
  let ⟨cs, h1, h2⟩ := o
  ⟨cs, h1, fun i hi => hR hl (h2 i hi)⟩
theorem GRow.len_le (o : GRow sz R d v xs h) : xs.length ≤ 140737488355328 := let ⟨_, h1, _⟩ := o; h1.2.1
theorem GRow.val (o : GRow sz R d v xs h) : ∃ a c, v = .slice a xs.length c := by
  obtain ⟨cs, h1, _⟩ := o
  obtain ⟨a, b, c, e, _⟩ := h1.slice
  exact ⟨a, c, e⟩
theorem RSl.val (o : RSl sz R d v xs) : ∃ a c, v = .slice a xs.length c := let ⟨a, c, _, _, e, _⟩ := o; ⟨a, c, e⟩
theorem GRow.rsl (o : GRow sz R d v xs h) (hR : Mono R) (hsz : 0 < sz) {d' : PHeap} (hl : Le d d') (hh : Le h d') : RSl sz R d' v xs := by
  obtain ⟨cs, h1, h2⟩ := o
  exact h1.rsl hh rfl hsz (fun i hi => hR hl (h2 i hi))
theorem GRow.src (o : GRow sz R d v xs h) (hc : Cell1 R) {Lk : List PHeap} (hk : h ∈ Lk) : Src sz R d Lk v xs := by
  obtain ⟨cs, h1, h2⟩ := o
  refine ⟨cs, h1.rdx hk, ?_, h2⟩
  have hl := h1.1
  rw [List.all_eq_true]
  intro u hu
  obtain ⟨j, hj, rfl⟩ := List.getElem_of_mem hu
  by_cases h0 : sz = 0
  · subst h0; simp at hl; subst hl; simp at hj
  · have hq : j / sz < xs.length := by rw [Nat.div_lt_iff_lt_mul (by omega)]; omega
    have := List.all_eq_true.1 (hc _ _ _ (h2 _ hq)) cs[j] (by
      have hdm := Nat.div_add_mod' j sz
      have hm := Nat.mod_lt j (show 0 < sz by omega)
      rw [List.mem_iff_getElem?]
      refine ⟨j % sz, ?_⟩
      rw [chunk, List.getElem?_take_of_lt hm, List.getElem?_drop, hdm, List.getElem?_eq_getElem hj])
    exact this
theorem RSl.src (o : RSl sz R d v xs) (hc : Cell1 R) (_ : 0 < sz) (Lk : List PHeap) : Src sz R d Lk v xs := by
  obtain ⟨a, c, b, o, rfl, h2, h3, h4, h5, h6, h7, h8⟩ := o
  -- the elements' cells, one behind the other
  have key : ∀ n, n ≤ xs.length → ∃ news : List Value, news.length = n * sz ∧ (∀ j u, news[j]? = some u → DC d b (o + j) u) ∧ (news.all (·.oneCell')) = true ∧ ∀ i (hi : i < n) (hi' : i < xs.length), R d (chunk news i sz) xs[i] := by
    intro n
    induction n with
    | zero => exact fun _ => ⟨[], by simp, fun j u hu => by simp at hu, rfl, fun i hi => absurd hi (Nat.not_lt_zero i)⟩
    | succ n ih =>
      intro hn
      obtain ⟨news, k1, k2, k3, k4⟩ := ih (by omega)
      obtain ⟨cs, m1, m2, m3⟩ := h8 n (by omega)
      refine ⟨news ++ cs, by simp [k1, m1, Nat.add_mul], fun j u hu => ?_, ?_, fun i hi hi' => ?_⟩
      · rw [List.getElem?_append] at hu
        split at hu
        · exact k2 j u hu
        · rename_i hj
          have := m2.at hu
          rw [k1] at this
          rw [show o + j = o + n * sz + (j - n * sz) by omega]
          exact this
      · rw [List.all_append, k3, hc _ _ _ m3]; rfl
      · by_cases e : i < n
        · rw [chunk_app_left k1 e]; exact k4 i e hi'
        · obtain rfl : i = n := by omega
          rw [chunk_app_right k1 (Nat.le_refl _), Nat.sub_self]
          have : chunk cs 0 sz = cs := by simp [chunk, ← m1]
          rw [this]; exact m3
  obtain ⟨news, k1, k2, k3, k4⟩ := key xs.length (Nat.le_refl _)
  refine ⟨news, ⟨a, c, rfl, k1, fun e => ?_, fun a' ha i u hu => ?_⟩, k3, fun i hi => k4 i hi hi⟩
  · cases xs with
    | nil => exact List.eq_nil_of_length_eq_zero (by simpa using k1)
    | cons x xs => have := h2 (by simp); rw [e] at this; cases this
  · have h0 : xs.length ≠ 0 := by
      intro h0
      rw [h0, Nat.zero_mul] at k1
      rw [List.eq_nil_of_length_eq_zero k1] at hu; simp at hu
    have e := h2 h0
    rw [ha] at e; cases e
    rw [Addr.add_lit]
    exact hc_d (k2 i u hu)
theorem Src.lit {Lk : List PHeap} {b c n : Nat} {T : TypeId} {cs : List Value} {ys : List α} (i : Nat) (hi : Lk[i]? = some (bx b T cs)) (hn : n = ys.length) (hl : cs.length = ys.length * sz) (h1 : (cs.all (·.oneCell')) = true)
    (h2 : ∀ i (hi : i < ys.length), R d (chunk cs i sz) ys[i]) : Src sz R d Lk (.slice (some ⟨b, 0, none⟩) n c) ys := by
  subst hn
  exact ⟨cs, RdX.lit i hi hl, h1, h2⟩
theorem GRow.lit {b n : Nat} {T : TypeId} {cs : List Value} (hn : n = xs.length) (hl : cs.length = xs.length * sz) (hx : xs.length ≤ 140737488355328) (h2 : ∀ i (hi : i < xs.length), R d (chunk cs i sz) xs[i]) :
    GRow sz R d (.slice (some ⟨b, 0, none⟩) n n) xs (bx b T cs) := by
  subst hn
  exact ⟨cs, ORow.lit hl hx, h2⟩
theorem GRow.lit1 {b : Nat} {T : TypeId} {cs : List Value} {x : α} (hl : cs.length = sz) (h2 : R d cs x) : GRow sz R d (.slice (some ⟨b, 0, none⟩) 1 1) [x] (bx b T cs) :=
  GRow.lit rfl (by simp [hl]) (by simp) (fun i hi => by
    obtain rfl : i = 0 := by simpa using hi
    have : chunk cs 0 sz = cs := by simp [chunk, ← hl]
    rw [this]; exact h2)
end
theorem GRow.litB {d : PHeap} {b n : Nat} {T : TypeId} {cs : List Value} {l : List UInt8} (e : cs = l.map byteV) (hn : n = l.length) (hx : l.length ≤ 140737488355328) : GRow 1 RByte d (.slice (some ⟨b, 0, none⟩) n n) l (bx b T cs) := by
  subst e
  refine GRow.lit hn (by simp) hx (fun i hi => ?_)
  simp only [RByte, chunk, Nat.mul_one, ← List.map_drop, ← List.map_take]
  rw [List.drop_eq_getElem_cons hi]; rfl
theorem GRow.litI {d : PHeap} {b n : Nat} {T : TypeId} {cs : List Value} {l : List Int} (e : cs = l.map (Value.int .i64)) (hb : ∀ x ∈ l, -9223372036854775808 ≤ x ∧ x ≤ 9223372036854775807) (hn : n = l.length) (hx : l.length ≤ 140737488355328) : GRow 1 RInt d (.slice (some ⟨b, 0, none⟩) n n) l (bx b T cs) := by
  subst e
  refine GRow.lit hn (by simp) hx (fun i hi => ?_)
  simp only [RInt, chunk, Nat.mul_one, ← List.map_drop, ← List.map_take]
  rw [List.drop_eq_getElem_cons hi]; exact ⟨rfl, hb _ (List.getElem_mem hi)⟩
theorem GRow.bytes {d : PHeap} {v : Value} {xs : List UInt8} {h : PHeap} (o : GRow 1 RByte d v xs h) : ORow 1 v xs.length (xs.map byteV) h := by
  obtain ⟨cs, h1, h2⟩ := o
  have hl := h1.1
  have : cs = xs.map byteV := by
    apply List.ext_getElem
    · simp at hl ⊢; exact hl
    · intro i h3 h4
      have h5 : i < xs.length := by simpa using h4
      have h6 : chunk cs i 1 = [byteV xs[i]] := h2 i h5
      simp only [chunk, Nat.mul_one] at h6
      have h7 := congrArg (·[0]?) h6
      simp only [List.getElem?_take_of_lt (show 0 < 1 by omega), List.getElem?_drop, Nat.add_zero, List.getElem?_eq_getElem h3, List.getElem?_cons_zero, Option.some.injEq] at h7
      simp [h7]
  rw [← this]; exact h1

section
variable {P : Program} {pan : List PanicEntry → Post} {Qn : Env → Post} {Ls L : List PHeap} {ρ : Env} {d : PHeap} {s : GS} {t : Nat} {tk : Bool}
theorem w_appG {α : Type} {sz by_ : Nat} {R : PHeap → List Value → α → Prop} {z : List Value} {x y : Operand} (i : Nat) {v w : Value} {xs ys : List α} {h : PHeap} (ex : ev ρ x = v) (hi : L[i]? = some h) (ho : GRow sz R d v xs h)
    (ey : ev ρ y = w) (hs : Src sz R d (Ls ++ L ++ L) w ys) (hsz : 0 < sz) (hm : xs.length + ys.length ≤ 140737488355328) (hb : (xs.length + ys.length) * by_ ≤ 140737488355328)
    (k : ∀ v' h', GRow sz R d v' (xs ++ ys) h' → gws P pan Qn s Ls (upd ρ t v') d (L.set i h')) : gws P pan Qn (.op false ⟨some t, none, .app sz by_ z x y⟩ s) Ls ρ d L := by
  obtain ⟨cs, h1, h2⟩ := ho
  obtain ⟨news, k1, k2, k3⟩ := hs
  have hl := h1.1
  refine w_app i ex hi h1 ey k1 k2 hsz hm hb (fun v' h' o => k v' h' ⟨cs ++ news, by rw [List.length_append]; exact o, fun j hj => ?_⟩)
  by_cases e : j < xs.length
  · rw [chunk_app_left hl e, List.getElem_append_left e]; exact h2 j e
  · rw [chunk_app_right hl (by omega), List.getElem_append_right (by omega)]
    exact k3 _ (by simp at hj; omega)
theorem w_appN {α : Type} {sz by_ : Nat} {R : PHeap → List Value → α → Prop} {z : List Value} {x y : Operand} {w : Value} {ys : List α} (ex : ev ρ x = .slice none 0 0)
    (ey : ev ρ y = w) (hs : Src sz R d (Ls ++ L ++ L) w ys) (hsz : 0 < sz) (hm : ys.length ≤ 140737488355328) (hb : ys.length * by_ ≤ 140737488355328)
    (k : ∀ v' h', GRow sz R d v' ys h' → gws P pan Qn s Ls (upd ρ t v') d (h' :: L)) : gws P pan Qn (.op false ⟨some t, none, .app sz by_ z x y⟩ s) Ls ρ d L := by
  refine w_vs d (emp :: L) Vs.emp ?_
  refine w_appG (R := R) 0 ex rfl GRow.nil ey ?_ hsz (by simpa using hm) (by simpa using hb) (fun v' h' o => k v' h' (by simpa using o))
  obtain ⟨news, ⟨a, c, e1, e2, e3, e4⟩, k2, k3⟩ := hs
  refine ⟨news, ⟨a, c, e1, e2, e3, fun a' ha i u hu => ?_⟩, k2, k3⟩
  obtain ⟨h1, h, h2, h3⟩ := e4 a' ha i u hu
  refine ⟨h1, h, ?_, h3⟩
  rcases h2 with h2 | h2
  · exact .inl h2
  · refine .inr ?_
    simp only [List.mem_append, List.mem_cons] at h2 ⊢
    rcases h2 with (h2 | h2) | h2 <;> simp [h2]
theorem w_appL {α : Type} {sz by_ : Nat} {R : PHeap → List Value → α → Prop} {z : List Value} {x y : Operand} (i : Nat) {v w : Value} {xs ys : List α} {h g : PHeap} (ex : ev ρ x = v) (hi : L[i]? = some h) (ho : GRow sz R d v xs h)
    (ey : ev ρ y = w) (hs : GRow sz R d w ys g) (hc : Cell1 R) (hsz : 0 < sz) (hm : xs.length + ys.length ≤ 140737488355328) (hb : (xs.length + ys.length) * by_ ≤ 140737488355328)
    (k : ∀ v' h', GRow sz R d v' (xs ++ ys) h' → gws P pan Qn s Ls (upd ρ t v') d (L.set i h')) : gws P pan Qn (.op false ⟨some t, none, .app sz by_ z x y⟩ s) Ls ρ d (g :: L) := by
  obtain ⟨cs, h1, h2⟩ := ho
  obtain ⟨news, k1, k2, k3⟩ := (hs.src hc (by simp) : Src sz R d (Ls ++ (g :: L) ++ (g :: L)) w ys)
  have hl := h1.1
  refine w_appV (i + 1) ex (by simpa using hi) h1 ey k1 k2 hsz hm hb (fun v' h' o => ⟨d, L.set i h', ?_, k v' h' ⟨cs ++ news, by rw [List.length_append]; exact o, fun j hj => ?_⟩⟩)
  · rw [List.set_cons_succ]
    exact Vs.drop (List.sublist_cons_self _ _)
  · by_cases e : j < xs.length
    · rw [chunk_app_left hl e, List.getElem_append_left e]; exact h2 j e
    · rw [chunk_app_right hl (by omega), List.getElem_append_right (by omega)]
      exact k3 _ (by simp at hj; omega)
theorem w_lenG {α : Type} {sz : Nat} {R : PHeap → List Value → α → Prop} {x : Operand} {v : Value} {xs : List α} {h : PHeap} (ex : ev ρ x = v) (hr : GRow sz R d v xs h) (k : gws P pan Qn s Ls (upd ρ t (.int .i64 xs.length)) d L) :
    gws P pan Qn (.op tk ⟨some t, none, .len x⟩ s) Ls ρ d L := by
  obtain ⟨a, c, rfl⟩ := hr.val
  exact w_len ex k
theorem w_b2sG {x : Operand} {v : Value} {l : List UInt8} {h : PHeap} (ex : ev ρ x = v) (hr : GRow 1 RByte d v l h) (hk : h ∈ lk tk Ls L) (k : gws P pan Qn s Ls (upd ρ t (strV l)) d L) : gws P pan Qn (.op tk ⟨some t, none, .b2s x⟩ s) Ls ρ d L := by
  have o := hr.bytes
  obtain ⟨a, b, c, rfl, h2, h3, h4, h5, h6, h7⟩ := o.slice
  refine w_b2s (b := b) (o := 0) ex rfl h2 (fun i u hu => ?_) k
  rw [Nat.zero_add]
  exact h7 i _ (by rw [List.getElem?_map, hu]; rfl) d _ hk
theorem w_idxR {α : Type} {sz : Nat} {R : PHeap → List Value → α → Prop} {x i : Operand} {v : Value} {xs : List α} {k : IntKind} {j : Int} {m : Nat} (ex : ev ρ x = v) (hr : RSl sz R d v xs) (ei : ev ρ i = .int k j) (hm : j = (m : Int)) (hl : m < xs.length)
    (h : ∀ b o cs, cs.length = sz → DCs d b o cs → R d cs xs[m] → gws P pan Qn s Ls (upd ρ t (.pointer (some ⟨b, o, none⟩))) d L) : gws P pan Qn (.op tk ⟨some t, none, .idx sz x i⟩ s) Ls ρ d L := by
  obtain ⟨a, c, b, o, rfl, h2, h3, h4, h5, h6, h7, h8⟩ := hr
  obtain ⟨cs, k1, k2, k3⟩ := h8 m hl
  exact w_idx m ex ei hm hl h2 (h b _ cs k1 k2 k3)
end
section
variable {P : Program} {Q : GPost} {ρ : Env} {d : PHeap} {L : List PHeap}
theorem w_loopV {α : Type} {a : GCode} (slots : α → Value → List (Nat × Value)) (inv : α → Value → PHeap → PHeap → List PHeap → Prop) (meas : α → Nat) (x0 : α) (v0 : Value) (h0 : PHeap) (hs : SlotsAre ρ (slots x0 v0)) (i0 : inv x0 v0 h0 d L)
    (round : ∀ x v h ρ d L, inv x v h d L → gwp P a { Q with n := fun ρ d L => ∃ x' v' h', meas x' < meas x ∧ SlotsAre ρ (slots x' v') ∧ inv x' v' h' d L } (updL ρ (slots x v)) d L) : gwp P (.loop a) Q ρ d L :=
  w_loopS (α := α × Value × PHeap) (fun x => slots x.1 x.2.1) (fun x d L => inv x.1 x.2.1 x.2.2 d L) (fun x => meas x.1) (x0, v0, h0) hs i0
    (fun x ρ d L hi => gwp_mono (fun _ _ _ ⟨x', v', h', a, b, c⟩ => ⟨(x', v', h'), a, b, c⟩) (round x.1 x.2.1 x.2.2 ρ d L hi))
end
section
variable {P : Program} {pan : List PanicEntry → Post} {Qn : Env → Post} {Ls L : List PHeap} {ρ : Env} {d : PHeap} {s t : GS} {g : GOp}
theorem w_alt (h1 : gws P pan Qn (.op false g s) Ls ρ d L) (h2 : gws P pan Qn t Ls ρ d L) : gws P pan Qn (.alt g s t) Ls ρ d L := ⟨h1, h2⟩
theorem w_pick (is : List Nat) (hp : is.isPerm (List.range L.length) = true) (h : gws P pan Qn (.op false g s) Ls ρ d (pick L is)) : gws P pan Qn (.op false g s) Ls ρ d L := w_vs d _ (Vs.pick is hp) h
theorem w_donep (is : List Nat) (hp : is.isPerm (List.range L.length) = true) (h : Qn ρ d (pick L is)) : gws P pan Qn .done [] ρ d L := ⟨d, _, Vs.pick is hp, h⟩
theorem w_doneE (h : ∃ d1 L1, Vs d L d1 L1 ∧ Qn ρ d1 L1) : gws P pan Qn .done [] ρ d L := h
theorem res_tmp {C : Addr → Value → Prop} {t : Nat} {v : Value} (e : ρ t = v) : resOne ρ C (.tmp t) v := e.symm
theorem res_cell {t n b : Nat} {T : TypeId} {l : List Value} (i : Nat) (e : ρ t = .pointer (some ⟨b, 0, none⟩)) (hi : L[i]? = some (bx b T l)) (hn : l.length = n) : resOne ρ (HC d L) (.cell t (some n)) (.agg l.toArray) :=
  ⟨b, 0, l, e, hn, fun j u hu => by rw [Nat.zero_add]; exact hc_i i hi hu, rfl⟩
theorem finF {res : List GRes} {R : Ending → PHeap → List PHeap → Prop} (vs : List Value) (hr : resAll ρ (HC d L) res vs) (h : ∀ d', Le d d' → (∀ k ∈ L, Le k d') → R (.returned (resV vs)) d' []) : retPost res R ρ d L :=
  let ⟨d', h1, h2, h3⟩ := Vs.frzAll d L
  ⟨vs, hr, d', [], h1, h d' h2 h3⟩
theorem finS {res : List GRes} {R : Ending → PHeap → List PHeap → Prop} (vs : List Value) {L' : List PHeap} (hr : resAll ρ (HC d L) res vs) (hs : L'.Sublist L) (h : R (.returned (resV vs)) d L') : retPost res R ρ d L :=
  ⟨vs, hr, d, L', Vs.drop hs, h⟩
end
section
variable {P : Program} {pan : List PanicEntry → Post} {Qn : Env → Post} {Ls L : List PHeap} {ρ : Env} {d : PHeap} {s : GS} {t : Nat} {tk : Bool}
theorem w_pickdT {c a b : Operand} {p : Prop} [Decidable p] {v : Value} (e : ev ρ c = .bool (decide p)) (hp : p) (ea : ev ρ a = v) (h : gws P pan Qn s Ls (upd ρ t v) d L) : gws P pan Qn (.op tk ⟨some t, none, .pick c a b⟩ s) Ls ρ d L :=
  w_pickT (by rw [e]; simp [hp]) ea h
theorem w_pickdF {c a b : Operand} {p : Prop} [Decidable p] {v : Value} (e : ev ρ c = .bool (decide p)) (hp : ¬ p) (eb : ev ρ b = v) (h : gws P pan Qn s Ls (upd ρ t v) d L) : gws P pan Qn (.op tk ⟨some t, none, .pick c a b⟩ s) Ls ρ d L :=
  w_pickF (by rw [e]; simp [hp]) eb h
theorem w_pickqT {c a b : Operand} {q : Bool} {v : Value} (e : ev ρ c = .bool q) (hp : q = true) (ea : ev ρ a = v) (h : gws P pan Qn s Ls (upd ρ t v) d L) : gws P pan Qn (.op tk ⟨some t, none, .pick c a b⟩ s) Ls ρ d L :=
  w_pickT (by rw [e, hp]) ea h
theorem w_pickqF {c a b : Operand} {q : Bool} {v : Value} (e : ev ρ c = .bool q) (hp : q = false) (eb : ev ρ b = v) (h : gws P pan Qn s Ls (upd ρ t v) d L) : gws P pan Qn (.op tk ⟨some t, none, .pick c a b⟩ s) Ls ρ d L :=
  w_pickF (by rw [e, hp]) eb h
end
theorem GCall.monoV {P : Program} {f : FuncId} {args : List Value} {d : PHeap} {L : List PHeap} {R R' : Ending → PHeap → List PHeap → Prop}
    (h : GCall P f args d L R) (hr : ∀ e d' L', Le d d' → R e d' L' → ∃ d2 L2, Vs d' L' d2 L2 ∧ R' e d2 L2) : GCall P f args d L R' :=
  ⟨h.1, fun F W x => (h.2 F W x).mono fun e W' ⟨d', L', a, b, c, r⟩ => let ⟨d2, L2, v, r2⟩ := hr e d' L' b r; ⟨d2, L2, v.2 F W' a, b.trans v.1, c, r2⟩⟩
theorem GCall.monoR {P : Program} {f : FuncId} {args : List Value} {d : PHeap} {L : List PHeap} {R R' : Value → PHeap → List PHeap → Prop}
    (h : GCall P f args d L (Ret R)) (hr : ∀ v d' L', Le d d' → R v d' L' → ∃ d2 L2, Vs d' L' d2 L2 ∧ R' v d2 L2) : GCall P f args d L (Ret R') :=
  h.monoV (fun e d' L' hl r => by
    cases e with
    | returned v => exact hr v d' L' hl r
    | panicked c => exact r.elim
    | outgrown => exact r.elim)
theorem FRow.grow {N : Nat} {v : Value} {c : List UInt8} {h d : PHeap} (r : FRow N v c h) (hN : N ≤ 140737488355328) : GRow 1 RByte d v c h := by
  obtain ⟨hc, b, T, rfl, rfl⟩ := r
  refine ⟨c.map byteV, ORow.mk (by simp) (by omega) hc (by omega) (by simp; omega) (by simp), fun i hi => ?_⟩
  simp only [RByte, chunk, Nat.mul_one, ← List.map_drop, ← List.map_take]
  rw [List.drop_eq_getElem_cons hi]; rfl
end Go.Gk
end

section
namespace Go.Gk
open Go

def joinL : List PHeap → PHeap
  | [] => emp
  | h :: L => join h (joinL L)
theorem joinL_le : ∀ {L : List PHeap} {h : PHeap}, h ∈ L → Le h (joinL L)
  | k :: L, h, hm => by
    rcases List.mem_cons.1 hm with rfl | hm
    · exact Le.join_left _ _
    · exact (joinL_le hm).trans (Le.join_right _ _)
theorem joinL_disj {k : PHeap} : ∀ {L : List PHeap}, (∀ h ∈ L, Disj k h) → Disj k (joinL L)
  | [], _ => fun _ _ _ _ e => e.elim
  | h :: _, hd => fun b o o' e e' => e'.elim (hd h (List.mem_cons_self ..) b o o' e) (joinL_disj (fun h' hm => hd h' (List.mem_cons_of_mem _ hm)) b o o' e)
theorem Vs.cons {d d' h : PHeap} {L L' : List PHeap} (v : Vs d L d' L') : Vs d (h :: L) d' (h :: L') :=
  ⟨v.1, fun F W x => (v.2 (h :: F) W (x.perm (List.perm_middle.symm.cons d))).perm (List.perm_middle.cons d')⟩
theorem Vs.openL {d : PHeap} {L0 : List PHeap} : ∀ {L : List PHeap}, L.Pairwise Disj → Vs d (joinL L :: L0) d (L ++ L0)
  | [], _ => Vs.drop (List.sublist_cons_self _ _)
  | h :: L, hp => by
    rw [List.pairwise_cons] at hp
    exact (Vs.split (joinL_disj hp.1)).trans (Vs.cons (Vs.openL hp.2))
theorem Vs.packL {d : PHeap} {L0 : List PHeap} : ∀ {L : List PHeap}, Vs d (L ++ L0) d (joinL L :: L0)
  | [] => Vs.emp
  | _ :: L => (Vs.cons (Vs.packL (L := L))).trans Vs.join
theorem Vs.pack {d : PHeap} (L : List PHeap) : Vs d L d [joinL L] := by
  have := Vs.packL (d := d) (L0 := []) (L := L)
  rwa [List.append_nil] at this

theorem Ok.pw {d : PHeap} {L F : List PHeap} {W : World} (x : Ok (d :: (L ++ F)) W) : (d :: L).Pairwise Disj := x.1.sublist ((List.sublist_append_left L F).cons_cons d)
theorem Ok.disj {P : Program} {f : FuncId} {args : List Value} {d : PHeap} {L : List PHeap} {R : Value → PHeap → List PHeap → Prop} (h : GCall P f args d L (Ret R)) : GCall P f args d L (Ret fun v d' L' => R v d' L' ∧ (d' :: L').Pairwise Disj) :=
  ⟨h.1, fun F W x => (h.2 F W x).mono fun e W' ⟨d', L', a, b, c, r⟩ => ⟨d', L', a, b, c, by
    cases e with
    | returned v => exact ⟨r, a.pw⟩
    | panicked c => exact r
    | outgrown => exact r⟩⟩
theorem GPure.borrow {P : Program} {f : FuncId} {vs : List Value} {d : PHeap} {L : List PHeap} {v : Value} (h : ∀ d1, Le d d1 → (∀ k ∈ L, Le k d1) → GPure P f vs d1 v) :
    GCall P f vs d L (Ret fun r d' L' => r = v ∧ d' = d ∧ L' = L) := by
  have h := h (joinL (d :: L)) (joinL_le (List.mem_cons_self ..)) (fun k hk => joinL_le (List.mem_cons_of_mem _ hk))
  refine ⟨h.1, fun F W x => ?_⟩
  have hp := x.pw
  have y : Ok (joinL (d :: L) :: ([] ++ F)) W := by
    have := (Vs.packL (d := emp) (L0 := F) (L := d :: L)).2 [] W (by simpa using x.emp)
    simpa using this.tail
  refine (h.2 F W y).mono fun e W' ⟨d', L', a, b, c, r⟩ => ?_
  cases e with
  | panicked c => exact r.elim
  | outgrown => exact r.elim
  | returned u =>
    obtain ⟨rfl, rfl, rfl⟩ := r
    refine ⟨d, L, ?_, Le.refl d, c, rfl, rfl, rfl⟩
    have := (Vs.openL (d := emp) (L0 := F) hp).2 [] W' (by simpa using a.emp)
    simpa using this.tail

section
variable {P : Program} {pan : List PanicEntry → Post} {Qn : Env → Post} {Ls L : List PHeap} {ρ : Env} {d : PHeap} {s : GS} {t : Nat} {tk : Bool}
theorem w_pureB {f : FuncId} {args : List Operand} {vs : List Value} {v : Value} (ea : args.map (ev ρ) = vs) (hc : ∀ d1, Le d d1 → (∀ k ∈ L, Le k d1) → GPure P f vs d1 v)
    (h : gws P pan Qn s Ls (upd ρ t v) d L) : gws P pan Qn (.op false ⟨some t, none, .call f args⟩ s) Ls ρ d L := by
  refine w_calln (R := fun r d' L' => r = v ∧ d' = d ∧ L' = L) L.length ea (by rw [List.take_length]; exact GPure.borrow hc) (fun r d' L' _ ⟨h1, h2, h3⟩ => ?_)
  subst h1; subst h2; subst h3
  rw [List.drop_length, List.append_nil]; exact h
theorem w_callA {f : FuncId} {args : List Operand} {R : Value → PHeap → List PHeap → Prop} {vs : List Value} {A B : List PHeap} (hL : L = A ++ B) (ea : args.map (ev ρ) = vs) (hc : GCall P f vs d A (Ret R))
    (h : ∀ v d' L', Le d d' → R v d' L' → gws P pan Qn s Ls (upd ρ t v) d' (L' ++ B)) : gws P pan Qn (.op false ⟨some t, none, .call f args⟩ s) Ls ρ d L := by
  subst hL
  refine w_calln A.length ea (by rw [List.take_left]; exact hc) (fun v d' L' hl hr => ?_)
  rw [List.drop_left]; exact h v d' L' hl hr
end

theorem RSl.cut {α : Type} {sz : Nat} {R : PHeap → List Value → α → Prop} {d : PHeap} {a : Option Addr} {n c : Nat} {xs : List α} (hr : RSl sz R d (.slice a n c) xs) {l h m : Nat} (h1 : l ≤ h) (h2 : h ≤ m) (h3 : m ≤ c) (h4 : h ≤ xs.length) :
    RSl sz R d (.slice (if m = l then a else a.map fun a => ⟨a.block, a.off + l * sz, none⟩) (h - l) (m - l)) ((xs.drop l).take (h - l)) := by
  obtain ⟨a', c', b, o, e, k2, k3, k4, k5, k6, k7, k8⟩ := hr
  cases e
  have hl : ((xs.drop l).take (h - l)).length = h - l := by simp; omega
  refine ⟨_, m - l, b, o + l * sz, by rw [hl], fun h0 => ?_, fun h0 a' ha => ?_, fun h0 => ?_, by omega, by omega, by omega, fun i hi => ?_⟩
  · rw [hl] at h0
    rw [if_neg (by omega), k2 (by omega)]; rfl
  · rw [if_neg (by omega)] at ha
    cases a with
    | none => cases ha
    | some a => cases ha; rfl
  · split at h0
    · omega
    · cases a with
      | none => have := k4 rfl; omega
      | some a => cases h0
  · rw [hl] at hi
    obtain ⟨cs, j1, j2, j3⟩ := k8 (l + i) (by omega)
    refine ⟨cs, j1, ?_, ?_⟩
    · rw [Nat.add_mul, ← Nat.add_assoc] at j2; exact j2
    · simpa using j3
section
variable {P : Program} {pan : List PanicEntry → Post} {Qn : Env → Post} {Ls L : List PHeap} {ρ : Env} {d : PHeap} {s : GS} {t : Nat} {tk : Bool} {α : Type} {sz : Nat} {R : PHeap → List Value → α → Prop} {x y z : Operand} {v : Value} {xs : List α} {kk kk' : IntKind} {n m : Nat}
theorem w_slTo {j : Int} (ex : ev ρ x = v) (hr : RSl sz R d v xs) (ey : ev ρ y = .int kk j) (hj : j = (n : Int)) (hn : n ≤ xs.length) (k : ∀ v', RSl sz R d v' (xs.take n) → gws P pan Qn s Ls (upd ρ t v') d L) :
    gws P pan Qn (.op tk ⟨some t, none, .sl sz x none (some y) none⟩ s) Ls ρ d L := by
  subst hj
  have hr' := hr
  obtain ⟨a, c, b, o, rfl, h2, h3, h4, h5, h6, h7, h8⟩ := hr
  have hc : cutV xs.length c none (some (ev ρ y)) none = some (0, n, c) := by
    simp only [cutV, cutM, cutH, cutL, Option.bind_some, Option.map_some, ey, bnd]
    rw [if_pos (by omega)]; simp
  refine w_q rfl ⟨a, xs.length, c, 0, n, c, ex, h3, hc, rfl⟩ (k _ ?_)
  simpa using hr'.cut (l := 0) (h := n) (m := c) (by omega) (by omega) (Nat.le_refl c) hn
theorem w_slTo3 {j j' : Int} (ex : ev ρ x = v) (hr : RSl sz R d v xs) (ey : ev ρ y = .int kk j) (ez : ev ρ z = .int kk' j') (hj : j = (n : Int)) (hj' : j' = (n : Int)) (hn : n ≤ xs.length) (k : ∀ v', RSl sz R d v' (xs.take n) → gws P pan Qn s Ls (upd ρ t v') d L) :
    gws P pan Qn (.op tk ⟨some t, none, .sl sz x none (some y) (some z)⟩ s) Ls ρ d L := by
  subst hj; subst hj'
  have hr' := hr
  obtain ⟨a, c, b, o, rfl, h2, h3, h4, h5, h6, h7, h8⟩ := hr
  have hc : cutV xs.length c none (some (ev ρ y)) (some (ev ρ z)) = some (0, n, n) := by
    simp only [cutV, cutM, cutH, cutL, Option.bind_some, ey, ez, bnd]
    rw [if_pos (by omega)]
    simp
  refine w_q rfl ⟨a, xs.length, c, 0, n, n, ex, fun h0 => h3 (by omega), hc, rfl⟩ (k _ ?_)
  simpa using hr'.cut (l := 0) (h := n) (m := n) (by omega) (by omega) (by omega) hn
theorem w_slFrom {j : Int} (ex : ev ρ x = v) (hr : RSl sz R d v xs) (ey : ev ρ y = .int kk j) (hj : j = (n : Int)) (hn : n ≤ xs.length) (k : ∀ v', RSl sz R d v' (xs.drop n) → gws P pan Qn s Ls (upd ρ t v') d L) :
    gws P pan Qn (.op tk ⟨some t, none, .sl sz x (some y) none none⟩ s) Ls ρ d L := by
  subst hj
  have hr' := hr
  obtain ⟨a, c, b, o, rfl, h2, h3, h4, h5, h6, h7, h8⟩ := hr
  have hc : cutV xs.length c (some (ev ρ y)) none none = some (n, xs.length, c) := by
    simp only [cutV, cutM, cutH, cutL, Option.isSome_none, Bool.false_eq_true, if_false, Option.bind_some, ey, bnd]
    rw [if_pos (by omega)]; simp
  refine w_q rfl ⟨a, xs.length, c, n, xs.length, c, ex, fun (h0 : c ≠ n) => h3 (by omega), hc, rfl⟩ (k _ ?_)
  have := hr'.cut (l := n) (h := xs.length) (m := c) (by omega) (by omega) (Nat.le_refl c) (Nat.le_refl _)
  rwa [List.take_of_length_le (by simp)] at this
theorem w_slMid {j j' : Int} (ex : ev ρ x = v) (hr : RSl sz R d v xs) (ey : ev ρ y = .int kk j) (ez : ev ρ z = .int kk' j') (hj : j = (n : Int)) (hj' : j' = (m : Int)) (hnm : n ≤ m) (hn : m ≤ xs.length) (k : ∀ v', RSl sz R d v' ((xs.drop n).take (m - n)) → gws P pan Qn s Ls (upd ρ t v') d L) :
    gws P pan Qn (.op tk ⟨some t, none, .sl sz x (some y) (some z) none⟩ s) Ls ρ d L := by
  subst hj; subst hj'
  have hr' := hr
  obtain ⟨a, c, b, o, rfl, h2, h3, h4, h5, h6, h7, h8⟩ := hr
  have hc : cutV xs.length c (some (ev ρ y)) (some (ev ρ z)) none = some (n, m, c) := by
    simp only [cutV, cutM, cutH, cutL, Option.bind_some, ey, ez, bnd]
    rw [if_pos (by omega)]
    simp only [Option.bind_some, Int.toNat_natCast]
    rw [if_pos (by omega)]; simp
  exact w_q rfl ⟨a, xs.length, c, n, m, c, ex, fun (h0 : c ≠ n) => h3 (by omega), hc, rfl⟩ (k _ (hr'.cut (l := n) (h := m) (m := c) hnm (by omega) (Nat.le_refl c) hn))
end
section
variable {P : Program} {pan : List PanicEntry → Post} {Qn : Env → Post} {Ls L : List PHeap} {ρ : Env} {d : PHeap} {s : GS} {t : Nat}
theorem w_appLO {sz by_ : Nat} {z : List Value} {x y : Operand} (i : Nat) {v : Value} {n m b : Nat} {T : TypeId} {xs cs : List Value} {h : PHeap} (ex : ev ρ x = v) (hi : L[i]? = some h) (ho : ORow sz v n xs h)
    (ey : ev ρ y = .slice (some ⟨b, 0, none⟩) m m) (hl : cs.length = m * sz) (h1 : (cs.all (·.oneCell')) = true) (hsz : 0 < sz) (hm : n + m ≤ 140737488355328) (hb : (n + m) * by_ ≤ 140737488355328)
    (k : ∀ v' h', ORow sz v' (n + m) (xs ++ cs) h' → gws P pan Qn s Ls (upd ρ t v') d (L.set i h')) : gws P pan Qn (.op false ⟨some t, none, .app sz by_ z x y⟩ s) Ls ρ d (bx b T cs :: L) := by
  have hrd : RdX d (Ls ++ (bx b T cs :: L) ++ (bx b T cs :: L)) (.slice (some ⟨b, 0, none⟩) m m) m sz cs :=
    RdX.lit (T := T) (Ls.length) (by rw [List.append_assoc, List.getElem?_append_right (Nat.le_refl _)]; simp) hl
  refine w_appV (i + 1) ex (by simpa using hi) ho ey hrd h1 hsz hm hb (fun v' h' o => ⟨d, L.set i h', ?_, k v' h' o⟩)
  rw [List.set_cons_succ]
  exact Vs.drop (List.sublist_cons_self _ _)
end
theorem Vs.picks {d : PHeap} (Ls : List (List PHeap)) (is js : List Nat) (hp : (is ++ js).isPerm (List.range Ls.length) = true) : Vs d Ls.flatten d ((is.map fun i => Ls.getD i []).flatten) := by
  have hp : (is ++ js).Perm (List.range Ls.length) := List.isPerm_iff.1 hp
  have h1 := hp.symm.map fun i => Ls.getD i []
  have h0 : (List.range Ls.length).map (fun i => Ls.getD i []) = Ls := by
    apply List.ext_getElem
    · simp
    · intro i h1 h2
      simp [List.getD, h2]
  rw [h0, List.map_append] at h1
  have h2 := h1.flatten
  rw [List.flatten_append] at h2
  exact (Vs.perm h2).trans (Vs.drop (List.sublist_append_left _ _))
section
variable {P : Program} {Q : GPost} {ρ : Env} {d : PHeap} {L : List PHeap}
theorem w_drawnA {s : GS} (Ls L1 : List PHeap) (hL : L = Ls ++ L1) (h : gws P Q.pan Q.n s Ls ρ d L1) : gwp P (.reg true s) Q ρ d L := ⟨d, Ls, L1, by rw [hL]; exact Vs.refl d _, h⟩
theorem finV {res : List GRes} {R : Ending → PHeap → List PHeap → Prop} (vs : List Value) {d' : PHeap} {L' : List PHeap} (hr : resAll ρ (HC d L) res vs) (hs : Vs d L d' L') (h : R (.returned (resV vs)) d' L') : retPost res R ρ d L :=
  ⟨vs, hr, d', L', hs, h⟩
end
theorem patch_set {l : List Value} {m : Nat} {x : Value} (h : m < l.length) : patch l m [x] = l.set m x := by
  rw [List.set_eq_take_append_cons_drop, if_pos h]; simp [patch]
theorem ORow.open1 {n : Nat} {v : Value} {us : List Value} {h : PHeap} (o : ORow 1 v n us h) {m : Nat} (hm : m < n) :
    ∃ b T l c, v = .slice (some ⟨b, 0, none⟩) n c ∧ h = bx b T l ∧ m < l.length ∧ (∀ u, us[m]? = some u → l[m]? = some u) ∧ ∀ x, ORow 1 v n (us.set m x) (bx b T (patch l m [x])) := by
  obtain ⟨h1, h2, ⟨rfl, rfl, rfl⟩ | ⟨b, T, l, c, rfl, rfl, h3, h4, h5, h6⟩⟩ := o
  · omega
  · have hml : m < l.length := by omega
    refine ⟨b, T, l, c, rfl, rfl, hml, fun u hu => ?_, fun x => ?_⟩
    · rw [← h6] at hu
      rw [List.getElem?_take_of_lt (by omega)] at hu
      exact hu
    · rw [patch_set hml]
      refine ⟨by simpa using h1, h2, .inr ⟨b, T, l.set m x, c, rfl, rfl, h3, h4, by simpa using h5, ?_⟩⟩
      rw [List.length_set, List.take_set, h6]
theorem GRow.openB {d : PHeap} {v : Value} {xs : List UInt8} {h : PHeap} (o : GRow 1 RByte d v xs h) {m : Nat} (hm : m < xs.length) :
    ∃ b T l c, v = .slice (some ⟨b, 0, none⟩) xs.length c ∧ h = bx b T l ∧ m < l.length ∧ l[m]? = some (byteV xs[m]) ∧ ∀ y, GRow 1 RByte d v (xs.set m y) (bx b T (patch l m [byteV y])) := by
  obtain ⟨b, T, l, c, h1, h2, h3, h4, h5⟩ := o.bytes.open1 hm
  refine ⟨b, T, l, c, h1, h2, h3, h4 _ (by simp [hm]), fun y => ?_⟩
  have := h5 (byteV y)
  rw [← List.map_set] at this
  refine ⟨(xs.set m y).map byteV, by rw [List.length_set]; exact this, fun i hi => ?_⟩
  simp only [RByte, chunk, Nat.mul_one, ← List.map_drop, ← List.map_take]
  rw [List.drop_eq_getElem_cons hi]; rfl
theorem GRow.openI {d : PHeap} {v : Value} {xs : List Int} {h : PHeap} (o : GRow 1 RInt d v xs h) {m : Nat} (hm : m < xs.length) :
    ∃ b T l c, v = .slice (some ⟨b, 0, none⟩) xs.length c ∧ h = bx b T l ∧ m < l.length ∧ l[m]? = some (.int .i64 xs[m]) ∧ ∀ y : Int, -9223372036854775808 ≤ y → y ≤ 9223372036854775807 → GRow 1 RInt d v (xs.set m y) (bx b T (patch l m [.int .i64 y])) := by
  obtain ⟨cs, ho, hr⟩ := o
  obtain ⟨b, T, l, c, h1, h2, h3, h4, h5⟩ := ho.open1 hm
  have hl := ho.1
  refine ⟨b, T, l, c, h1, h2, h3, h4 _ ?_, fun y hy1 hy2 => ⟨cs.set m (.int .i64 y), by rw [List.length_set]; exact h5 _, fun i hi => ?_⟩⟩
  · obtain ⟨e, _⟩ := hr m hm
    have e2 := congrArg (·[0]?) e
    simp only [chunk, Nat.mul_one, List.getElem?_take_of_lt (show 0 < 1 by omega), List.getElem?_drop, Nat.add_zero, List.getElem?_cons_zero] at e2
    exact e2
  · have hi' : i < xs.length := by simpa using hi
    have hic : i < cs.length := by omega
    by_cases e : m = i
    · subst e
      simp only [List.getElem_set_self]
      refine ⟨?_, hy1, hy2⟩
      simp only [chunk, Nat.mul_one]
      rw [List.drop_eq_getElem_cons (by simpa using hic)]
      simp
    · simp only [List.getElem_set_ne e]
      have := hr i hi'
      have e2 : chunk (cs.set m (.int .i64 y)) i 1 = chunk cs i 1 := by
        simp only [chunk, Nat.mul_one]
        rw [List.drop_eq_getElem_cons (by simpa using hic), List.getElem_set_ne e]
        have h0 : cs.drop i = cs[i] :: cs.drop (i + 1) := List.drop_eq_getElem_cons hic
        rw [h0]; rfl
      rw [e2]; exact this
section
variable {P : Program} {pan : List PanicEntry → Post} {Qn : Env → Post} {Ls L : List PHeap} {ρ : Env} {d : PHeap} {s : GS} {t : Nat} {tk : Bool}
theorem w_addB {x y : Operand} {a : UInt8} {c : Int} (ex : ev ρ x = byteV a) (ey : ev ρ y = .int .u8 c) (h : gws P pan Qn s Ls (upd ρ t (byteV (UInt8.ofNat ((a.toNat + c) % 256).toNat))) d L) :
    gws P pan Qn (.op tk ⟨some t, none, .bin .add x y⟩ s) Ls ρ d L :=
  w_bin (by rw [ex, ey]; simp only [byteV, binV]; rw [if_neg (by simp)]; simp only [byteV_wrap]; rfl) h
theorem w_idx1 {x i : Operand} {b n c : Nat} {k : IntKind} {j : Int} (m : Nat) (ex : ev ρ x = .slice (some ⟨b, 0, none⟩) n c) (ei : ev ρ i = .int k j) (hm : j = (m : Int)) (hl : m < n)
    (h : gws P pan Qn s Ls (upd ρ t (.pointer (some ⟨b, m, none⟩))) d L) : gws P pan Qn (.op tk ⟨some t, none, .idx 1 x i⟩ s) Ls ρ d L :=
  w_idx (o := 0) m ex ei hm hl (SAd.some n b 0) (by rw [Nat.zero_add, Nat.mul_one]; exact h)
end
end Go.Gk
end

section
namespace Go.Gk
open Go
def flat : List (List PHeap) → List PHeap
  | [] => []
  | [l] => l
  | l :: m :: Ls => l ++ flat (m :: Ls)
theorem flat_eq : ∀ Ls : List (List PHeap), flat Ls = Ls.flatten
  | [] => rfl
  | [l] => by simp [flat]
  | l :: m :: Ls => by simp only [flat]; rw [flat_eq (m :: Ls)]; simp
theorem Vs.picksE {d : PHeap} {L L' : List PHeap} (Ls : List (List PHeap)) (is js : List Nat) (hp : (is ++ js).isPerm (List.range Ls.length) = true) (hL : L = flat Ls) (hL' : (is.map fun i => Ls.getD i []).flatten = L') : Vs d L d L' := by
  subst hL'; rw [hL, flat_eq]; exact Vs.picks Ls is js hp
theorem GCall.borrow {P : Program} {f : FuncId} {vs : List Value} {d : PHeap} {L : List PHeap} {Q : Value → List PHeap → Prop} (h : ∀ d1, Le d d1 → (∀ k ∈ L, Le k d1) → GCall P f vs d1 [] (Ret fun r d' L' => d' = d1 ∧ Q r L')) :
    GCall P f vs d L (Ret fun r d' L' => d' = d ∧ ∃ L1, L' = L1 ++ L ∧ Q r L1) := by
  have h := h (joinL (d :: L)) (joinL_le (List.mem_cons_self ..)) (fun k hk => joinL_le (List.mem_cons_of_mem _ hk))
  refine ⟨h.1, fun F W x => ?_⟩
  have hp := x.pw
  have y : Ok (joinL (d :: L) :: ([] ++ F)) W := by
    have := (Vs.packL (d := emp) (L0 := F) (L := d :: L)).2 [] W (by simpa using x.emp)
    simpa using this.tail
  refine (h.2 F W y).mono fun e W' ⟨d', L', a, b, c, r⟩ => ?_
  cases e with
  | panicked c => exact r.elim
  | outgrown => exact r.elim
  | returned u =>
    obtain ⟨rfl, r⟩ := r
    refine ⟨d, L' ++ L, ?_, Le.refl d, c, rfl, L', rfl, r⟩
    have := (Vs.openL (d := emp) (L0 := L' ++ F) hp).2 [] W' (by simpa using a.emp)
    have z : Ok ((d :: L) ++ (L' ++ F)) W' := by simpa using this.tail
    refine z.perm ?_
    simp only [List.cons_append, List.append_assoc]
    refine List.Perm.cons d ?_
    rw [← List.append_assoc, ← List.append_assoc]
    exact List.Perm.append_right F List.perm_append_comm
section
variable {P : Program} {pan : List PanicEntry → Post} {Qn : Env → Post} {Ls L : List PHeap} {ρ : Env} {d : PHeap} {s : GS} {t : Nat} {tk : Bool}
theorem w_stE {n : Nat} {x y : Operand} {b o : Nat} {T : TypeId} {l : List Value} {v : Value} (i : Nat) (l' : List Value) (hi : L[i]? = some (bx b T l)) (ex : ev ρ x = .pointer (some ⟨b, o, none⟩)) (ey : ev ρ y = v)
    (hn : v.cells.size = n) (hl : o + n ≤ l.length) (h1 : (v.cells.toList.all (·.oneCell')) = true) (hp : patch l o v.cells.toList = l') (h : gws P pan Qn s Ls ρ d (L.set i (bx b T l'))) :
    gws P pan Qn (.op false ⟨none, none, .st n x y⟩ s) Ls ρ d L := by subst hp; exact w_st i hi ex ey hn hl h1 h
theorem w_callB {f : FuncId} {args : List Operand} {Q : Value → List PHeap → Prop} {vs : List Value} (ea : args.map (ev ρ) = vs) (hc : ∀ d1, Le d d1 → (∀ k ∈ L, Le k d1) → GCall P f vs d1 [] (Ret fun r d' L' => d' = d1 ∧ Q r L'))
    (h : ∀ r L', Q r L' → gws P pan Qn s Ls (upd ρ t r) d (L' ++ L)) : gws P pan Qn (.op false ⟨some t, none, .call f args⟩ s) Ls ρ d L := by
  refine w_calln (R := fun r d' L' => d' = d ∧ ∃ L1, L' = L1 ++ L ∧ Q r L1) L.length ea (by rw [List.take_length]; exact GCall.borrow hc) (fun r d' L' _ ⟨h1, L1, h2, h3⟩ => ?_)
  subst h1; subst h2
  rw [List.drop_length, List.append_nil]; exact h r L1 h3
theorem w_shl8 {x y : Operand} {k' : IntKind} {a : Nat} (ex : ev ρ x = .int .i64 a) (ey : ev ρ y = .int k' 8) (ha : a ≤ 1000000000000) (h : gws P pan Qn s Ls (upd ρ t (.int .i64 (a * 256 : Nat))) d L) :
    gws P pan Qn (.op tk ⟨some t, none, .bin .shl x y⟩ s) Ls ρ d L := by
  refine w_bin ?_ h
  have h1 : min (Int.toNat 8) IntKind.i64.bits = 8 := by simp [IntKind.bits]
  rw [ex, ey]
  simp only [binV, h1]
  rw [if_neg (by omega), wrap64_eq (by omega) (by omega)]
  congr 2
theorem w_or8 {x y : Operand} {a b : Nat} (ex : ev ρ x = .int .i64 (a * 256 : Nat)) (ey : ev ρ y = .int .i64 b) (ha : a ≤ 1000000000000) (hb : b < 256) (h : gws P pan Qn s Ls (upd ρ t (.int .i64 (a * 256 + b : Nat))) d L) :
    gws P pan Qn (.op tk ⟨some t, none, .bin .or x y⟩ s) Ls ρ d L := by
  refine w_bin ?_ h
  have e : (BitVec.ofInt IntKind.i64.bits ((a * 256 : Nat) : Int) ||| BitVec.ofInt IntKind.i64.bits ((b : Nat) : Int)).toNat = a * 256 + b := by
    have h1 := Nat.shiftLeft_add_eq_or_of_lt (i := 8) hb a
    rw [Nat.shiftLeft_eq] at h1
    show ((BitVec.ofInt 64 ((a * 256 : Nat) : Int) : BitVec 64) ||| (BitVec.ofInt 64 ((b : Nat) : Int) : BitVec 64)).toNat = _
    rw [BitVec.toNat_or, BitVec.ofInt_natCast, BitVec.ofInt_natCast, BitVec.toNat_ofNat, BitVec.toNat_ofNat]
    rw [Nat.mod_eq_of_lt (by omega), Nat.mod_eq_of_lt (by omega)]
    exact h1.symm
  rw [ex, ey]
  simp only [binV, e]
  rw [wrap64_eq (by omega) (by omega)]
  simp
theorem w_add8 {x y : Operand} {a b : Int} (ex : ev ρ x = .int .u8 a) (ey : ev ρ y = .int .u8 b) (h1 : 0 ≤ a + b) (h2 : a + b ≤ 255)
    (h : gws P pan Qn s Ls (upd ρ t (.int .u8 (a + b))) d L) : gws P pan Qn (.op tk ⟨some t, none, .bin .add x y⟩ s) Ls ρ d L :=
  w_bin (by
    have e : IntKind.u8.wrap (a + b) = a + b := by simp [IntKind.wrap, IntKind.signed, IntKind.bits]; omega
    rw [ex, ey]; simp [binV, e]) h
end
theorem Vs.frzSome (B : List PHeap) : ∀ (A : List PHeap) (d : PHeap), ∃ d', Vs d (A ++ B) d' B ∧ Le d d' ∧ ∀ h ∈ A, Le h d'
  | [], d => ⟨d, Vs.refl d B, Le.refl d, fun _ h => by cases h⟩
  | h :: A, d => by
    obtain ⟨d', h1, h2, h3⟩ := Vs.frzSome B A (Gk.join d h)
    refine ⟨d', Vs.freeze.trans h1, (Le.join_left d h).trans h2, fun k hk => ?_⟩
    rcases List.mem_cons.1 hk with rfl | hk
    · exact (Le.join_right d k).trans h2
    · exact h3 k hk
theorem w_drawnV {P : Program} {Q : GPost} {ρ : Env} {d : PHeap} {L : List PHeap} {s : GS} {d1 : PHeap} (Ls L1 : List PHeap) (hv : Vs d L d1 (Ls ++ L1)) (h : gws P Q.pan Q.n s Ls ρ d1 L1) : gwp P (.reg true s) Q ρ d L := ⟨d1, Ls, L1, hv, h⟩
theorem GRow.monoBs {d d' : PHeap} {v : Value} {xs : List (List UInt8)} {h : PHeap} (o : GRow 1 RBs d v xs h) (hl : Le d d') : GRow 1 RBs d' v xs h := GRow.mono (R := RBs) mono_bs o hl
theorem GRow.monoI {d d' : PHeap} {v : Value} {xs : List Int} {h : PHeap} (o : GRow 1 RInt d v xs h) (hl : Le d d') : GRow 1 RInt d' v xs h := GRow.mono (R := RInt) mono_int o hl
end Go.Gk
end

section
namespace Go.Gk
open Go
section
variable {P : Program} {pan : List PanicEntry → Post} {Qn : Env → Post} {Ls L : List PHeap} {ρ : Env} {d : PHeap} {s : GS} {t : Nat} {tk : Bool}
theorem w_eqc {neg : Bool} {offs : List (Nat × Nat)} {x y : Operand} {xs ys : Array Value} (r : Bool) (ex : ev ρ x = .agg xs) (ey : ev ρ y = .agg ys) (h : eqCs xs ys offs = some r) (k : gws P pan Qn s Ls (upd ρ t (.bool (neg ^^ r))) d L) :
    gws P pan Qn (.op tk ⟨some t, none, .eqc neg offs x y⟩ s) Ls ρ d L := w_q rfl ⟨xs, ys, r, ex, ey, h, rfl⟩ k
theorem w_ldp {x : Operand} {n b o : Nat} {T : TypeId} {l : List Value} (i : Nat) (e : ev ρ x = .pointer (some ⟨b, o, none⟩)) (hi : (lk tk Ls L)[i]? = some (bx b T l)) (hn : Nat.ble (o + n) l.length = true)
    (h : gws P pan Qn s Ls (upd ρ t (.agg ((l.drop o).take n).toArray)) d L) : gws P pan Qn (.op tk ⟨some t, none, .ld (some n) x⟩ s) Ls ρ d L := by
  have hn := Nat.le_of_ble_eq_true hn
  refine w_q rfl ⟨b, o, (l.drop o).take n, e, by simp; omega, fun j u hu => hc_i i hi ?_, rfl⟩ h
  rw [List.getElem?_take] at hu
  split at hu
  · rw [List.getElem?_drop] at hu; exact hu
  · cases hu
theorem w_lddp {x : Operand} {n b o j : Nat} {l : List Value} (e : ev ρ x = .pointer (some ⟨b, o + j, none⟩)) (hd : DCs d b o l) (hn : Nat.ble (j + n) l.length = true)
    (h : gws P pan Qn s Ls (upd ρ t (.agg ((l.drop j).take n).toArray)) d L) : gws P pan Qn (.op tk ⟨some t, none, .ld (some n) x⟩ s) Ls ρ d L := by
  have hn := Nat.le_of_ble_eq_true hn
  refine w_q rfl ⟨b, o + j, (l.drop j).take n, e, by simp; omega, fun i u hu => ?_, rfl⟩ h
  rw [List.getElem?_take] at hu
  split at hu
  · rw [List.getElem?_drop] at hu
    rw [Nat.add_assoc]; exact hc_ds hd hu
  · cases hu
theorem wrapu_eq (a : Int) : IntKind.u64.wrap a = a % 18446744073709551616 := by simp [IntKind.wrap, IntKind.signed, IntKind.bits]
theorem w_cviu {x : Operand} {j : IntKind} {a : Int} (ex : ev ρ x = .int j a) (h : gws P pan Qn s Ls (upd ρ t (.int .u64 (a % 18446744073709551616))) d L) : gws P pan Qn (.op tk ⟨some t, none, .cvi .u64 x⟩ s) Ls ρ d L :=
  w_cvi ex (by rw [wrapu_eq]; exact h)
theorem w_negu {x : Operand} {a : Int} (ex : ev ρ x = .int .u64 a) (h : gws P pan Qn s Ls (upd ρ t (.int .u64 ((0 - a) % 18446744073709551616))) d L) : gws P pan Qn (.op tk ⟨some t, none, .un .neg x⟩ s) Ls ρ d L :=
  w_q rfl (by simp only [evq, unV, ex, wrapu_eq]) h
theorem w_remT {x y : Operand} {k : IntKind} {a b : Int} (ex : ev ρ x = .int k a) (ey : ev ρ y = .int k b) (h2 : b ≠ 0) (h : gws P pan Qn s Ls (upd ρ t (.int k (a.tmod b))) d L) : gws P pan Qn (.op tk ⟨some t, none, .bin .rem x y⟩ s) Ls ρ d L :=
  w_bin (by rw [ex, ey]; simp [binV, h2]) h
theorem w_slsTo {x y : Operand} {l : List UInt8} {kk : IntKind} {j : Int} {n : Nat} (ex : ev ρ x = strV l) (ey : ev ρ y = .int kk j) (hj : j = (n : Int)) (hn : n ≤ l.length) (h : gws P pan Qn s Ls (upd ρ t (strV (l.take n))) d L) :
    gws P pan Qn (.op tk ⟨some t, none, .sls x none (some y)⟩ s) Ls ρ d L := by
  subst hj
  refine w_q rfl ⟨l, 0, n, l.length, ex, ?_, rfl⟩ (by simpa using h)
  simp only [cutV, cutM, cutH, cutL, Option.bind_some, Option.map_some, Option.map_none, ey, bnd]
  rw [if_pos (by omega)]; simp
theorem w_slsFrom {x y : Operand} {l : List UInt8} {kk : IntKind} {j : Int} {n : Nat} (ex : ev ρ x = strV l) (ey : ev ρ y = .int kk j) (hj : j = (n : Int)) (hn : n ≤ l.length) (h : gws P pan Qn s Ls (upd ρ t (strV (l.drop n))) d L) :
    gws P pan Qn (.op tk ⟨some t, none, .sls x (some y) none⟩ s) Ls ρ d L := by
  subst hj
  refine w_q rfl ⟨l, n, l.length, l.length, ex, ?_, rfl⟩ (by rw [List.take_of_length_le (by simp)]; exact h)
  simp only [cutV, cutM, cutH, cutL, Option.isSome_none, Bool.false_eq_true, if_false, Option.bind_some, Option.map_some, Option.map_none, ey, bnd]
  rw [if_pos (by omega)]; simp
theorem w_slsMid {x y z : Operand} {l : List UInt8} {kk kk' : IntKind} {j j' : Int} {n m : Nat} (ex : ev ρ x = strV l) (ey : ev ρ y = .int kk j) (ez : ev ρ z = .int kk' j') (hj : j = (n : Int)) (hj' : j' = (m : Int)) (hnm : n ≤ m) (hn : m ≤ l.length)
    (h : gws P pan Qn s Ls (upd ρ t (strV ((l.drop n).take (m - n)))) d L) : gws P pan Qn (.op tk ⟨some t, none, .sls x (some y) (some z)⟩ s) Ls ρ d L := by
  subst hj; subst hj'
  refine w_q rfl ⟨l, n, m, l.length, ex, ?_, rfl⟩ h
  simp only [cutV, cutM, cutH, cutL, Option.bind_some, Option.map_some, ey, ez, bnd]
  rw [if_pos (by omega)]
  simp only [Option.bind_some, Int.toNat_natCast]
  rw [if_pos (by omega)]; simp
theorem w_bs1 {z : Value} {x0 : Operand} {v0 : Value} (e0 : ev ρ x0 = v0) (c0 : v0.cells = #[v0]) (h : ∀ b T, gws P pan Qn s Ls (upd ρ t (.slice (some ⟨b, 0, none⟩) 1 1)) d (bx b T [v0] :: L)) :
    gws P pan Qn (.op false ⟨some t, none, .bsl 1 1 [z] [(0, x0)]⟩ s) Ls ρ d L := by
  refine w_bsl (by omega) ?_ h
  simp [Instr.fill, zrow, List.range, List.range.loop, e0, c0]
theorem w_bs2 {z : Value} {x0 x1 : Operand} {v0 v1 : Value} (e0 : ev ρ x0 = v0) (c0 : v0.cells = #[v0]) (e1 : ev ρ x1 = v1) (c1 : v1.cells = #[v1]) (h : ∀ b T, gws P pan Qn s Ls (upd ρ t (.slice (some ⟨b, 0, none⟩) 2 2)) d (bx b T [v0, v1] :: L)) :
    gws P pan Qn (.op false ⟨some t, none, .bsl 2 1 [z] [(0, x0), (1, x1)]⟩ s) Ls ρ d L := by
  refine w_bsl (by omega) ?_ h
  simp [Instr.fill, zrow, List.range, List.range.loop, e0, c0, e1, c1]
theorem w_bs3 {z : Value} {x0 x1 x2 : Operand} {v0 v1 v2 : Value} (e0 : ev ρ x0 = v0) (c0 : v0.cells = #[v0]) (e1 : ev ρ x1 = v1) (c1 : v1.cells = #[v1]) (e2 : ev ρ x2 = v2) (c2 : v2.cells = #[v2]) (h : ∀ b T, gws P pan Qn s Ls (upd ρ t (.slice (some ⟨b, 0, none⟩) 3 3)) d (bx b T [v0, v1, v2] :: L)) :
    gws P pan Qn (.op false ⟨some t, none, .bsl 3 1 [z] [(0, x0), (1, x1), (2, x2)]⟩ s) Ls ρ d L := by
  refine w_bsl (by omega) ?_ h
  simp [Instr.fill, zrow, List.range, List.range.loop, e0, c0, e1, c1, e2, c2]
theorem w_bs4 {z : Value} {x0 x1 x2 x3 : Operand} {v0 v1 v2 v3 : Value} (e0 : ev ρ x0 = v0) (c0 : v0.cells = #[v0]) (e1 : ev ρ x1 = v1) (c1 : v1.cells = #[v1]) (e2 : ev ρ x2 = v2) (c2 : v2.cells = #[v2]) (e3 : ev ρ x3 = v3) (c3 : v3.cells = #[v3]) (h : ∀ b T, gws P pan Qn s Ls (upd ρ t (.slice (some ⟨b, 0, none⟩) 4 4)) d (bx b T [v0, v1, v2, v3] :: L)) :
    gws P pan Qn (.op false ⟨some t, none, .bsl 4 1 [z] [(0, x0), (1, x1), (2, x2), (3, x3)]⟩ s) Ls ρ d L := by
  refine w_bsl (by omega) ?_ h
  simp [Instr.fill, zrow, List.range, List.range.loop, e0, c0, e1, c1, e2, c2, e3, c3]
theorem w_quoT {x y : Operand} {a b : Int} (ex : ev ρ x = .int .i64 a) (ey : ev ρ y = .int .i64 b) (h1 : -9223372036854775808 ≤ a) (h2 : a ≤ 9223372036854775807) (h3 : 2 ≤ b) (h : gws P pan Qn s Ls (upd ρ t (.int .i64 (a.tdiv b))) d L) :
    gws P pan Qn (.op tk ⟨some t, none, .bin .quo x y⟩ s) Ls ρ d L := by
  refine w_bin ?_ h
  have h4 : ¬ b = 0 := by omega
  have h5 : (a.tdiv b).natAbs ≤ a.natAbs := by rw [Int.natAbs_tdiv]; exact Nat.div_le_self _ _
  have h6 : a = -9223372036854775808 → (a.tdiv b).natAbs ≤ 9223372036854775807 := by
    intro e
    rw [Int.natAbs_tdiv, e]
    have : 2 ≤ b.natAbs := by omega
    have e2 : (-9223372036854775808 : Int).natAbs = 9223372036854775808 := by decide
    rw [e2]
    have := Nat.div_le_div_left (a := 9223372036854775808) this (by omega)
    exact Nat.le_trans this (by decide)
  rw [ex, ey]; simp [binV, h4]; exact wrap64_eq (by omega) (by omega)
theorem w_eqc2 {neg : Bool} {x y : Operand} {k k' : IntKind} {a b a' b' : Int} (ex : ev ρ x = .agg [.int k a, .int k' b].toArray) (ey : ev ρ y = .agg [.int k a', .int k' b'].toArray) (h : gws P pan Qn s Ls (upd ρ t (.bool (neg ^^ (decide (a = a') && decide (b = b'))))) d L) :
    gws P pan Qn (.op tk ⟨some t, none, .eqc neg [(0, 0), (0, 1)] x y⟩ s) Ls ρ d L :=
  w_eqc (decide (a = a') && decide (b = b')) ex ey (by
    simp only [eqCs, eq1]
    by_cases h1 : a = a'
    · by_cases h2 : b = b' <;> simp [h1, h2]
    · simp [h1]) h
theorem w_idxa {x i : Operand} {len sz b o : Nat} {k : IntKind} {j : Int} (m : Nat) (ex : ev ρ x = .pointer (some ⟨b, o, none⟩)) (ei : ev ρ i = .int k j) (hm : j = (m : Int)) (hl : m < len) (h : gws P pan Qn s Ls (upd ρ t (.pointer (some ⟨b, o + m * sz, none⟩))) d L) :
    gws P pan Qn (.op tk ⟨some t, none, .idxa len sz x i⟩ s) Ls ρ d L := by
  subst hm
  exact w_q rfl ⟨b, o, k, m, ex, ei, by omega, by omega, rfl⟩ h
theorem w_s2r {x : Operand} {l : List UInt8} (ex : ev ρ x = strV l) (hl : (runesL l).length ≤ 140737488355328)
    (h : ∀ b T c, (runesL l).length ≤ c → c ≤ maxLen → gws P pan Qn s Ls (upd ρ t (.slice (some ⟨b, 0, none⟩) (runesL l).length c)) d (bx b T (runesL l ++ List.replicate (c - (runesL l).length) (.int .i32 0)) :: L)) :
    gws P pan Qn (.op false ⟨some t, none, .s2r x⟩ s) Ls ρ d L := ⟨d, L, Vs.refl d L, l, ex, hl, fun b T c h1 h2 => ⟨_, _, Vs.refl _ _, h b T c h1 h2⟩⟩
def RRune (_ : PHeap) (cs : List Value) (x : Int) : Prop := cs = [.int .i32 x]
theorem w_r2s {x : Operand} {v : Value} {rs : List Int} (ex : ev ρ x = v) (hr : RSl 1 RRune d v rs) (h : gws P pan Qn s Ls (upd ρ t (strV (rs.flatMap encL))) d L) : gws P pan Qn (.op tk ⟨some t, none, .r2s x⟩ s) Ls ρ d L := by
  obtain ⟨a, c, b, o, rfl, h2, h3, h4, h5, h6, h7, h8⟩ := hr
  refine w_q rfl ⟨a, rs, c, ex, fun e => ?_, fun a' ha i r hi => ?_, rfl⟩ h
  · cases rs with
    | nil => rfl
    | cons u us => have := h2 (by simp); rw [e] at this; cases this
  · obtain ⟨hlt, rfl⟩ := List.getElem?_eq_some_iff.1 hi
    have e := h2 (by omega)
    rw [ha] at e; cases e
    obtain ⟨cs, k1, k2, k3⟩ := h8 i hlt
    have k3 : cs = [.int .i32 rs[i]] := k3
    subst k3
    rw [Nat.mul_one] at k2
    rw [Addr.add_lit]
    exact hc_d k2.one
end
theorem GCall.forget {P : Program} {f : FuncId} {args : List Value} {d : PHeap} {L : List PHeap} {Q : Value → List PHeap → Prop} (h : GCall P f args d L (Ret fun r _ L' => Q r L')) : GCall P f args d L (Ret fun r d' L' => d' = d ∧ Q r L') :=
  ⟨h.1, fun F W x => (h.2 F W x).mono fun e W' ⟨d', L', a, b, c, r⟩ => ⟨d, L', a.le b, Le.refl d, c, by
    cases e with
    | returned v => exact ⟨rfl, r⟩
    | panicked c => exact r.elim
    | outgrown => exact r.elim⟩⟩
theorem GPure.of {P : Program} {f : FuncId} {args : List Value} {d : PHeap} {v : Value} (h : GCall P f args d [] (Ret fun r _ L' => r = v ∧ L' = [])) : GPure P f args d v :=
  (GCall.forget (Q := fun r L' => r = v ∧ L' = []) h).mono fun e d' L' _ r => by
    cases e with
    | returned v => exact ⟨r.2.1, r.1, r.2.2⟩
    | panicked c => exact r.elim
    | outgrown => exact r.elim
theorem GPure.of' {pr : Bool} {P : Program} {f : FuncId} {g : GFun} (hd : decG pr P f = some g) {args : List Value} (ha : args.length ≤ g.n) {d : PHeap} {v : Value} (h : gwp P g.code (mkPost g.res (Ret fun r _ L' => r = v ∧ L' = [])) (env0 args) d []) : GPure P f args d v := GPure.of (GCall_of hd ha h)
section
variable {ρ : Env} {d : PHeap} {L : List PHeap} {t u : Nat}
theorem finQ {v : Value} (e : ρ t = v) : retPost [.tmp t] (Ret fun r _ L' => r = v ∧ L' = []) ρ d L := fin1n e ⟨rfl, rfl⟩
theorem finQb {a b : Bool} (e : ρ t = .bool a) (h : a = b) : retPost [.tmp t] (Ret fun r _ L' => r = .bool b ∧ L' = []) ρ d L := fin1n e ⟨by rw [h], rfl⟩
theorem finQi {k : IntKind} {a b : Int} (e : ρ t = .int k a) (h : a = b) : retPost [.tmp t] (Ret fun r _ L' => r = .int k b ∧ L' = []) ρ d L := fin1n e ⟨by rw [h], rfl⟩
theorem finQ2 {v w : Value} (e : ρ t = v) (e' : ρ u = w) : retPost [.tmp t, .tmp u] (Ret fun r _ L' => r = .tuple #[v, w] ∧ L' = []) ρ d L := fin2n e e' ⟨rfl, rfl⟩
end
end Go.Gk
end

section
namespace Go.Gk
open Go Go.Proofs Go.RowKit
theorem GPure.of_below {P : Program} {f : FuncId} {args : List Value} {d : PHeap} {v : Value} (hc : Callable P f)
    (h : ∀ W, Sub d W → Calls P f args.toArray W fun e W' => e = .returned v ∧ Below W.heap.size W W') : GPure P f args d v :=
  ⟨hc, fun F W x => (h W x.head).mono fun e W' ⟨he, hb⟩ =>
    ⟨d, [], ⟨x.1, fun k hk b o e => by rw [hb.block b (Sub.lt (x.2 k hk) e)]; exact x.2 k hk b o e⟩, Le.refl d, ⟨hb.os, hb.tape, hb.output, hb.size⟩, by subst he; exact ⟨rfl, rfl, rfl⟩⟩⟩
theorem cell_of {d : PHeap} {W : World} {b o : Nat} {v : Value} (hs : Sub d W) (h : DC d b o v) : W.cell? ⟨b, o, none⟩ = some v := by
  obtain ⟨c, T, fr, h1, h2⟩ := h
  have := hs _ _ h1
  simp [World.cell?, this, h2]
def UtfT (g3 g4 : Nat) (d : PHeap) : Prop := (∀ c, c < 256 → DC d g3 c (.int .u8 (Lib.firstT c))) ∧ ∀ i, i < 16 → DC d g4 (2 * i) (.int .u8 (Lib.accLo i)) ∧ DC d g4 (2 * i + 1) (.int .u8 (Lib.accHi i))
theorem UtfT.mono {g3 g4 : Nat} {d d' : PHeap} (h : UtfT g3 g4 d) (hl : Le d d') : UtfT g3 g4 d' := ⟨fun c hc => (h.1 c hc).mono hl, fun i hi => ⟨(h.2 i hi).1.mono hl, (h.2 i hi).2.mono hl⟩⟩
theorem UtfT.tabs {g3 g4 : Nat} {d : PHeap} {W : World} (h : UtfT g3 g4 d) (hs : Sub d W) : Lib.Utf8Tabs g3 g4 W := ⟨fun c hc => cell_of hs (h.1 c hc), fun i hi => ⟨cell_of hs (h.2 i hi).1, cell_of hs (h.2 i hi).2⟩⟩
end Go.Gk
end

section
namespace Go.Gk
open Go Go.Proofs Go.RowKit Go.Lib Go.Shelf
theorem DC.of_cell {W : World} {b o : Nat} {v : Value} (h : W.cell? ⟨b, o, none⟩ = some v) : DC (hw W) b o v := (hw_cell h).2
theorem utfT_of {P : Program} {ρ : Ren} (L : Lays.n196 P ρ) (X : U8Extra P ρ) {W : World} (h3 : VarReads P W "unicode/utf8.first" firstData) (h4 : VarReads P W "unicode/utf8.acceptRanges" acceptData) : UtfT (ρ.g 3) (ρ.g 4) (hw W) := by
  have h := utf8Tabs_of_readsT (U8Types.of196 L) X h3 h4
  exact ⟨fun c hc => DC.of_cell (h.1 c hc), fun i hi => ⟨DC.of_cell (h.2 i hi).1, DC.of_cell (h.2 i hi).2⟩⟩
theorem tab_of {P : Program} {W : World} {n : String} {k : IntKind} {zs : List Int} {g : Nat} {t e : TypeId} {m : Nat} (hg : P.globalNamed n = some g) (hty : (P.globals[g]?).map (·.type) = some t) (ht : P.underlying t = some (.array m e))
    (he : P.underlying e = some (.int k)) (hce : P.cellsOf e = 1) (hct : P.cellsOf t = m) (h : VarReads P W n (tabData k zs)) : DCs (hw W) g 0 (zs.map fun z => Value.int k z) := by
  obtain ⟨g', t', cs, fuel, p, hg', hty', hvar, hd⟩ := h
  obtain rfl := Option.some.inj (hg.symm.trans hg')
  obtain rfl := Option.some.inj (hty.symm.trans hty')
  have hcs := cells_of_tab ht he hce hct hd
  simp only [World.var?, hg, Option.bind_some] at hvar
  split at hvar
  · rename_i c T fr hb
    cases hvar
    refine ⟨cs, T, fr, hb, fun i u hu => ?_⟩
    rw [Nat.zero_add, ← Array.getElem?_toList, hcs]
    exact hu
  · cases hvar
theorem GPure.yes {P : Program} {f : FuncId} {args : List Value} {d : PHeap} {v : Value} (h : GPure P f args d v) : GCall P f args d [] (Ret fun r _ _ => r = v) :=
  h.mono fun e d' L' _ hr => by cases e <;> first | exact hr.1 | exact hr
set_option maxRecDepth 100000
theorem first_eq : Go.Pinned.utf8First = firstData := by kernel_rfl
end Go.Gk
end

section
namespace Go.Gk.Val
open Go Go.Gk

inductive V where
  | mk (kind m e : Int) (text : List UInt8) (list : List V) (keys : List (List UInt8))
namespace V
abbrev kind : V → Int | mk k _ _ _ _ _ => k
abbrev m : V → Int | mk _ m _ _ _ _ => m
abbrev e : V → Int | mk _ _ e _ _ _ => e
abbrev text : V → List UInt8 | mk _ _ _ t _ _ => t
abbrev list : V → List V | mk _ _ _ _ l _ => l
abbrev keys : V → List (List UInt8) | mk _ _ _ _ _ ks => ks
def zero : V := mk 0 0 0 [] [] []
theorem eta (v : V) : V.mk v.kind v.m v.e v.text v.list v.keys = v := by cases v; rfl
theorem ext {a b : V} (h1 : a.kind = b.kind) (h2 : a.m = b.m) (h3 : a.e = b.e) (h4 : a.text = b.text) (h5 : a.list = b.list) (h6 : a.keys = b.keys) : a = b := by
  cases a; cases b; simp_all [kind, m, e, text, list, keys]
theorem size_list {v x : V} (h : x ∈ v.list) : SizeOf.sizeOf x < SizeOf.sizeOf v := by
  cases v with
  | mk k m e t l ks =>
    have := List.sizeOf_lt_of_mem (show x ∈ l from h)
    simp only [mk.sizeOf_spec]; omega
theorem ind {p : V → Prop} (h : ∀ v, (∀ x ∈ v.list, p x) → p v) (v : V) : p v := by
  have : ∀ (n : Nat) (v : V), SizeOf.sizeOf v ≤ n → p v := by
    intro n
    induction n with
    | zero => intro v hv; cases v with | mk => simp only [mk.sizeOf_spec] at hv; omega
    | succ n ih => exact fun v hv => h v (fun x hx => ih x (by have := size_list hx; omega))
  exact this _ v (Nat.le_refl _)
end V

def I64 (x : Int) : Prop := -9223372036854775808 ≤ x ∧ x ≤ 9223372036854775807

inductive RVal (d : PHeap) : List Value → V → Prop
  | mk {k m e : Int} {t : List UInt8} {l : List V} {ks : List (List UInt8)} {kv : Value} {a : Option Addr} {c b o : Nat} (css : Nat → List Value) (hk : I64 k) (hm : I64 m) (he : I64 e) (ht : t.length ≤ 140737488355328) (hks : RStrs d kv ks)
      (h1 : SAd a l.length b o) (h2 : c ≠ 0 → ∀ a', a = some a' → a'.spot = none) (h3 : a = none → c = 0) (h4 : l.length ≤ c) (h5 : c ≤ 9223372036854775807) (h6 : l.length ≤ 140737488355328)
      (h7 : ∀ i, i < l.length → (css i).length = 6) (h8 : ∀ i, i < l.length → DCs d b (o + i * 6) (css i)) (h9 : ∀ i (h : i < l.length), RVal d (css i) l[i]) :
      RVal d [.int .i64 k, .int .i64 m, .int .i64 e, strV t, .slice a l.length c, kv] (.mk k m e t l ks)
def RVals (d : PHeap) (v : Value) (l : List V) : Prop := RSl 6 RVal d v l

theorem RVal.open {d : PHeap} {cs : List Value} {v : V} (h : RVal d cs v) : ∃ lv kv, cs = [.int .i64 v.kind, .int .i64 v.m, .int .i64 v.e, strV v.text, lv, kv] ∧ I64 v.kind ∧ I64 v.m ∧ I64 v.e ∧ v.text.length ≤ 140737488355328 ∧ RVals d lv v.list ∧ RStrs d kv v.keys := by
  cases h with
  | mk css hk hm he ht hks h1 h2 h3 h4 h5 h6 h7 h8 h9 =>
    exact ⟨_, _, rfl, hk, hm, he, ht, ⟨_, _, _, _, rfl, h1, h2, h3, h4, h5, h6, fun i hi => ⟨css i, h7 i hi, h8 i hi, h9 i hi⟩⟩, hks⟩
theorem RVal.close {d : PHeap} {v : V} {lv kv : Value} (hk : I64 v.kind) (hm : I64 v.m) (he : I64 v.e) (ht : v.text.length ≤ 140737488355328) (hl : RVals d lv v.list) (hks : RStrs d kv v.keys) :
    RVal d [.int .i64 v.kind, .int .i64 v.m, .int .i64 v.e, strV v.text, lv, kv] v := by
  obtain ⟨k, m, e, t, l, ks⟩ := v
  obtain ⟨a, c, b, o, rfl, h1, h2, h3, h4, h5, h6, h7⟩ : RSl 6 RVal d lv l := hl
  exact RVal.mk (fun i => if h : i < l.length then (h7 i h).choose else []) hk hm he ht hks h1 h2 h3 h4 h5 h6 (fun i hi => by rw [dif_pos hi]; exact (h7 i hi).choose_spec.1) (fun i hi => by rw [dif_pos hi]; exact (h7 i hi).choose_spec.2.1)
    (fun i hi => by rw [dif_pos hi]; exact (h7 i hi).choose_spec.2.2)
theorem RVal.zero {d : PHeap} : RVal d [.int .i64 0, .int .i64 0, .int .i64 0, strV [], .slice none 0 0, .slice none 0 0] V.zero :=
  RVal.close (v := V.zero) ⟨by decide, by decide⟩ ⟨by decide, by decide⟩ ⟨by decide, by decide⟩ (by simp [V.zero, V.text]) RSl.nil RSl.nil
theorem RVal.mono {d d' : PHeap} (hl : Le d d') {cs : List Value} {v : V} (h : RVal d cs v) : RVal d' cs v := by
  induction h with
  | mk css hk hm he ht hks h1 h2 h3 h4 h5 h6 h7 h8 h9 ih => exact RVal.mk css hk hm he ht (RStrs.mono hks hl) h1 h2 h3 h4 h5 h6 h7 (fun i hi => (h8 i hi).mono hl) ih
theorem mono_val : Mono RVal := fun hl h => RVal.mono hl h
theorem RVals.mono {d d' : PHeap} {v : Value} {l : List V} (h : RVals d v l) (hl : Le d d') : RVals d' v l := RSl.mono (R := RVal) (fun hl h => RVal.mono hl h) h hl
theorem cell1_val : Cell1 RVal := fun d cs x h => by
  obtain ⟨lv, kv, rfl, _, _, _, _, h1, h2⟩ := h.open
  obtain ⟨_, _, rfl⟩ := RSl.val h1
  obtain ⟨_, _, rfl⟩ := RSl.val h2
  rfl
theorem RVal.len {d : PHeap} {cs : List Value} {v : V} (h : RVal d cs v) : cs.length = 6 := by obtain ⟨_, _, rfl, _⟩ := h.open; rfl

inductive OVal : List Value → V → PHeap → Prop
  | mk {k m e : Int} {t : List UInt8} {l : List V} {ks : List (List UInt8)} {lv kv : Value} {hk hl : PHeap} {ccs : List Value} {hs : List PHeap} (ik : I64 k) (im : I64 m) (ie : I64 e) (ht : t.length ≤ 140737488355328)
      (gk : GRow 1 RStr emp kv ks hk) (gl : ORow 6 lv l.length ccs hl) (hsl : hs.length = l.length) (el : ∀ i (h : i < l.length), OVal (chunk ccs i 6) l[i] (hs.getD i emp)) (dj : (hk :: hl :: hs).Pairwise Disj) :
      OVal [.int .i64 k, .int .i64 m, .int .i64 e, strV t, lv, kv] (.mk k m e t l ks) (joinL (hk :: hl :: hs))
theorem OVal.open {cs : List Value} {v : V} {h : PHeap} (o : OVal cs v h) : ∃ lv kv hk hl ccs hs, cs = [.int .i64 v.kind, .int .i64 v.m, .int .i64 v.e, strV v.text, lv, kv] ∧ I64 v.kind ∧ I64 v.m ∧ I64 v.e ∧ v.text.length ≤ 140737488355328 ∧
    GRow 1 RStr emp kv v.keys hk ∧ ORow 6 lv v.list.length ccs hl ∧ hs.length = v.list.length ∧ (∀ i (h : i < v.list.length), OVal (chunk ccs i 6) v.list[i] (hs.getD i emp)) ∧ (hk :: hl :: hs).Pairwise Disj ∧ h = joinL (hk :: hl :: hs) := by
  cases o with
  | mk ik im ie ht gk gl hsl el dj => exact ⟨_, _, _, _, _, _, rfl, ik, im, ie, ht, gk, gl, hsl, el, dj, rfl⟩
theorem mono_str' {d d' : PHeap} {cs : List Value} {x : List UInt8} (h : RStr d cs x) : RStr d' cs x := h
theorem GRow.strs {d d' : PHeap} {v : Value} {xs : List (List UInt8)} {h : PHeap} (o : GRow 1 RStr d v xs h) (hl : Le h d') : RStrs d' v xs := by
  obtain ⟨cs, h1, h2⟩ := o
  exact h1.rsl hl rfl (by omega) (fun i hi => h2 i hi)
theorem OVal.rval {d : PHeap} {cs : List Value} {v : V} {h : PHeap} (o : OVal cs v h) (hl : Le h d) : RVal d cs v := by
  induction o with
  | @mk k m e t l ks lv kv hk hll ccs hs ik im ie ht gk gl hsl el dj ih =>
    refine RVal.close (v := .mk k m e t l ks) ik im ie ht ?_ (GRow.strs gk ((joinL_le (List.mem_cons_self ..)).trans hl))
    refine gl.rsl ((joinL_le (List.mem_cons_of_mem _ (List.mem_cons_self ..))).trans hl) rfl (by omega) (fun i hi => ih i hi ?_)
    have hi' : i < hs.length := by have : i < l.length := hi; omega
    have e : hs.getD i emp = hs[i] := by simp [hi']
    rw [e]
    exact (joinL_le (List.mem_cons_of_mem _ (List.mem_cons_of_mem _ (List.getElem_mem hi')))).trans hl
theorem OVal.zero : OVal [.int .i64 0, .int .i64 0, .int .i64 0, strV [], .slice none 0 0, .slice none 0 0] V.zero (joinL [emp, emp]) :=
  OVal.mk (l := []) (hs := []) (ccs := []) ⟨by decide, by decide⟩ ⟨by decide, by decide⟩ ⟨by decide, by decide⟩ (by simp) GRow.nil (ORow.nil 6) rfl (fun i h => absurd h (Nat.not_lt_zero i)) (by simp; exact fun _ _ _ h => h.elim)
end Go.Gk.Val
end

section
namespace Go.Gk.Utf
open Go Go.Lib

def charN (n : Int) : List Nat :=
  if n < 0 ∨ n > 1114111 ∨ (55296 ≤ n ∧ n ≤ 57343) then [] else
  if n < 128 then [n.toNat] else
  if n < 2048 then [(192 + n / 64).toNat, (128 + n % 64).toNat] else
  if n < 65536 then [(224 + n / 4096).toNat, (128 + n / 64 % 64).toNat, (128 + n % 64).toNat] else
  [(240 + n / 262144).toNat, (128 + n / 4096 % 64).toNat, (128 + n / 64 % 64).toNat, (128 + n % 64).toNat]
def charF (n : Int) : List UInt8 := (charN n).map UInt8.ofNat
theorem charN_lt (n : Int) : ∀ x ∈ charN n, x < 256 := by
  intro x hx
  unfold charN at hx
  split at hx
  · simp at hx
  · split at hx
    · simp at hx; omega
    · split at hx
      · simp at hx; omega
      · split at hx
        · simp at hx; omega
        · simp at hx; omega
theorem ofNat_toNat {x : Nat} (h : x < 256) : (UInt8.ofNat x).toNat = x := by simp; omega
theorem charF_eq (n : Int) (l : List UInt8) : charF n = l ↔ charN n = l.map UInt8.toNat := by
  constructor
  · intro h
    rw [← h, charF, List.map_map]
    conv => lhs; rw [← List.map_id (charN n)]
    exact List.map_congr_left (fun x hx => (ofNat_toNat (charN_lt n x hx)).symm)
  · intro h
    rw [charF, h, List.map_map]
    conv => rhs; rw [← List.map_id l]
    exact List.map_congr_left (fun x _ => by simp)
theorem ch1 (b0 : Nat) (h0 : b0 < 256) : charN (b0 : Int) = [b0] ↔ b0 < 128 := by
  unfold charN
  rw [if_neg (by omega)]
  split
  · simp; omega
  · rw [if_pos (by omega)]; simp; omega
theorem ch2 (b0 b1 : Nat) (h0 : b0 < 256) (h1 : b1 < 256) : charN (((b0 : Int) - 192) * 64 + b1 - 128) = [b0, b1] ↔ 194 ≤ b0 ∧ b0 < 224 ∧ 128 ≤ b1 ∧ b1 < 192 := by
  unfold charN
  generalize hc : ((b0 : Int) - 192) * 64 + b1 - 128 = c
  split
  · constructor
    · intro h; cases h
    · intro h; omega
  · split
    · constructor
      · intro h; cases h
      · intro h; omega
    · split
      · simp only [List.cons.injEq, and_true]; omega
      · split
        · constructor
          · intro h; cases h
          · intro h; omega
        · constructor
          · intro h; cases h
          · intro h; omega
theorem ch3 (b0 b1 b2 : Nat) (h0 : b0 < 256) (h1 : b1 < 256) (h2 : b2 < 256) : charN ((((b0 : Int) - 224) * 64 + b1 - 128) * 64 + b2 - 128) = [b0, b1, b2] ↔
    224 ≤ b0 ∧ b0 < 240 ∧ 128 ≤ b1 ∧ b1 < 192 ∧ 128 ≤ b2 ∧ b2 < 192 ∧ 2048 ≤ (b0 - 224) * 4096 + (b1 - 128) * 64 + (b2 - 128) ∧ ¬ (55296 ≤ (b0 - 224) * 4096 + (b1 - 128) * 64 + (b2 - 128) ∧ (b0 - 224) * 4096 + (b1 - 128) * 64 + (b2 - 128) ≤ 57343) := by
  unfold charN
  generalize hc : (((b0 : Int) - 224) * 64 + b1 - 128) * 64 + b2 - 128 = c
  split
  · constructor
    · intro h; cases h
    · intro h; omega
  · split
    · constructor
      · intro h; cases h
      · intro h; omega
    · split
      · constructor
        · intro h; cases h
        · intro h; omega
      · split
        · simp only [List.cons.injEq, and_true]; omega
        · constructor
          · intro h; cases h
          · intro h; omega
theorem ch4 (b0 b1 b2 b3 : Nat) (h0 : b0 < 256) (h1 : b1 < 256) (h2 : b2 < 256) (h3 : b3 < 256) : charN (((((b0 : Int) - 240) * 64 + b1 - 128) * 64 + b2 - 128) * 64 + b3 - 128) = [b0, b1, b2, b3] ↔
    240 ≤ b0 ∧ b0 < 248 ∧ 128 ≤ b1 ∧ b1 < 192 ∧ 128 ≤ b2 ∧ b2 < 192 ∧ 128 ≤ b3 ∧ b3 < 192 ∧ 65536 ≤ (b0 - 240) * 262144 + (b1 - 128) * 4096 + (b2 - 128) * 64 + (b3 - 128) ∧ (b0 - 240) * 262144 + (b1 - 128) * 4096 + (b2 - 128) * 64 + (b3 - 128) ≤ 1114111 := by
  unfold charN
  generalize hc : ((((b0 : Int) - 240) * 64 + b1 - 128) * 64 + b2 - 128) * 64 + b3 - 128 = c
  split
  · constructor
    · intro h; cases h
    · intro h; omega
  · split
    · constructor
      · intro h; cases h
      · intro h; omega
    · split
      · constructor
        · intro h; cases h
        · intro h; omega
      · split
        · constructor
          · intro h; cases h
          · intro h; omega
        · simp only [List.cons.injEq, and_true]; omega

theorem charF_0 {n : Int} (h : n < 0 ∨ n > 1114111 ∨ (55296 ≤ n ∧ n ≤ 57343)) : charF n = [] := by rw [charF, charN, if_pos h]; rfl
theorem m256 {x : Int} (h0 : 0 ≤ x) (h1 : x < 256) : (x % 256).toNat = x.toNat := by omega
theorem charF_1 {n : Int} (h0 : 0 ≤ n) (h1 : n < 128) : charF n = [UInt8.ofNat (n % 256).toNat] := by
  rw [charF, charN, if_neg (by omega), if_pos (by omega), m256 h0 (by omega)]; rfl
theorem charF_2 {n : Int} (h0 : 128 ≤ n) (h1 : n < 2048) : charF n = [UInt8.ofNat ((192 + n / 64) % 256).toNat, UInt8.ofNat ((128 + n % 64) % 256).toNat] := by
  rw [charF, charN, if_neg (by omega), if_neg (by omega), if_pos (by omega), m256 (by omega) (by omega), m256 (by omega) (by omega)]; rfl
theorem charF_3 {n : Int} (h0 : 2048 ≤ n) (h1 : n < 65536) (h2 : ¬ (55296 ≤ n ∧ n ≤ 57343)) : charF n = [UInt8.ofNat ((224 + n / 4096) % 256).toNat, UInt8.ofNat ((128 + n / 64 % 64) % 256).toNat, UInt8.ofNat ((128 + n % 64) % 256).toNat] := by
  rw [charF, charN, if_neg (by omega), if_neg (by omega), if_neg (by omega), if_pos (by omega), m256 (by omega) (by omega), m256 (by omega) (by omega), m256 (by omega) (by omega)]; rfl
theorem charF_4 {n : Int} (h0 : 65536 ≤ n) (h1 : n ≤ 1114111) : charF n = [UInt8.ofNat ((240 + n / 262144) % 256).toNat, UInt8.ofNat ((128 + n / 4096 % 64) % 256).toNat, UInt8.ofNat ((128 + n / 64 % 64) % 256).toNat, UInt8.ofNat ((128 + n % 64) % 256).toNat] := by
  rw [charF, charN, if_neg (by omega), if_neg (by omega), if_neg (by omega), if_neg (by omega), m256 (by omega) (by omega), m256 (by omega) (by omega), m256 (by omega) (by omega), m256 (by omega) (by omega)]; rfl
def bt (l : List UInt8) (i : Nat) : Int := (l.getD i 0).toNat
def hd : Nat → Int | 2 => 192 | 3 => 224 | 4 => 240 | _ => 0
def numF (l : List UInt8) (n : Nat) : Nat → Int
  | 0 => 0
  | 1 => bt l 0 - hd n
  | i + 2 => numF l n (i + 1) * 64 + bt l (i + 1) - 128
def firstGo (l : List UInt8) : Nat → Nat → Int × Int
  | 0, _ => (0, 0)
  | f + 1, n => if n ≤ 4 ∧ n ≤ l.length then (if charF (numF l n n) = l.take n then (numF l n n, (n : Int)) else firstGo l f (n + 1)) else (0, 0)
def firstF (l : List UInt8) : Int × Int := firstGo l 4 1
theorem take_eq (l : List UInt8) : ∀ n, n ≤ l.length → (l.take n).map UInt8.toNat = (List.range n).map fun i => (l.getD i 0).toNat := by
  intro n hn
  apply List.ext_getElem
  · simp; omega
  · intro i h1 h2
    simp only [List.length_map, List.length_take] at h1
    simp [show i < l.length by omega]
theorem first_eq {l : List UInt8} (hl : l ≠ []) : firstF l = if decodeL l = (65533, 1) then (0, 0) else (((decodeL l).1 : Int), ((decodeL l).2 : Int)) := by
  have hn : 1 ≤ l.length := List.length_pos_iff.2 hl
  have t1 := fun h => take_eq l 1 h
  have t2 := fun h => take_eq l 2 h
  have t3 := fun h => take_eq l 3 h
  have t4 := fun h => take_eq l 4 h
  have e1 : (List.range 1).map (fun i => (l.getD i 0).toNat) = [(l.getD 0 0).toNat] := rfl
  have e2 : (List.range 2).map (fun i => (l.getD i 0).toNat) = [(l.getD 0 0).toNat, (l.getD 1 0).toNat] := rfl
  have e3 : (List.range 3).map (fun i => (l.getD i 0).toNat) = [(l.getD 0 0).toNat, (l.getD 1 0).toNat, (l.getD 2 0).toNat] := rfl
  have e4 : (List.range 4).map (fun i => (l.getD i 0).toNat) = [(l.getD 0 0).toNat, (l.getD 1 0).toNat, (l.getD 2 0).toNat, (l.getD 3 0).toNat] := rfl
  have h0 := (l.getD 0 0).toNat_lt
  have h1 := (l.getD 1 0).toNat_lt
  have h2 := (l.getD 2 0).toNat_lt
  have h3 := (l.getD 3 0).toNat_lt
  have n1 : numF l 1 1 = ((l.getD 0 0).toNat : Int) := by simp [numF, bt, hd]
  have n2 : numF l 2 2 = (((l.getD 0 0).toNat : Int) - 192) * 64 + (l.getD 1 0).toNat - 128 := rfl
  have n3 : numF l 3 3 = ((((l.getD 0 0).toNat : Int) - 224) * 64 + (l.getD 1 0).toNat - 128) * 64 + (l.getD 2 0).toNat - 128 := rfl
  have n4 : numF l 4 4 = (((((l.getD 0 0).toNat : Int) - 240) * 64 + (l.getD 1 0).toNat - 128) * 64 + (l.getD 2 0).toNat - 128) * 64 + (l.getD 3 0).toNat - 128 := rfl
  have c1 := ch1 _ h0
  have c2 := ch2 _ _ h0 h1
  have c3 := ch3 _ _ _ h0 h1 h2
  have c4 := ch4 _ _ _ _ h0 h1 h2 h3
  rw [decodeL_N]
  simp only [firstF, firstGo, charF_eq]
  generalize (l.getD 0 0).toNat = b0 at *
  generalize (l.getD 1 0).toNat = b1 at *
  generalize (l.getD 2 0).toNat = b2 at *
  generalize (l.getD 3 0).toNat = b3 at *
  generalize hN : l.length = N at *
  simp only [n1, n2, n3, n4]
  rw [if_pos (by omega), t1 hn, e1]
  by_cases p1 : b0 < 128
  · rw [if_pos (c1.2 p1)]
    simp only [decodeN, if_pos p1]
    rw [if_neg (by simp; omega)]
  rw [if_neg (fun h => p1 (c1.1 h))]
  by_cases l2 : 2 ≤ N
  · rw [if_pos (by omega), t2 l2, e2]
    by_cases p2 : 194 ≤ b0 ∧ b0 < 224 ∧ 128 ≤ b1 ∧ b1 < 192
    · rw [if_pos (c2.2 p2)]
      have : decodeN N b0 b1 b2 b3 = (b0 % 32 * 64 + b1 % 64, 2) := by
        simp only [decodeN]
        rw [if_neg p1, if_pos (by omega), if_pos (by omega)]
      rw [this, if_neg (by simp)]
      refine Prod.ext ?_ rfl
      simp only [Int.natCast_add, Int.natCast_mul]; omega
    rw [if_neg (fun h => p2 (c2.1 h))]
    by_cases l3 : 3 ≤ N
    · rw [if_pos (by omega), t3 l3, e3]
      by_cases p3 : 224 ≤ b0 ∧ b0 < 240 ∧ 128 ≤ b1 ∧ b1 < 192 ∧ 128 ≤ b2 ∧ b2 < 192 ∧ 2048 ≤ (b0 - 224) * 4096 + (b1 - 128) * 64 + (b2 - 128) ∧ ¬ (55296 ≤ (b0 - 224) * 4096 + (b1 - 128) * 64 + (b2 - 128) ∧ (b0 - 224) * 4096 + (b1 - 128) * 64 + (b2 - 128) ≤ 57343)
      · rw [if_pos (c3.2 p3)]
        have : decodeN N b0 b1 b2 b3 = (b0 % 16 * 4096 + b1 % 64 * 64 + b2 % 64, 3) := by
          simp only [decodeN]
          rw [if_neg p1, if_neg (by omega), if_pos (by omega), if_pos (by omega)]
        rw [this, if_neg (by simp)]
        refine Prod.ext ?_ rfl
        simp only [Int.natCast_add, Int.natCast_mul]; omega
      rw [if_neg (fun h => p3 (c3.1 h))]
      by_cases l4 : 4 ≤ N
      · rw [if_pos (by omega), t4 l4, e4]
        by_cases p4 : 240 ≤ b0 ∧ b0 < 248 ∧ 128 ≤ b1 ∧ b1 < 192 ∧ 128 ≤ b2 ∧ b2 < 192 ∧ 128 ≤ b3 ∧ b3 < 192 ∧ 65536 ≤ (b0 - 240) * 262144 + (b1 - 128) * 4096 + (b2 - 128) * 64 + (b3 - 128) ∧ (b0 - 240) * 262144 + (b1 - 128) * 4096 + (b2 - 128) * 64 + (b3 - 128) ≤ 1114111
        · rw [if_pos (c4.2 p4)]
          have : decodeN N b0 b1 b2 b3 = (b0 % 8 * 262144 + b1 % 64 * 4096 + b2 % 64 * 64 + b3 % 64, 4) := by
            simp only [decodeN]
            rw [if_neg p1, if_neg (by omega), if_neg (by omega), if_pos (by omega), if_pos (by omega)]
          rw [this, if_neg (by simp)]
          refine Prod.ext ?_ rfl
          simp only [Int.natCast_add, Int.natCast_mul]; omega
        rw [if_neg (fun h => p4 (c4.1 h)), if_pos]
        simp only [decodeN]
        rw [if_neg p1]
        repeat' split
        all_goals first | rfl | (exfalso; omega)
      · rw [if_neg (by omega), if_pos]
        simp only [decodeN]
        rw [if_neg p1]
        repeat' split
        all_goals first | rfl | (exfalso; omega)
    · rw [if_neg (by omega), if_pos]
      simp only [decodeN]
      rw [if_neg p1]
      repeat' split
      all_goals first | rfl | (exfalso; omega)
  · rw [if_neg (by omega), if_pos]
    simp only [decodeN]
    rw [if_neg p1]
    repeat' split
    all_goals first | rfl | (exfalso; omega)
theorem bt_le (l : List UInt8) (i : Nat) : 0 ≤ bt l i ∧ bt l i ≤ 255 := by
  have := (l.getD i 0).toNat_lt
  simp only [bt]; omega
theorem numF_le (l : List UInt8) {n i : Nat} (h : i ≤ 4) : -100000000 ≤ numF l n i ∧ numF l n i ≤ 100000000 := by
  have b0 := bt_le l 0
  have b1 := bt_le l (0 + 1)
  have b2 := bt_le l (1 + 1)
  have b3 := bt_le l (2 + 1)
  have hh : 0 ≤ hd n ∧ hd n ≤ 240 := by
    unfold hd; split <;> omega
  match i, h with
  | 0, _ => simp [numF]
  | 1, _ => simp only [numF]; omega
  | 2, _ => simp only [numF]; omega
  | 3, _ => simp only [numF]; omega
  | 4, _ => simp only [numF]; omega
theorem firstGo_le (l : List UInt8) : ∀ f n, 0 ≤ (firstGo l f n).2 ∧ (firstGo l f n).2 ≤ l.length
  | 0, n => by simp [firstGo]
  | f + 1, n => by
    simp only [firstGo]
    split
    · split
      · simp only; omega
      · exact firstGo_le l f (n + 1)
    · simp
theorem u8_step {l : List UInt8} (hl : l ≠ []) : validD l = if (firstF l).2 = 0 then false else validD (l.drop (firstF l).2.toNat) := by
  rw [validD_step l hl, first_eq hl]
  have hw := decodeL_width l
  by_cases h : decodeL l = (65533, 1)
  · rw [if_pos h, if_pos rfl, h]; simp
  · rw [if_neg h]
    have h2 : ¬ ((decodeL l).1 = 65533 ∧ (decodeL l).2 = 1) := fun ⟨a, b⟩ => h (Prod.ext a b)
    rw [if_neg h2, if_neg (by simp only; omega)]
    simp
end Go.Gk.Utf
end

section
namespace Go.Gk.Val
open Go Go.Gk
attribute [local irreducible] gwp gws

mutual
def depthV : V → Nat
  | .mk _ _ _ _ l _ => depths l + 1
def depths : List V → Nat
  | [] => 0
  | x :: l => max (depthV x) (depths l)
end
theorem depths_le {n : Nat} : ∀ {l : List V}, depths l ≤ n ↔ ∀ x ∈ l, depthV x ≤ n
  | [] => by simp [depths]
  | x :: l => by
    simp only [depths, List.mem_cons, forall_eq_or_imp]
    rw [← depths_le (l := l)]; omega
theorem depth_le {v : V} {n : Nat} : depthV v ≤ n + 1 ↔ ∀ x ∈ v.list, depthV x ≤ n := by
  obtain ⟨k, m, e, t, l, ks⟩ := v
  simp only [depthV, V.list]
  rw [← depths_le]; omega
theorem depth_pos (v : V) : 1 ≤ depthV v := by obtain ⟨k, m, e, t, l, ks⟩ := v; simp only [depthV]; omega
def u8 (l : List UInt8) : Bool := Lib.validD l
def numRight (m e : Int) : Bool := if m = 0 then decide (e = 0) else decide (-1000000000000000000 < m ∧ m < 1000000000000000000 ∧ m % 10 ≠ 0 ∧ -64 ≤ e ∧ e ≤ 64)
def rise1 (ks : List (List UInt8)) (i : Nat) : Bool := u8 (ks.getD i []) && (i == 0 || Op.bytesLess (ks.getD (i - 1) []) (ks.getD i []))
def riseN (ks : List (List UInt8)) : Nat → Bool
  | 0 => true
  | k + 1 => riseN ks k && rise1 ks k
def rising (ks : List (List UInt8)) : Bool := riseN ks ks.length
theorem riseN_false {ks : List (List UInt8)} {k : Nat} (h : rise1 ks k = false) : ∀ {m : Nat}, k < m → riseN ks m = false := by
  intro m hm
  induction hm with
  | refl => simp [riseN, h]
  | step _ ih => simp [riseN, ih]
def bareB (v : V) : Bool := decide (0 ≤ v.kind ∧ v.kind ≤ 6) && (decide (v.kind = 3) || decide (v.m = 0 ∧ v.e = 0)) && (decide (v.kind = 4) || decide (v.text = [])) && (decide (5 ≤ v.kind) || decide (v.list = [])) && (decide (v.kind = 6) || decide (v.keys = []))
def oneB (v : V) : Bool := bareB v && numRight v.m v.e && u8 v.text && rising v.keys && (decide (v.kind ≠ 6) || decide (v.keys.length = v.list.length))
mutual
def mayV : V → Bool
  | .mk k m e t l ks => oneB (.mk k m e t l ks) && mays l
def mays : List V → Bool
  | [] => true
  | x :: l => mayV x && mays l
end
theorem mays_all : ∀ l : List V, mays l = l.all mayV
  | [] => rfl
  | x :: l => by simp [mays, mays_all l]
theorem mayV_eq (v : V) : mayV v = (oneB v && v.list.all mayV) := by obtain ⟨k, m, e, t, l, ks⟩ := v; simp [mayV, mays_all, V.list]
def rightV (v : V) : Int := if depthV v ≤ 48 then (if mayV v then 0 else 30) else 31

def EveryOk (P : Program) (f : FuncId) : Prop := ∀ {d : PHeap} {v : Value} {l : List V} {g : FuncId} {cap : List Value} {p : V → Bool}, RVals d v l → (∀ x ∈ l, ∀ cs, RVal d cs x → GPure P g (.agg cs.toArray :: cap) d (.bool (p x))) →
  GPure P f [v, .func (.func g) #[] cap.toArray] d (.bool (l.all p))
def g_value_every_api_Value : GFun :=
 ⟨18, [(.tmp 4)],
 (.seq
 (.reg false (.op false ⟨(some 4), none, (.mv (.const (.bool false)))⟩ .done))
 (.seq (.seq
 (.reg false (.op false ⟨(some 7), none, (.mv (.tmp 0))⟩
  (.op false ⟨(some 8), none, (.len (.tmp 7))⟩
  (.op false ⟨(some 9), none, (.mv (.const (.int .i64 0)))⟩ .done)))) (.block 0 (.loop
 (.seq
 (.reg false (.op false ⟨(some 10), none, (.bin .lss (.tmp 9) (.tmp 8))⟩ .done))
 (.seq (.cond (.tmp 10) .skip (.exit 0))
 (.seq (.block 1
 (.seq
 (.reg false (.op false ⟨(some 11), none, (.idx 6 (.tmp 7) (.tmp 9))⟩
  (.op false ⟨(some 12), none, (.ld (some 6) (.tmp 11))⟩
  (.op false ⟨(some 6), none, (.alo (.agg #[(.int .i64 0), (.int .i64 0), (.int .i64 0), (strV []), (.slice none 0 0), (.slice none 0 0)]))⟩
  (.op false ⟨none, none, (.st 6 (.tmp 6) (.tmp 12))⟩ .done)))))
 (.seq
 (.reg false (.op false ⟨(some 13), none, (.mv (.tmp 1))⟩
  (.op false ⟨(some 14), none, (.ld (some 6) (.tmp 6))⟩
  (.op false ⟨(some 15), none, (.callv (.tmp 13) [(.tmp 14)])⟩
  (.op false ⟨(some 16), none, (.un .not (.tmp 15))⟩ .done))))) (.cond (.tmp 16)
 (.seq
 (.reg false (.op false ⟨(some 4), none, (.mv (.const (.bool false)))⟩ .done)) .ret) .skip))))
 (.reg false (.op false ⟨(some 17), none, (.bin .add (.tmp 9) (.const (.int .i64 1)))⟩
  (.op false ⟨(some 9), none, (.mv (.tmp 17))⟩ .done)))))))))
 (.seq
 (.reg false (.op false ⟨(some 4), none, (.mv (.const (.bool true)))⟩ .done)) .ret)))⟩

theorem every_ok {P : Program} {f : FuncId} (hd : dec P f = some g_value_every_api_Value) : EveryOk P f := by
  intro d v l g cap p hv hg
  have hll := RSl.len_le hv
  obtain ⟨a, c, rfl⟩ := RSl.val hv
  refine GCall_of hd (Nat.le_of_ble_eq_true rfl) ?_
  show gwp P _ _ _ _ _
  (apply w_sq; apply w_reg; apply w_mvb; rfl; apply w_done0; apply w_sq; apply w_sq; apply w_reg; apply w_mvs; rfl; apply w_len; rfl; apply w_mvi; rfl; apply w_done0; apply w_block)
  refine w_loopS (α := Nat) (fun i => [(1, .func (.func g) #[] cap.toArray), (7, .slice a l.length c), (8, .int .i64 l.length), (9, .int .i64 i)])
    (fun i d' L' => d' = d ∧ i ≤ l.length ∧ (l.take i).all p = true) (fun i => l.length - i) 0 ⟨rfl, rfl, rfl, rfl, trivial⟩ ⟨rfl, Nat.zero_le _, by simp⟩ ?_
  rintro i ρ d' L' ⟨hdd, hi, hp⟩
  subst hdd
  have hv' : RSl 6 RVal d' (.slice a l.length c) l := hv
  (apply w_sq; apply w_reg; apply w_lss; rfl; rfl; apply w_done0; apply w_sq)
  first | refine w_ifd rfl (fun hc => ?_) (fun hc => ?_) | refine w_if rfl (fun hc => ?_) (fun hc => ?_)
  · have hi1 : i < l.length := by omega
    (apply w_skip; apply w_sq; apply w_block; apply w_sq; apply w_reg; refine w_idxR (sz := 6) (R := RVal) (by rfl) (by assumption) (by rfl) rfl (by omega) ?_; rintro _ _ _ _ _ _; apply w_ldd; rfl; assumption; assumption; apply w_alo; intro _ _)
    rename_i cs hcs hD hR b6 T6
    obtain ⟨c0, c1, c2, c3, c4, c5, rfl⟩ : ∃ c0 c1 c2 c3 c4 c5, cs = [c0, c1, c2, c3, c4, c5] := by
      match cs, hcs with
      | [a, b, c, d, e, f], _ => exact ⟨a, b, c, d, e, f, rfl⟩
    have h1c := cell1_val _ _ _ hR
    refine w_stE 0 [c0, c1, c2, c3, c4, c5] rfl rfl rfl rfl (Nat.le_of_ble_eq_true rfl) h1c rfl ?_
    (apply w_done0; apply w_sq; apply w_reg; apply w_mvf; rfl; apply w_ldb 0; rfl; rfl; rfl)
    refine w_purev (vs := .agg [c0, c1, c2, c3, c4, c5].toArray :: cap) rfl (by simp; rfl) (hg _ (List.getElem_mem hi1) _ hR) ?_
    cases hpx : p l[i] with
    | false =>
      (apply w_not; rfl; apply w_done0; apply w_ifT; rfl; apply w_sq; apply w_reg; apply w_mvb; rfl; apply w_done0; apply w_ret)
      apply finPb; rfl
      rw [eq_comm, ← Bool.not_eq_true, List.all_eq_true]
      intro h; rw [h _ (List.getElem_mem hi1)] at hpx; cases hpx
    | true =>
      (apply w_not; rfl; apply w_done0; apply w_ifF; rfl; apply w_skip; apply w_reg; apply w_add; rfl; rfl; omega; omega; apply w_mvi; rfl; apply w_done0)
      exact ⟨i + 1, by omega, ⟨rfl, rfl, rfl, int_eq (by omega), trivial⟩, rfl, hi1, by rw [List.take_succ_eq_append_getElem hi1, List.all_append, hp]; simp [hpx]⟩
  · obtain rfl : i = l.length := by omega
    rw [List.take_length] at hp
    (apply w_exit; apply w_sq; apply w_reg; apply w_mvb; rfl; apply w_done0; apply w_ret)
    apply finPb; rfl
    exact hp.symm

def ShallowOk (P : Program) (f : FuncId) : Prop := ∀ (v : V) {d : PHeap} {cs : List Value} {k : Nat}, RVal d cs v → k ≤ 1000000 → GPure P f [.agg cs.toArray, .int .i64 k] d (.bool (decide (depthV v ≤ k)))
def g_value_shallow_1 (f_value_shallow : Nat) : GFun :=
 ⟨8, [(.tmp 3)],
 (.seq
 (.reg false (.op false ⟨(some 2), none, (.box (.tmp 0))⟩
  (.op false ⟨(some 3), none, (.mv (.const (.bool false)))⟩ .done)))
 (.seq
 (.reg false (.op false ⟨(some 4), none, (.ld (some 6) (.tmp 2))⟩
  (.op false ⟨(some 5), none, (.ld none (.tmp 1))⟩
  (.op false ⟨(some 6), none, (.bin .sub (.tmp 5) (.const (.int .i64 1)))⟩
  (.op false ⟨(some 7), none, (.call f_value_shallow [(.tmp 4), (.tmp 6)])⟩
  (.op false ⟨(some 3), none, (.mv (.tmp 7))⟩ .done)))))) .ret))⟩

def g_value_shallow (f_value_shallow_1 f_value_every_api_Value : Nat) : GFun :=
 ⟨13, [(.tmp 4)],
 (.seq
 (.reg false (.op false ⟨(some 2), none, (.box (.tmp 0))⟩
  (.op false ⟨(some 3), none, (.box (.tmp 1))⟩
  (.op false ⟨(some 4), none, (.mv (.const (.bool false)))⟩ .done))))
 (.seq
 (.reg false (.op false ⟨(some 5), none, (.ld none (.tmp 3))⟩
  (.op false ⟨(some 6), none, (.bin .gtr (.tmp 5) (.const (.int .i64 0)))⟩
  (.op false ⟨(some 7), none, (.mv (.tmp 6))⟩
  (.op false ⟨(some 8), (some (7, true)), (.fld 4 (.tmp 2))⟩
  (.op false ⟨(some 9), (some (7, true)), (.ld none (.tmp 8))⟩
  (.op false ⟨(some 10), (some (7, true)), (.mkf (.func f_value_shallow_1) [] [(.tmp 3)])⟩
  (.op false ⟨(some 11), (some (7, true)), (.call f_value_every_api_Value [(.tmp 9), (.tmp 10)])⟩
  (.op false ⟨(some 12), none, (.pick (.tmp 7) (.tmp 11) (.const (.bool false)))⟩
  (.op false ⟨(some 4), none, (.mv (.tmp 12))⟩ .done)))))))))) .ret))⟩

theorem shallow_ok {P : Program} {f f1 f2 : FuncId} (hd : dec P f = some (g_value_shallow f1 f2)) (h1 : dec P f1 = some (g_value_shallow_1 f)) (h2 : EveryOk P f2) : ShallowOk P f := by
  intro v
  induction v using V.ind with
  | h v ih =>
  intro d cs k hv hk
  refine GPure.of' hd (Nat.le_of_ble_eq_true rfl) ?_
  obtain ⟨lv, kv, rfl, ik, im, ie, it, hl, hks⟩ := hv.open
  show gwp P _ _ _ _ _
  apply w_sq; apply w_reg
  refine w_boxa (l := [.int .i64 v.kind, .int .i64 v.m, .int .i64 v.e, strV v.text, lv, kv]) rfl (fun b2 T2 => ?_)
  refine w_box (v := .int .i64 k) rfl (fun b3 T3 => ?_)
  refine w_frz (fun d3 hl3 hg3 => ?_)
  have hc3 : DCs d3 b3 0 [.int .i64 k] := dcs_bx hg3
  by_cases hk0 : k = 0
  · subst hk0
    (apply w_mvb; rfl; apply w_done0; apply w_sq; apply w_reg; apply w_ld; rfl; exact hc_ds0 (by assumption) rfl; apply w_gtr; rfl; rfl; apply w_mvb; rfl; refine w_gdF rfl (by omega) ?_; apply w_gF; rfl; apply w_gF; rfl; apply w_gF; rfl; apply w_gF; rfl; apply w_pickFb; rfl; rfl; apply w_mvb; rfl; apply w_done0; apply w_ret)
    apply finQb; rfl
    have := depth_pos v
    simp; omega
  · obtain ⟨k, rfl⟩ : ∃ j, k = j + 1 := ⟨k - 1, by omega⟩
    (apply w_mvb; rfl; apply w_done0; apply w_sq; apply w_reg; apply w_ld; rfl; exact hc_ds0 (by assumption) rfl; apply w_gtr; rfl; rfl; apply w_mvb; rfl; refine w_gdT rfl (by omega) ?_; apply w_gT; rfl; apply w_fld; rfl; apply w_gT; rfl; apply w_ld; rfl; exact hc_i 0 rfl rfl; apply w_gT; rfl; apply w_mkf; apply w_gT; rfl)
    refine w_pure rfl (h2 (g := f1) (cap := [.pointer (some ⟨b3, 0, none⟩)]) (p := fun x => decide (depthV x ≤ k)) (RVals.mono hl hl3) (fun x hx cs hcs => ?_)) ?_
    · refine GPure.of' h1 (Nat.le_of_ble_eq_true rfl) ?_
      obtain ⟨lv, kv, rfl, _⟩ := hcs.open
      show gwp P _ _ _ _ _
      apply w_sq; apply w_reg
      refine w_boxa (l := [.int .i64 x.kind, .int .i64 x.m, .int .i64 x.e, strV x.text, lv, kv]) rfl (fun b5 T5 => ?_)
      (apply w_mvb; rfl; apply w_done0; apply w_sq; apply w_reg; apply w_ldb 0; rfl; rfl; rfl; apply w_ld; rfl; exact hc_ds0 (by assumption) rfl; apply w_sub; rfl; rfl; omega; omega)
      have e : ((k + 1 : Nat) : Int) - 1 = (k : Int) := by omega
      rw [e]
      refine w_pure rfl (ih x hx hcs (by omega)) ?_
      (apply w_mvb; rfl; apply w_done0; apply w_ret)
      exact finQ rfl
    · (apply w_pickTb; rfl; rfl; apply w_mvb; rfl; apply w_done0; apply w_ret)
      apply finQb; rfl
      rw [Bool.eq_iff_iff]
      simp only [List.all_eq_true, decide_eq_true_eq]
      exact depth_le.symm

theorem bare_k {k m e : Int} {t : List UInt8} {l : List V} {ks : List (List UInt8)} (h : k < 0 ∨ 6 < k) : bareB (.mk k m e t l ks) = false := by
  simp only [bareB, V.kind]; rw [decide_eq_false (show ¬ (0 ≤ k ∧ k ≤ 6) by omega)]; rfl
theorem bare_n {k m e : Int} {t : List UInt8} {l : List V} {ks : List (List UInt8)} (h : k ≠ 3) (h' : ¬ (m = 0 ∧ e = 0)) : bareB (.mk k m e t l ks) = false := by
  simp only [bareB, V.kind, V.m, V.e]; rw [decide_eq_false h, decide_eq_false h']; simp
theorem bare_t {k m e : Int} {t : List UInt8} {l : List V} {ks : List (List UInt8)} (h : k ≠ 4) (h' : t ≠ []) : bareB (.mk k m e t l ks) = false := by
  simp only [bareB, V.kind, V.text]; rw [decide_eq_false h, decide_eq_false h']; simp
theorem bare_l {k m e : Int} {t : List UInt8} {l : List V} {ks : List (List UInt8)} (h : k < 5) (h' : 0 < l.length) : bareB (.mk k m e t l ks) = false := by
  have h2 : ¬ l = [] := by intro h; subst h; simp at h'
  simp only [bareB, V.kind, V.list]; rw [decide_eq_false (show ¬ 5 ≤ k by omega), decide_eq_false h2]; simp
theorem bare_ks {k m e : Int} {t : List UInt8} {l : List V} {ks : List (List UInt8)} (h : k ≠ 6) (h' : 0 < ks.length) : bareB (.mk k m e t l ks) = false := by
  have h2 : ¬ ks = [] := by intro h; subst h; simp at h'
  simp only [bareB, V.kind, V.keys]; rw [decide_eq_false h, decide_eq_false h2]; simp
def BareOk (P : Program) (f : FuncId) : Prop := ∀ {d : PHeap} {cs : List Value} {v : V}, RVal d cs v → GPure P f [.agg cs.toArray] d (.bool (bareB v))
def g_value_bare : GFun :=
 ⟨49, [(.tmp 2)],
 (.seq
 (.reg false (.op false ⟨(some 1), none, (.box (.tmp 0))⟩
  (.op false ⟨(some 2), none, (.mv (.const (.bool false)))⟩ .done)))
 (.seq (.block 0
 (.seq
 (.reg false (.op false ⟨(some 4), none, (.fld 0 (.tmp 1))⟩
  (.op false ⟨(some 5), none, (.ld none (.tmp 4))⟩
  (.op false ⟨(some 6), none, (.bin .lss (.tmp 5) (.const (.int .i64 0)))⟩
  (.op false ⟨(some 7), none, (.mv (.tmp 6))⟩
  (.op false ⟨(some 8), (some (7, false)), (.fld 0 (.tmp 1))⟩
  (.op false ⟨(some 9), (some (7, false)), (.ld none (.tmp 8))⟩
  (.op false ⟨(some 10), (some (7, false)), (.bin .gtr (.tmp 9) (.const (.int .i64 6)))⟩
  (.op false ⟨(some 11), none, (.pick (.tmp 7) (.const (.bool true)) (.tmp 10))⟩
  (.op false ⟨(some 3), none, (.mv (.tmp 11))⟩ .done)))))))))) (.cond (.tmp 3)
 (.seq
 (.reg false (.op false ⟨(some 2), none, (.mv (.const (.bool false)))⟩ .done)) .ret)
 (.seq (.seq
 (.reg false (.op false ⟨(some 13), none, (.fld 0 (.tmp 1))⟩
  (.op false ⟨(some 14), none, (.ld none (.tmp 13))⟩
  (.op false ⟨(some 15), none, (.bin .neq (.tmp 14) (.const (.int .i64 3)))⟩
  (.op false ⟨(some 16), none, (.mv (.tmp 15))⟩
  (.op false ⟨(some 17), (some (16, true)), (.fld 1 (.tmp 1))⟩
  (.op false ⟨(some 18), (some (16, true)), (.ld (some 2) (.tmp 17))⟩
  (.op false ⟨(some 19), (some (16, true)), (.bld [(0, 1), (1, 1)] [(.int .i64 0), (.int .i64 0)] [])⟩
  (.op false ⟨(some 20), (some (16, true)), (.eqc true [(0, 0), (0, 1)] (.tmp 18) (.tmp 19))⟩
  (.op false ⟨(some 21), none, (.pick (.tmp 16) (.tmp 20) (.const (.bool false)))⟩
  (.op false ⟨(some 12), none, (.mv (.tmp 21))⟩ .done))))))))))) (.cond (.tmp 12) .skip
 (.reg false (.op false ⟨(some 22), none, (.fld 0 (.tmp 1))⟩
  (.op false ⟨(some 23), none, (.ld none (.tmp 22))⟩
  (.op false ⟨(some 24), none, (.bin .neq (.tmp 23) (.const (.int .i64 4)))⟩
  (.op false ⟨(some 25), none, (.mv (.tmp 24))⟩
  (.op false ⟨(some 26), (some (25, true)), (.fld 3 (.tmp 1))⟩
  (.op false ⟨(some 27), (some (25, true)), (.ld none (.tmp 26))⟩
  (.op false ⟨(some 28), (some (25, true)), (.bin .neq (.tmp 27) (.const (strV [])))⟩
  (.op false ⟨(some 29), none, (.pick (.tmp 25) (.tmp 28) (.const (.bool false)))⟩
  (.op false ⟨(some 12), none, (.mv (.tmp 29))⟩ .done)))))))))))) (.cond (.tmp 12)
 (.seq
 (.reg false (.op false ⟨(some 2), none, (.mv (.const (.bool false)))⟩ .done)) .ret)
 (.seq (.seq
 (.reg false (.op false ⟨(some 31), none, (.fld 0 (.tmp 1))⟩
  (.op false ⟨(some 32), none, (.ld none (.tmp 31))⟩
  (.op false ⟨(some 33), none, (.bin .lss (.tmp 32) (.const (.int .i64 5)))⟩
  (.op false ⟨(some 34), none, (.mv (.tmp 33))⟩
  (.op false ⟨(some 35), (some (34, true)), (.fld 4 (.tmp 1))⟩
  (.op false ⟨(some 36), (some (34, true)), (.ld none (.tmp 35))⟩
  (.op false ⟨(some 37), (some (34, true)), (.len (.tmp 36))⟩
  (.op false ⟨(some 38), (some (34, true)), (.bin .gtr (.tmp 37) (.const (.int .i64 0)))⟩
  (.op false ⟨(some 39), none, (.pick (.tmp 34) (.tmp 38) (.const (.bool false)))⟩
  (.op false ⟨(some 30), none, (.mv (.tmp 39))⟩ .done))))))))))) (.cond (.tmp 30) .skip
 (.reg false (.op false ⟨(some 40), none, (.fld 0 (.tmp 1))⟩
  (.op false ⟨(some 41), none, (.ld none (.tmp 40))⟩
  (.op false ⟨(some 42), none, (.bin .neq (.tmp 41) (.const (.int .i64 6)))⟩
  (.op false ⟨(some 43), none, (.mv (.tmp 42))⟩
  (.op false ⟨(some 44), (some (43, true)), (.fld 5 (.tmp 1))⟩
  (.op false ⟨(some 45), (some (43, true)), (.ld none (.tmp 44))⟩
  (.op false ⟨(some 46), (some (43, true)), (.len (.tmp 45))⟩
  (.op false ⟨(some 47), (some (43, true)), (.bin .gtr (.tmp 46) (.const (.int .i64 0)))⟩
  (.op false ⟨(some 48), none, (.pick (.tmp 43) (.tmp 47) (.const (.bool false)))⟩
  (.op false ⟨(some 30), none, (.mv (.tmp 48))⟩ .done))))))))))))) (.cond (.tmp 30)
 (.seq
 (.reg false (.op false ⟨(some 2), none, (.mv (.const (.bool false)))⟩ .done)) .ret) .skip)))))))
 (.seq
 (.reg false (.op false ⟨(some 2), none, (.mv (.const (.bool true)))⟩ .done)) .ret)))⟩

theorem bare_ok {P : Program} {f : FuncId} (hd : dec P f = some g_value_bare) : BareOk P f := by
  intro d cs v hv
  refine GPure.of' hd (Nat.le_of_ble_eq_true rfl) ?_
  obtain ⟨lv, kv, rfl, ik, im, ie, it, hl, hks⟩ := hv.open
  obtain ⟨la, lc, rfl⟩ := RSl.val hl
  obtain ⟨ka, kc, rfl⟩ := RSl.val hks
  obtain ⟨k, m, e, t, l, ks⟩ := v
  simp only [V.kind, V.m, V.e, V.text, V.list, V.keys] at *
  show gwp P _ _ _ _ _
  by_cases h1 : k < 0
  · (apply w_sq; apply w_reg; apply w_boxa; rfl; intro _ _; apply w_mvb; rfl; apply w_done0; apply w_sq; apply w_block; apply w_sq; apply w_reg; apply w_fld; rfl; apply w_ld; rfl; exact hc_i 0 rfl rfl; apply w_lss; rfl; rfl; apply w_mvb; rfl; refine w_gdT rfl (by omega) ?_; apply w_gF; rfl; apply w_gF; rfl; apply w_gF; rfl; apply w_pickTb; rfl; rfl; apply w_mvb; rfl; apply w_done0; apply w_ifT; rfl; apply w_sq; apply w_reg; apply w_mvb; rfl; apply w_done0; apply w_ret)
    apply finQb; rfl
    exact (bare_k (by omega)).symm
  by_cases h2 : k > 6
  · (apply w_sq; apply w_reg; apply w_boxa; rfl; intro _ _; apply w_mvb; rfl; apply w_done0; apply w_sq; apply w_block; apply w_sq; apply w_reg; apply w_fld; rfl; apply w_ld; rfl; exact hc_i 0 rfl rfl; apply w_lss; rfl; rfl; apply w_mvb; rfl; refine w_gdF rfl (by omega) ?_; apply w_gT; rfl; apply w_fld; rfl; apply w_gT; rfl; apply w_ld; rfl; exact hc_i 0 rfl rfl; apply w_gT; rfl; apply w_gtr; rfl; rfl; apply w_pickFb; rfl; rfl; apply w_mvb; rfl; apply w_done0; refine w_ifdT rfl (by omega) ?_; apply w_sq; apply w_reg; apply w_mvb; rfl; apply w_done0; apply w_ret)
    apply finQb; rfl
    exact (bare_k (by omega)).symm
  by_cases h3 : k ≠ 3 ∧ (true ^^ (decide (m = 0) && decide (e = 0))) = true
  · obtain ⟨h3, h4⟩ := h3
    have h5 : ¬ (m = 0 ∧ e = 0) := by intro ⟨h, h'⟩; simp [h, h'] at h4
    (apply w_sq; apply w_reg; apply w_boxa; rfl; intro _ _; apply w_mvb; rfl; apply w_done0; apply w_sq; apply w_block; apply w_sq; apply w_reg; apply w_fld; rfl; apply w_ld; rfl; exact hc_i 0 rfl rfl; apply w_lss; rfl; rfl; apply w_mvb; rfl; refine w_gdF rfl (by omega) ?_; apply w_gT; rfl; apply w_fld; rfl; apply w_gT; rfl; apply w_ld; rfl; exact hc_i 0 rfl rfl; apply w_gT; rfl; apply w_gtr; rfl; rfl; apply w_pickFb; rfl; rfl; apply w_mvb; rfl; apply w_done0; refine w_ifdF rfl (by omega) ?_; apply w_sq; apply w_sq; apply w_reg; apply w_fld; rfl; apply w_ld; rfl; exact hc_i 0 rfl rfl; apply w_neq; rfl; rfl; apply w_mvb; rfl; refine w_gdT rfl (by omega) ?_; apply w_gT; rfl; apply w_fld; rfl; apply w_gT; rfl; apply w_ldp 0; rfl; rfl; rfl; apply w_gT; rfl; apply w_bld; rfl; apply w_gT; rfl; apply w_eqc2; rfl; rfl; apply w_pickTb; rfl; rfl; apply w_mvb; rfl; apply w_done0; apply w_ifbT; rfl; (with_reducible assumption); apply w_skip; apply w_ifbT; rfl; (with_reducible assumption); apply w_sq; apply w_reg; apply w_mvb; rfl; apply w_done0; apply w_ret)
    apply finQb; rfl
    exact (bare_n h3 h5).symm
  have h3' : k = 3 ∨ (m = 0 ∧ e = 0) := by
    by_cases hk : k = 3
    · exact .inl hk
    · refine .inr ?_
      have : ¬ (true ^^ (decide (m = 0) && decide (e = 0))) = true := fun h => h3 ⟨hk, h⟩
      simpa using this
  by_cases hk3 : k = 3
  · have hfin : k = 3 → t = [] → l = [] → ks = [] → true = bareB (.mk k m e t l ks) := by
      intro h1 h2 h3 h4; rw [h1, h2, h3, h4]; simp [bareB, V.kind, V.m, V.e, V.text, V.list, V.keys]
    by_cases h6 : t ≠ []
    · (apply w_sq; apply w_reg; apply w_boxa; rfl; intro _ _; apply w_mvb; rfl; apply w_done0; apply w_sq; apply w_block; apply w_sq; apply w_reg; apply w_fld; rfl; apply w_ld; rfl; exact hc_i 0 rfl rfl; apply w_lss; rfl; rfl; apply w_mvb; rfl; refine w_gdF rfl (by omega) ?_; apply w_gT; rfl; apply w_fld; rfl; apply w_gT; rfl; apply w_ld; rfl; exact hc_i 0 rfl rfl; apply w_gT; rfl; apply w_gtr; rfl; rfl; apply w_pickFb; rfl; rfl; apply w_mvb; rfl; apply w_done0; refine w_ifdF rfl (by omega) ?_; apply w_sq; apply w_sq; apply w_reg; apply w_fld; rfl; apply w_ld; rfl; exact hc_i 0 rfl rfl; apply w_neq; rfl; rfl; apply w_mvb; rfl; refine w_gdF rfl (by omega) ?_; apply w_gF; rfl; apply w_gF; rfl; apply w_gF; rfl; apply w_gF; rfl; apply w_pickFb; rfl; rfl; apply w_mvb; rfl; apply w_done0; apply w_ifF; rfl; apply w_reg; apply w_fld; rfl; apply w_ld; rfl; exact hc_i 0 rfl rfl; apply w_neq; rfl; rfl; apply w_mvb; rfl; refine w_gdT rfl (by omega) ?_; apply w_gT; rfl; apply w_fld; rfl; apply w_gT; rfl; apply w_ld; rfl; exact hc_i 0 rfl rfl; apply w_gT; rfl; apply w_sne; rfl; rfl; apply w_pickTb; rfl; rfl; apply w_mvb; rfl; apply w_done0; refine w_ifdT rfl (by omega) ?_; apply w_sq; apply w_reg; apply w_mvb; rfl; apply w_done0; apply w_ret)
      apply finQb; rfl
      exact (bare_t (by omega) h6).symm
    have h6' : t = [] := by simpa using h6
    by_cases h7 : 0 < l.length
    · (apply w_sq; apply w_reg; apply w_boxa; rfl; intro _ _; apply w_mvb; rfl; apply w_done0; apply w_sq; apply w_block; apply w_sq; apply w_reg; apply w_fld; rfl; apply w_ld; rfl; exact hc_i 0 rfl rfl; apply w_lss; rfl; rfl; apply w_mvb; rfl; refine w_gdF rfl (by omega) ?_; apply w_gT; rfl; apply w_fld; rfl; apply w_gT; rfl; apply w_ld; rfl; exact hc_i 0 rfl rfl; apply w_gT; rfl; apply w_gtr; rfl; rfl; apply w_pickFb; rfl; rfl; apply w_mvb; rfl; apply w_done0; refine w_ifdF rfl (by omega) ?_; apply w_sq; apply w_sq; apply w_reg; apply w_fld; rfl; apply w_ld; rfl; exact hc_i 0 rfl rfl; apply w_neq; rfl; rfl; apply w_mvb; rfl; refine w_gdF rfl (by omega) ?_; apply w_gF; rfl; apply w_gF; rfl; apply w_gF; rfl; apply w_gF; rfl; apply w_pickFb; rfl; rfl; apply w_mvb; rfl; apply w_done0; apply w_ifF; rfl; apply w_reg; apply w_fld; rfl; apply w_ld; rfl; exact hc_i 0 rfl rfl; apply w_neq; rfl; rfl; apply w_mvb; rfl; refine w_gdT rfl (by omega) ?_; apply w_gT; rfl; apply w_fld; rfl; apply w_gT; rfl; apply w_ld; rfl; exact hc_i 0 rfl rfl; apply w_gT; rfl; apply w_sne; rfl; rfl; apply w_pickTb; rfl; rfl; apply w_mvb; rfl; apply w_done0; refine w_ifdF rfl (by omega) ?_; apply w_sq; apply w_sq; apply w_reg; apply w_fld; rfl; apply w_ld; rfl; exact hc_i 0 rfl rfl; apply w_lss; rfl; rfl; apply w_mvb; rfl; refine w_gdT rfl (by omega) ?_; apply w_gT; rfl; apply w_fld; rfl; apply w_gT; rfl; apply w_ld; rfl; exact hc_i 0 rfl rfl; apply w_gT; rfl; apply w_len; rfl; apply w_gT; rfl; apply w_gtr; rfl; rfl; apply w_pickTb; rfl; rfl; apply w_mvb; rfl; apply w_done0; refine w_ifdT rfl (by omega) ?_; apply w_skip; refine w_ifdT rfl (by omega) ?_; apply w_sq; apply w_reg; apply w_mvb; rfl; apply w_done0; apply w_ret)
      apply finQb; rfl
      exact (bare_l (by omega) h7).symm
    by_cases h8 : 0 < ks.length
    · (apply w_sq; apply w_reg; apply w_boxa; rfl; intro _ _; apply w_mvb; rfl; apply w_done0; apply w_sq; apply w_block; apply w_sq; apply w_reg; apply w_fld; rfl; apply w_ld; rfl; exact hc_i 0 rfl rfl; apply w_lss; rfl; rfl; apply w_mvb; rfl; refine w_gdF rfl (by omega) ?_; apply w_gT; rfl; apply w_fld; rfl; apply w_gT; rfl; apply w_ld; rfl; exact hc_i 0 rfl rfl; apply w_gT; rfl; apply w_gtr; rfl; rfl; apply w_pickFb; rfl; rfl; apply w_mvb; rfl; apply w_done0; refine w_ifdF rfl (by omega) ?_; apply w_sq; apply w_sq; apply w_reg; apply w_fld; rfl; apply w_ld; rfl; exact hc_i 0 rfl rfl; apply w_neq; rfl; rfl; apply w_mvb; rfl; refine w_gdF rfl (by omega) ?_; apply w_gF; rfl; apply w_gF; rfl; apply w_gF; rfl; apply w_gF; rfl; apply w_pickFb; rfl; rfl; apply w_mvb; rfl; apply w_done0; apply w_ifF; rfl; apply w_reg; apply w_fld; rfl; apply w_ld; rfl; exact hc_i 0 rfl rfl; apply w_neq; rfl; rfl; apply w_mvb; rfl; refine w_gdT rfl (by omega) ?_; apply w_gT; rfl; apply w_fld; rfl; apply w_gT; rfl; apply w_ld; rfl; exact hc_i 0 rfl rfl; apply w_gT; rfl; apply w_sne; rfl; rfl; apply w_pickTb; rfl; rfl; apply w_mvb; rfl; apply w_done0; refine w_ifdF rfl (by omega) ?_; apply w_sq; apply w_sq; apply w_reg; apply w_fld; rfl; apply w_ld; rfl; exact hc_i 0 rfl rfl; apply w_lss; rfl; rfl; apply w_mvb; rfl; refine w_gdT rfl (by omega) ?_; apply w_gT; rfl; apply w_fld; rfl; apply w_gT; rfl; apply w_ld; rfl; exact hc_i 0 rfl rfl; apply w_gT; rfl; apply w_len; rfl; apply w_gT; rfl; apply w_gtr; rfl; rfl; apply w_pickTb; rfl; rfl; apply w_mvb; rfl; apply w_done0; refine w_ifdF rfl (by omega) ?_; apply w_reg; apply w_fld; rfl; apply w_ld; rfl; exact hc_i 0 rfl rfl; apply w_neq; rfl; rfl; apply w_mvb; rfl; refine w_gdT rfl (by omega) ?_; apply w_gT; rfl; apply w_fld; rfl; apply w_gT; rfl; apply w_ld; rfl; exact hc_i 0 rfl rfl; apply w_gT; rfl; apply w_len; rfl; apply w_gT; rfl; apply w_gtr; rfl; rfl; apply w_pickTb; rfl; rfl; apply w_mvb; rfl; apply w_done0; refine w_ifdT rfl (by omega) ?_; apply w_sq; apply w_reg; apply w_mvb; rfl; apply w_done0; apply w_ret)
      apply finQb; rfl
      exact (bare_ks (by omega) h8).symm
    (apply w_sq; apply w_reg; apply w_boxa; rfl; intro _ _; apply w_mvb; rfl; apply w_done0; apply w_sq; apply w_block; apply w_sq; apply w_reg; apply w_fld; rfl; apply w_ld; rfl; exact hc_i 0 rfl rfl; apply w_lss; rfl; rfl; apply w_mvb; rfl; refine w_gdF rfl (by omega) ?_; apply w_gT; rfl; apply w_fld; rfl; apply w_gT; rfl; apply w_ld; rfl; exact hc_i 0 rfl rfl; apply w_gT; rfl; apply w_gtr; rfl; rfl; apply w_pickFb; rfl; rfl; apply w_mvb; rfl; apply w_done0; refine w_ifdF rfl (by omega) ?_; apply w_sq; apply w_sq; apply w_reg; apply w_fld; rfl; apply w_ld; rfl; exact hc_i 0 rfl rfl; apply w_neq; rfl; rfl; apply w_mvb; rfl; refine w_gdF rfl (by omega) ?_; apply w_gF; rfl; apply w_gF; rfl; apply w_gF; rfl; apply w_gF; rfl; apply w_pickFb; rfl; rfl; apply w_mvb; rfl; apply w_done0; apply w_ifF; rfl; apply w_reg; apply w_fld; rfl; apply w_ld; rfl; exact hc_i 0 rfl rfl; apply w_neq; rfl; rfl; apply w_mvb; rfl; refine w_gdT rfl (by omega) ?_; apply w_gT; rfl; apply w_fld; rfl; apply w_gT; rfl; apply w_ld; rfl; exact hc_i 0 rfl rfl; apply w_gT; rfl; apply w_sne; rfl; rfl; apply w_pickTb; rfl; rfl; apply w_mvb; rfl; apply w_done0; refine w_ifdF rfl (by omega) ?_; apply w_sq; apply w_sq; apply w_reg; apply w_fld; rfl; apply w_ld; rfl; exact hc_i 0 rfl rfl; apply w_lss; rfl; rfl; apply w_mvb; rfl; refine w_gdT rfl (by omega) ?_; apply w_gT; rfl; apply w_fld; rfl; apply w_gT; rfl; apply w_ld; rfl; exact hc_i 0 rfl rfl; apply w_gT; rfl; apply w_len; rfl; apply w_gT; rfl; apply w_gtr; rfl; rfl; apply w_pickTb; rfl; rfl; apply w_mvb; rfl; apply w_done0; refine w_ifdF rfl (by omega) ?_; apply w_reg; apply w_fld; rfl; apply w_ld; rfl; exact hc_i 0 rfl rfl; apply w_neq; rfl; rfl; apply w_mvb; rfl; refine w_gdT rfl (by omega) ?_; apply w_gT; rfl; apply w_fld; rfl; apply w_gT; rfl; apply w_ld; rfl; exact hc_i 0 rfl rfl; apply w_gT; rfl; apply w_len; rfl; apply w_gT; rfl; apply w_gtr; rfl; rfl; apply w_pickTb; rfl; rfl; apply w_mvb; rfl; apply w_done0; refine w_ifdF rfl (by omega) ?_; apply w_skip; apply w_sq; apply w_reg; apply w_mvb; rfl; apply w_done0; apply w_ret)
    apply finQb; rfl
    have e1 : l = [] := List.eq_nil_of_length_eq_zero (by omega)
    have e2 : ks = [] := List.eq_nil_of_length_eq_zero (by omega)
    exact hfin hk3 h6' e1 e2
  · have h5 : (true ^^ (decide (m = 0) && decide (e = 0))) = false := by
      rcases h3' with h | h
      · exact absurd h hk3
      · simp [h]
    have h5' : m = 0 ∧ e = 0 := by rcases h3' with h | h
                                   · exact absurd h hk3
                                   · exact h
    by_cases h6 : k ≠ 4 ∧ t ≠ []
    · obtain ⟨h6, h6'⟩ := h6
      (apply w_sq; apply w_reg; apply w_boxa; rfl; intro _ _; apply w_mvb; rfl; apply w_done0; apply w_sq; apply w_block; apply w_sq; apply w_reg; apply w_fld; rfl; apply w_ld; rfl; exact hc_i 0 rfl rfl; apply w_lss; rfl; rfl; apply w_mvb; rfl; refine w_gdF rfl (by omega) ?_; apply w_gT; rfl; apply w_fld; rfl; apply w_gT; rfl; apply w_ld; rfl; exact hc_i 0 rfl rfl; apply w_gT; rfl; apply w_gtr; rfl; rfl; apply w_pickFb; rfl; rfl; apply w_mvb; rfl; apply w_done0; refine w_ifdF rfl (by omega) ?_; apply w_sq; apply w_sq; apply w_reg; apply w_fld; rfl; apply w_ld; rfl; exact hc_i 0 rfl rfl; apply w_neq; rfl; rfl; apply w_mvb; rfl; refine w_gdT rfl (by omega) ?_; apply w_gT; rfl; apply w_fld; rfl; apply w_gT; rfl; apply w_ldp 0; rfl; rfl; rfl; apply w_gT; rfl; apply w_bld; rfl; apply w_gT; rfl; apply w_eqc2; rfl; rfl; apply w_pickTb; rfl; rfl; apply w_mvb; rfl; apply w_done0; apply w_ifbF; rfl; (with_reducible assumption); apply w_reg; apply w_fld; rfl; apply w_ld; rfl; exact hc_i 0 rfl rfl; apply w_neq; rfl; rfl; apply w_mvb; rfl; refine w_gdT rfl (by omega) ?_; apply w_gT; rfl; apply w_fld; rfl; apply w_gT; rfl; apply w_ld; rfl; exact hc_i 0 rfl rfl; apply w_gT; rfl; apply w_sne; rfl; rfl; apply w_pickTb; rfl; rfl; apply w_mvb; rfl; apply w_done0; refine w_ifdT rfl (by omega) ?_; apply w_sq; apply w_reg; apply w_mvb; rfl; apply w_done0; apply w_ret)
      apply finQb; rfl
      exact (bare_t h6 h6').symm
    have h6b : k = 4 ∨ t = [] := by
      by_cases hk : k = 4
      · exact .inl hk
      · exact .inr (by by_cases ht : t = [] <;> simp_all)
    by_cases h7 : k < 5 ∧ 0 < l.length
    · obtain ⟨h7, h7'⟩ := h7
      have hl0 : l ≠ [] := by intro h; subst h; simp at h7'
      by_cases hk4 : k = 4
      · (apply w_sq; apply w_reg; apply w_boxa; rfl; intro _ _; apply w_mvb; rfl; apply w_done0; apply w_sq; apply w_block; apply w_sq; apply w_reg; apply w_fld; rfl; apply w_ld; rfl; exact hc_i 0 rfl rfl; apply w_lss; rfl; rfl; apply w_mvb; rfl; refine w_gdF rfl (by omega) ?_; apply w_gT; rfl; apply w_fld; rfl; apply w_gT; rfl; apply w_ld; rfl; exact hc_i 0 rfl rfl; apply w_gT; rfl; apply w_gtr; rfl; rfl; apply w_pickFb; rfl; rfl; apply w_mvb; rfl; apply w_done0; refine w_ifdF rfl (by omega) ?_; apply w_sq; apply w_sq; apply w_reg; apply w_fld; rfl; apply w_ld; rfl; exact hc_i 0 rfl rfl; apply w_neq; rfl; rfl; apply w_mvb; rfl; refine w_gdT rfl (by omega) ?_; apply w_gT; rfl; apply w_fld; rfl; apply w_gT; rfl; apply w_ldp 0; rfl; rfl; rfl; apply w_gT; rfl; apply w_bld; rfl; apply w_gT; rfl; apply w_eqc2; rfl; rfl; apply w_pickTb; rfl; rfl; apply w_mvb; rfl; apply w_done0; apply w_ifbF; rfl; (with_reducible assumption); apply w_reg; apply w_fld; rfl; apply w_ld; rfl; exact hc_i 0 rfl rfl; apply w_neq; rfl; rfl; apply w_mvb; rfl; refine w_gdF rfl (by omega) ?_; apply w_gF; rfl; apply w_gF; rfl; apply w_gF; rfl; apply w_pickFb; rfl; rfl; apply w_mvb; rfl; apply w_done0; apply w_ifF; rfl; apply w_sq; apply w_sq; apply w_reg; apply w_fld; rfl; apply w_ld; rfl; exact hc_i 0 rfl rfl; apply w_lss; rfl; rfl; apply w_mvb; rfl; refine w_gdT rfl (by omega) ?_; apply w_gT; rfl; apply w_fld; rfl; apply w_gT; rfl; apply w_ld; rfl; exact hc_i 0 rfl rfl; apply w_gT; rfl; apply w_len; rfl; apply w_gT; rfl; apply w_gtr; rfl; rfl; apply w_pickTb; rfl; rfl; apply w_mvb; rfl; apply w_done0; refine w_ifdT rfl (by omega) ?_; apply w_skip; refine w_ifdT rfl (by omega) ?_; apply w_sq; apply w_reg; apply w_mvb; rfl; apply w_done0; apply w_ret)
        apply finQb; rfl
        exact (bare_l h7 h7').symm
      · have h6c : ¬ (t ≠ []) := by rcases h6b with h | h
                                    · exact absurd h hk4
                                    · simp [h]
        (apply w_sq; apply w_reg; apply w_boxa; rfl; intro _ _; apply w_mvb; rfl; apply w_done0; apply w_sq; apply w_block; apply w_sq; apply w_reg; apply w_fld; rfl; apply w_ld; rfl; exact hc_i 0 rfl rfl; apply w_lss; rfl; rfl; apply w_mvb; rfl; refine w_gdF rfl (by omega) ?_; apply w_gT; rfl; apply w_fld; rfl; apply w_gT; rfl; apply w_ld; rfl; exact hc_i 0 rfl rfl; apply w_gT; rfl; apply w_gtr; rfl; rfl; apply w_pickFb; rfl; rfl; apply w_mvb; rfl; apply w_done0; refine w_ifdF rfl (by omega) ?_; apply w_sq; apply w_sq; apply w_reg; apply w_fld; rfl; apply w_ld; rfl; exact hc_i 0 rfl rfl; apply w_neq; rfl; rfl; apply w_mvb; rfl; refine w_gdT rfl (by omega) ?_; apply w_gT; rfl; apply w_fld; rfl; apply w_gT; rfl; apply w_ldp 0; rfl; rfl; rfl; apply w_gT; rfl; apply w_bld; rfl; apply w_gT; rfl; apply w_eqc2; rfl; rfl; apply w_pickTb; rfl; rfl; apply w_mvb; rfl; apply w_done0; apply w_ifbF; rfl; (with_reducible assumption); apply w_reg; apply w_fld; rfl; apply w_ld; rfl; exact hc_i 0 rfl rfl; apply w_neq; rfl; rfl; apply w_mvb; rfl; refine w_gdT rfl (by omega) ?_; apply w_gT; rfl; apply w_fld; rfl; apply w_gT; rfl; apply w_ld; rfl; exact hc_i 0 rfl rfl; apply w_gT; rfl; apply w_sne; rfl; rfl; apply w_pickTb; rfl; rfl; apply w_mvb; rfl; apply w_done0; refine w_ifdF rfl (by omega) ?_; apply w_sq; apply w_sq; apply w_reg; apply w_fld; rfl; apply w_ld; rfl; exact hc_i 0 rfl rfl; apply w_lss; rfl; rfl; apply w_mvb; rfl; refine w_gdT rfl (by omega) ?_; apply w_gT; rfl; apply w_fld; rfl; apply w_gT; rfl; apply w_ld; rfl; exact hc_i 0 rfl rfl; apply w_gT; rfl; apply w_len; rfl; apply w_gT; rfl; apply w_gtr; rfl; rfl; apply w_pickTb; rfl; rfl; apply w_mvb; rfl; apply w_done0; refine w_ifdT rfl (by omega) ?_; apply w_skip; refine w_ifdT rfl (by omega) ?_; apply w_sq; apply w_reg; apply w_mvb; rfl; apply w_done0; apply w_ret)
        apply finQb; rfl
        exact (bare_l h7 h7').symm
    by_cases h8 : k ≠ 6 ∧ 0 < ks.length
    · obtain ⟨h8, h8'⟩ := h8
      have hl0 : ks ≠ [] := by intro h; subst h; simp at h8'
      by_cases hk4 : k = 4
      · have h7c : ¬ 0 < l.length := fun h => h7 ⟨by omega, h⟩
        (apply w_sq; apply w_reg; apply w_boxa; rfl; intro _ _; apply w_mvb; rfl; apply w_done0; apply w_sq; apply w_block; apply w_sq; apply w_reg; apply w_fld; rfl; apply w_ld; rfl; exact hc_i 0 rfl rfl; apply w_lss; rfl; rfl; apply w_mvb; rfl; refine w_gdF rfl (by omega) ?_; apply w_gT; rfl; apply w_fld; rfl; apply w_gT; rfl; apply w_ld; rfl; exact hc_i 0 rfl rfl; apply w_gT; rfl; apply w_gtr; rfl; rfl; apply w_pickFb; rfl; rfl; apply w_mvb; rfl; apply w_done0; refine w_ifdF rfl (by omega) ?_; apply w_sq; apply w_sq; apply w_reg; apply w_fld; rfl; apply w_ld; rfl; exact hc_i 0 rfl rfl; apply w_neq; rfl; rfl; apply w_mvb; rfl; refine w_gdT rfl (by omega) ?_; apply w_gT; rfl; apply w_fld; rfl; apply w_gT; rfl; apply w_ldp 0; rfl; rfl; rfl; apply w_gT; rfl; apply w_bld; rfl; apply w_gT; rfl; apply w_eqc2; rfl; rfl; apply w_pickTb; rfl; rfl; apply w_mvb; rfl; apply w_done0; apply w_ifbF; rfl; (with_reducible assumption); apply w_reg; apply w_fld; rfl; apply w_ld; rfl; exact hc_i 0 rfl rfl; apply w_neq; rfl; rfl; apply w_mvb; rfl; refine w_gdF rfl (by omega) ?_; apply w_gF; rfl; apply w_gF; rfl; apply w_gF; rfl; apply w_pickFb; rfl; rfl; apply w_mvb; rfl; apply w_done0; apply w_ifF; rfl; apply w_sq; apply w_sq; apply w_reg; apply w_fld; rfl; apply w_ld; rfl; exact hc_i 0 rfl rfl; apply w_lss; rfl; rfl; apply w_mvb; rfl; refine w_gdT rfl (by omega) ?_; apply w_gT; rfl; apply w_fld; rfl; apply w_gT; rfl; apply w_ld; rfl; exact hc_i 0 rfl rfl; apply w_gT; rfl; apply w_len; rfl; apply w_gT; rfl; apply w_gtr; rfl; rfl; apply w_pickTb; rfl; rfl; apply w_mvb; rfl; apply w_done0; refine w_ifdF rfl (by omega) ?_; apply w_reg; apply w_fld; rfl; apply w_ld; rfl; exact hc_i 0 rfl rfl; apply w_neq; rfl; rfl; apply w_mvb; rfl; refine w_gdT rfl (by omega) ?_; apply w_gT; rfl; apply w_fld; rfl; apply w_gT; rfl; apply w_ld; rfl; exact hc_i 0 rfl rfl; apply w_gT; rfl; apply w_len; rfl; apply w_gT; rfl; apply w_gtr; rfl; rfl; apply w_pickTb; rfl; rfl; apply w_mvb; rfl; apply w_done0; refine w_ifdT rfl (by omega) ?_; apply w_sq; apply w_reg; apply w_mvb; rfl; apply w_done0; apply w_ret)
        apply finQb; rfl
        exact (bare_ks h8 h8').symm
      · have h6c : ¬ (t ≠ []) := by rcases h6b with h | h
                                    · exact absurd h hk4
                                    · simp [h]
        by_cases h7c : k < 5
        · have h7d : ¬ 0 < l.length := fun h => h7 ⟨h7c, h⟩
          (apply w_sq; apply w_reg; apply w_boxa; rfl; intro _ _; apply w_mvb; rfl; apply w_done0; apply w_sq; apply w_block; apply w_sq; apply w_reg; apply w_fld; rfl; apply w_ld; rfl; exact hc_i 0 rfl rfl; apply w_lss; rfl; rfl; apply w_mvb; rfl; refine w_gdF rfl (by omega) ?_; apply w_gT; rfl; apply w_fld; rfl; apply w_gT; rfl; apply w_ld; rfl; exact hc_i 0 rfl rfl; apply w_gT; rfl; apply w_gtr; rfl; rfl; apply w_pickFb; rfl; rfl; apply w_mvb; rfl; apply w_done0; refine w_ifdF rfl (by omega) ?_; apply w_sq; apply w_sq; apply w_reg; apply w_fld; rfl; apply w_ld; rfl; exact hc_i 0 rfl rfl; apply w_neq; rfl; rfl; apply w_mvb; rfl; refine w_gdT rfl (by omega) ?_; apply w_gT; rfl; apply w_fld; rfl; apply w_gT; rfl; apply w_ldp 0; rfl; rfl; rfl; apply w_gT; rfl; apply w_bld; rfl; apply w_gT; rfl; apply w_eqc2; rfl; rfl; apply w_pickTb; rfl; rfl; apply w_mvb; rfl; apply w_done0; apply w_ifbF; rfl; (with_reducible assumption); apply w_reg; apply w_fld; rfl; apply w_ld; rfl; exact hc_i 0 rfl rfl; apply w_neq; rfl; rfl; apply w_mvb; rfl; refine w_gdT rfl (by omega) ?_; apply w_gT; rfl; apply w_fld; rfl; apply w_gT; rfl; apply w_ld; rfl; exact hc_i 0 rfl rfl; apply w_gT; rfl; apply w_sne; rfl; rfl; apply w_pickTb; rfl; rfl; apply w_mvb; rfl; apply w_done0; refine w_ifdF rfl (by omega) ?_; apply w_sq; apply w_sq; apply w_reg; apply w_fld; rfl; apply w_ld; rfl; exact hc_i 0 rfl rfl; apply w_lss; rfl; rfl; apply w_mvb; rfl; refine w_gdT rfl (by omega) ?_; apply w_gT; rfl; apply w_fld; rfl; apply w_gT; rfl; apply w_ld; rfl; exact hc_i 0 rfl rfl; apply w_gT; rfl; apply w_len; rfl; apply w_gT; rfl; apply w_gtr; rfl; rfl; apply w_pickTb; rfl; rfl; apply w_mvb; rfl; apply w_done0; refine w_ifdF rfl (by omega) ?_; apply w_reg; apply w_fld; rfl; apply w_ld; rfl; exact hc_i 0 rfl rfl; apply w_neq; rfl; rfl; apply w_mvb; rfl; refine w_gdT rfl (by omega) ?_; apply w_gT; rfl; apply w_fld; rfl; apply w_gT; rfl; apply w_ld; rfl; exact hc_i 0 rfl rfl; apply w_gT; rfl; apply w_len; rfl; apply w_gT; rfl; apply w_gtr; rfl; rfl; apply w_pickTb; rfl; rfl; apply w_mvb; rfl; apply w_done0; refine w_ifdT rfl (by omega) ?_; apply w_sq; apply w_reg; apply w_mvb; rfl; apply w_done0; apply w_ret)
          apply finQb; rfl
          exact (bare_ks h8 h8').symm
        · (apply w_sq; apply w_reg; apply w_boxa; rfl; intro _ _; apply w_mvb; rfl; apply w_done0; apply w_sq; apply w_block; apply w_sq; apply w_reg; apply w_fld; rfl; apply w_ld; rfl; exact hc_i 0 rfl rfl; apply w_lss; rfl; rfl; apply w_mvb; rfl; refine w_gdF rfl (by omega) ?_; apply w_gT; rfl; apply w_fld; rfl; apply w_gT; rfl; apply w_ld; rfl; exact hc_i 0 rfl rfl; apply w_gT; rfl; apply w_gtr; rfl; rfl; apply w_pickFb; rfl; rfl; apply w_mvb; rfl; apply w_done0; refine w_ifdF rfl (by omega) ?_; apply w_sq; apply w_sq; apply w_reg; apply w_fld; rfl; apply w_ld; rfl; exact hc_i 0 rfl rfl; apply w_neq; rfl; rfl; apply w_mvb; rfl; refine w_gdT rfl (by omega) ?_; apply w_gT; rfl; apply w_fld; rfl; apply w_gT; rfl; apply w_ldp 0; rfl; rfl; rfl; apply w_gT; rfl; apply w_bld; rfl; apply w_gT; rfl; apply w_eqc2; rfl; rfl; apply w_pickTb; rfl; rfl; apply w_mvb; rfl; apply w_done0; apply w_ifbF; rfl; (with_reducible assumption); apply w_reg; apply w_fld; rfl; apply w_ld; rfl; exact hc_i 0 rfl rfl; apply w_neq; rfl; rfl; apply w_mvb; rfl; refine w_gdT rfl (by omega) ?_; apply w_gT; rfl; apply w_fld; rfl; apply w_gT; rfl; apply w_ld; rfl; exact hc_i 0 rfl rfl; apply w_gT; rfl; apply w_sne; rfl; rfl; apply w_pickTb; rfl; rfl; apply w_mvb; rfl; apply w_done0; refine w_ifdF rfl (by omega) ?_; apply w_sq; apply w_sq; apply w_reg; apply w_fld; rfl; apply w_ld; rfl; exact hc_i 0 rfl rfl; apply w_lss; rfl; rfl; apply w_mvb; rfl; refine w_gdF rfl (by omega) ?_; apply w_gF; rfl; apply w_gF; rfl; apply w_gF; rfl; apply w_gF; rfl; apply w_pickFb; rfl; rfl; apply w_mvb; rfl; apply w_done0; apply w_ifF; rfl; apply w_reg; apply w_fld; rfl; apply w_ld; rfl; exact hc_i 0 rfl rfl; apply w_neq; rfl; rfl; apply w_mvb; rfl; refine w_gdT rfl (by omega) ?_; apply w_gT; rfl; apply w_fld; rfl; apply w_gT; rfl; apply w_ld; rfl; exact hc_i 0 rfl rfl; apply w_gT; rfl; apply w_len; rfl; apply w_gT; rfl; apply w_gtr; rfl; rfl; apply w_pickTb; rfl; rfl; apply w_mvb; rfl; apply w_done0; refine w_ifdT rfl (by omega) ?_; apply w_sq; apply w_reg; apply w_mvb; rfl; apply w_done0; apply w_ret)
          apply finQb; rfl
          exact (bare_ks h8 h8').symm
    have e2 : k = 6 ∨ ks = [] := by
      by_cases hk : k = 6
      · exact .inl hk
      · exact .inr (List.eq_nil_of_length_eq_zero (by have : ¬ 0 < ks.length := fun h => h8 ⟨hk, h⟩
                                                      omega))
    have e1 : 5 ≤ k ∨ l = [] := by
      by_cases hk : 5 ≤ k
      · exact .inl hk
      · exact .inr (List.eq_nil_of_length_eq_zero (by have : ¬ 0 < l.length := fun h => h7 ⟨by omega, h⟩
                                                      omega))
    have fin : true = bareB (.mk k m e t l ks) := by
      simp only [bareB, V.kind, V.m, V.e, V.text, V.list, V.keys]
      rw [eq_comm]
      simp only [Bool.and_eq_true, Bool.or_eq_true, decide_eq_true_eq]
      exact ⟨⟨⟨⟨by omega, .inr h5'⟩, h6b⟩, e1⟩, e2⟩
    by_cases hk4 : k = 4
    · have h7c : ¬ 0 < l.length := fun h => h7 ⟨by omega, h⟩
      have h8c : ¬ 0 < ks.length := fun h => h8 ⟨by omega, h⟩
      (apply w_sq; apply w_reg; apply w_boxa; rfl; intro _ _; apply w_mvb; rfl; apply w_done0; apply w_sq; apply w_block; apply w_sq; apply w_reg; apply w_fld; rfl; apply w_ld; rfl; exact hc_i 0 rfl rfl; apply w_lss; rfl; rfl; apply w_mvb; rfl; refine w_gdF rfl (by omega) ?_; apply w_gT; rfl; apply w_fld; rfl; apply w_gT; rfl; apply w_ld; rfl; exact hc_i 0 rfl rfl; apply w_gT; rfl; apply w_gtr; rfl; rfl; apply w_pickFb; rfl; rfl; apply w_mvb; rfl; apply w_done0; refine w_ifdF rfl (by omega) ?_; apply w_sq; apply w_sq; apply w_reg; apply w_fld; rfl; apply w_ld; rfl; exact hc_i 0 rfl rfl; apply w_neq; rfl; rfl; apply w_mvb; rfl; refine w_gdT rfl (by omega) ?_; apply w_gT; rfl; apply w_fld; rfl; apply w_gT; rfl; apply w_ldp 0; rfl; rfl; rfl; apply w_gT; rfl; apply w_bld; rfl; apply w_gT; rfl; apply w_eqc2; rfl; rfl; apply w_pickTb; rfl; rfl; apply w_mvb; rfl; apply w_done0; apply w_ifbF; rfl; (with_reducible assumption); apply w_reg; apply w_fld; rfl; apply w_ld; rfl; exact hc_i 0 rfl rfl; apply w_neq; rfl; rfl; apply w_mvb; rfl; refine w_gdF rfl (by omega) ?_; apply w_gF; rfl; apply w_gF; rfl; apply w_gF; rfl; apply w_pickFb; rfl; rfl; apply w_mvb; rfl; apply w_done0; apply w_ifF; rfl; apply w_sq; apply w_sq; apply w_reg; apply w_fld; rfl; apply w_ld; rfl; exact hc_i 0 rfl rfl; apply w_lss; rfl; rfl; apply w_mvb; rfl; refine w_gdT rfl (by omega) ?_; apply w_gT; rfl; apply w_fld; rfl; apply w_gT; rfl; apply w_ld; rfl; exact hc_i 0 rfl rfl; apply w_gT; rfl; apply w_len; rfl; apply w_gT; rfl; apply w_gtr; rfl; rfl; apply w_pickTb; rfl; rfl; apply w_mvb; rfl; apply w_done0; refine w_ifdF rfl (by omega) ?_; apply w_reg; apply w_fld; rfl; apply w_ld; rfl; exact hc_i 0 rfl rfl; apply w_neq; rfl; rfl; apply w_mvb; rfl; refine w_gdT rfl (by omega) ?_; apply w_gT; rfl; apply w_fld; rfl; apply w_gT; rfl; apply w_ld; rfl; exact hc_i 0 rfl rfl; apply w_gT; rfl; apply w_len; rfl; apply w_gT; rfl; apply w_gtr; rfl; rfl; apply w_pickTb; rfl; rfl; apply w_mvb; rfl; apply w_done0; refine w_ifdF rfl (by omega) ?_; apply w_skip; apply w_sq; apply w_reg; apply w_mvb; rfl; apply w_done0; apply w_ret)
      apply finQb; rfl
      exact fin
    · have h6c : ¬ (t ≠ []) := by rcases h6b with h | h
                                  · exact absurd h hk4
                                  · simp [h]
      by_cases h7c : k < 5
      · have h7d : ¬ 0 < l.length := fun h => h7 ⟨h7c, h⟩
        have h8c : ¬ 0 < ks.length := fun h => h8 ⟨by omega, h⟩
        (apply w_sq; apply w_reg; apply w_boxa; rfl; intro _ _; apply w_mvb; rfl; apply w_done0; apply w_sq; apply w_block; apply w_sq; apply w_reg; apply w_fld; rfl; apply w_ld; rfl; exact hc_i 0 rfl rfl; apply w_lss; rfl; rfl; apply w_mvb; rfl; refine w_gdF rfl (by omega) ?_; apply w_gT; rfl; apply w_fld; rfl; apply w_gT; rfl; apply w_ld; rfl; exact hc_i 0 rfl rfl; apply w_gT; rfl; apply w_gtr; rfl; rfl; apply w_pickFb; rfl; rfl; apply w_mvb; rfl; apply w_done0; refine w_ifdF rfl (by omega) ?_; apply w_sq; apply w_sq; apply w_reg; apply w_fld; rfl; apply w_ld; rfl; exact hc_i 0 rfl rfl; apply w_neq; rfl; rfl; apply w_mvb; rfl; refine w_gdT rfl (by omega) ?_; apply w_gT; rfl; apply w_fld; rfl; apply w_gT; rfl; apply w_ldp 0; rfl; rfl; rfl; apply w_gT; rfl; apply w_bld; rfl; apply w_gT; rfl; apply w_eqc2; rfl; rfl; apply w_pickTb; rfl; rfl; apply w_mvb; rfl; apply w_done0; apply w_ifbF; rfl; (with_reducible assumption); apply w_reg; apply w_fld; rfl; apply w_ld; rfl; exact hc_i 0 rfl rfl; apply w_neq; rfl; rfl; apply w_mvb; rfl; refine w_gdT rfl (by omega) ?_; apply w_gT; rfl; apply w_fld; rfl; apply w_gT; rfl; apply w_ld; rfl; exact hc_i 0 rfl rfl; apply w_gT; rfl; apply w_sne; rfl; rfl; apply w_pickTb; rfl; rfl; apply w_mvb; rfl; apply w_done0; refine w_ifdF rfl (by omega) ?_; apply w_sq; apply w_sq; apply w_reg; apply w_fld; rfl; apply w_ld; rfl; exact hc_i 0 rfl rfl; apply w_lss; rfl; rfl; apply w_mvb; rfl; refine w_gdT rfl (by omega) ?_; apply w_gT; rfl; apply w_fld; rfl; apply w_gT; rfl; apply w_ld; rfl; exact hc_i 0 rfl rfl; apply w_gT; rfl; apply w_len; rfl; apply w_gT; rfl; apply w_gtr; rfl; rfl; apply w_pickTb; rfl; rfl; apply w_mvb; rfl; apply w_done0; refine w_ifdF rfl (by omega) ?_; apply w_reg; apply w_fld; rfl; apply w_ld; rfl; exact hc_i 0 rfl rfl; apply w_neq; rfl; rfl; apply w_mvb; rfl; refine w_gdT rfl (by omega) ?_; apply w_gT; rfl; apply w_fld; rfl; apply w_gT; rfl; apply w_ld; rfl; exact hc_i 0 rfl rfl; apply w_gT; rfl; apply w_len; rfl; apply w_gT; rfl; apply w_gtr; rfl; rfl; apply w_pickTb; rfl; rfl; apply w_mvb; rfl; apply w_done0; refine w_ifdF rfl (by omega) ?_; apply w_skip; apply w_sq; apply w_reg; apply w_mvb; rfl; apply w_done0; apply w_ret)
        apply finQb; rfl
        exact fin
      · by_cases h8c : k = 6
        · (apply w_sq; apply w_reg; apply w_boxa; rfl; intro _ _; apply w_mvb; rfl; apply w_done0; apply w_sq; apply w_block; apply w_sq; apply w_reg; apply w_fld; rfl; apply w_ld; rfl; exact hc_i 0 rfl rfl; apply w_lss; rfl; rfl; apply w_mvb; rfl; refine w_gdF rfl (by omega) ?_; apply w_gT; rfl; apply w_fld; rfl; apply w_gT; rfl; apply w_ld; rfl; exact hc_i 0 rfl rfl; apply w_gT; rfl; apply w_gtr; rfl; rfl; apply w_pickFb; rfl; rfl; apply w_mvb; rfl; apply w_done0; refine w_ifdF rfl (by omega) ?_; apply w_sq; apply w_sq; apply w_reg; apply w_fld; rfl; apply w_ld; rfl; exact hc_i 0 rfl rfl; apply w_neq; rfl; rfl; apply w_mvb; rfl; refine w_gdT rfl (by omega) ?_; apply w_gT; rfl; apply w_fld; rfl; apply w_gT; rfl; apply w_ldp 0; rfl; rfl; rfl; apply w_gT; rfl; apply w_bld; rfl; apply w_gT; rfl; apply w_eqc2; rfl; rfl; apply w_pickTb; rfl; rfl; apply w_mvb; rfl; apply w_done0; apply w_ifbF; rfl; (with_reducible assumption); apply w_reg; apply w_fld; rfl; apply w_ld; rfl; exact hc_i 0 rfl rfl; apply w_neq; rfl; rfl; apply w_mvb; rfl; refine w_gdT rfl (by omega) ?_; apply w_gT; rfl; apply w_fld; rfl; apply w_gT; rfl; apply w_ld; rfl; exact hc_i 0 rfl rfl; apply w_gT; rfl; apply w_sne; rfl; rfl; apply w_pickTb; rfl; rfl; apply w_mvb; rfl; apply w_done0; refine w_ifdF rfl (by omega) ?_; apply w_sq; apply w_sq; apply w_reg; apply w_fld; rfl; apply w_ld; rfl; exact hc_i 0 rfl rfl; apply w_lss; rfl; rfl; apply w_mvb; rfl; refine w_gdF rfl (by omega) ?_; apply w_gF; rfl; apply w_gF; rfl; apply w_gF; rfl; apply w_gF; rfl; apply w_pickFb; rfl; rfl; apply w_mvb; rfl; apply w_done0; apply w_ifF; rfl; apply w_reg; apply w_fld; rfl; apply w_ld; rfl; exact hc_i 0 rfl rfl; apply w_neq; rfl; rfl; apply w_mvb; rfl; refine w_gdF rfl (by omega) ?_; apply w_gF; rfl; apply w_gF; rfl; apply w_gF; rfl; apply w_gF; rfl; apply w_pickFb; rfl; rfl; apply w_mvb; rfl; apply w_done0; apply w_ifF; rfl; apply w_skip; apply w_sq; apply w_reg; apply w_mvb; rfl; apply w_done0; apply w_ret)
          apply finQb; rfl
          exact fin
        · have h8d : ¬ 0 < ks.length := fun h => h8 ⟨h8c, h⟩
          (apply w_sq; apply w_reg; apply w_boxa; rfl; intro _ _; apply w_mvb; rfl; apply w_done0; apply w_sq; apply w_block; apply w_sq; apply w_reg; apply w_fld; rfl; apply w_ld; rfl; exact hc_i 0 rfl rfl; apply w_lss; rfl; rfl; apply w_mvb; rfl; refine w_gdF rfl (by omega) ?_; apply w_gT; rfl; apply w_fld; rfl; apply w_gT; rfl; apply w_ld; rfl; exact hc_i 0 rfl rfl; apply w_gT; rfl; apply w_gtr; rfl; rfl; apply w_pickFb; rfl; rfl; apply w_mvb; rfl; apply w_done0; refine w_ifdF rfl (by omega) ?_; apply w_sq; apply w_sq; apply w_reg; apply w_fld; rfl; apply w_ld; rfl; exact hc_i 0 rfl rfl; apply w_neq; rfl; rfl; apply w_mvb; rfl; refine w_gdT rfl (by omega) ?_; apply w_gT; rfl; apply w_fld; rfl; apply w_gT; rfl; apply w_ldp 0; rfl; rfl; rfl; apply w_gT; rfl; apply w_bld; rfl; apply w_gT; rfl; apply w_eqc2; rfl; rfl; apply w_pickTb; rfl; rfl; apply w_mvb; rfl; apply w_done0; apply w_ifbF; rfl; (with_reducible assumption); apply w_reg; apply w_fld; rfl; apply w_ld; rfl; exact hc_i 0 rfl rfl; apply w_neq; rfl; rfl; apply w_mvb; rfl; refine w_gdT rfl (by omega) ?_; apply w_gT; rfl; apply w_fld; rfl; apply w_gT; rfl; apply w_ld; rfl; exact hc_i 0 rfl rfl; apply w_gT; rfl; apply w_sne; rfl; rfl; apply w_pickTb; rfl; rfl; apply w_mvb; rfl; apply w_done0; refine w_ifdF rfl (by omega) ?_; apply w_sq; apply w_sq; apply w_reg; apply w_fld; rfl; apply w_ld; rfl; exact hc_i 0 rfl rfl; apply w_lss; rfl; rfl; apply w_mvb; rfl; refine w_gdF rfl (by omega) ?_; apply w_gF; rfl; apply w_gF; rfl; apply w_gF; rfl; apply w_gF; rfl; apply w_pickFb; rfl; rfl; apply w_mvb; rfl; apply w_done0; apply w_ifF; rfl; apply w_reg; apply w_fld; rfl; apply w_ld; rfl; exact hc_i 0 rfl rfl; apply w_neq; rfl; rfl; apply w_mvb; rfl; refine w_gdT rfl (by omega) ?_; apply w_gT; rfl; apply w_fld; rfl; apply w_gT; rfl; apply w_ld; rfl; exact hc_i 0 rfl rfl; apply w_gT; rfl; apply w_len; rfl; apply w_gT; rfl; apply w_gtr; rfl; rfl; apply w_pickTb; rfl; rfl; apply w_mvb; rfl; apply w_done0; refine w_ifdF rfl (by omega) ?_; apply w_skip; apply w_sq; apply w_reg; apply w_mvb; rfl; apply w_done0; apply w_ret)
          apply finQb; rfl
          exact fin
end Go.Gk.Val
end

section
namespace Go.Gk.Val
open Go Go.Gk
attribute [local irreducible] gwp gws

theorem tmod10 {m : Int} : m.tmod 10 = 0 ↔ m % 10 = 0 := by
  constructor
  · intro h; exact Int.emod_eq_zero_of_dvd (Int.dvd_of_tmod_eq_zero h)
  · intro h; exact Int.tmod_eq_zero_of_dvd (Int.dvd_of_emod_eq_zero h)
def tensV : List Value := (List.range 20).map fun i => .int .u64 ((10 ^ i : Nat) : Int)
def SizeOk (P : Program) (f : FuncId) : Prop := ∀ {d : PHeap} {m e : Int}, I64 m → GPure P f [.agg [.int .i64 m, .int .i64 e].toArray] d (.int .u64 m.natAbs)
def g_num_size : GFun :=
 ⟨13, [(.tmp 2)],
 (.seq
 (.reg false (.op false ⟨(some 1), none, (.box (.tmp 0))⟩
  (.op false ⟨(some 2), none, (.mv (.const (.int .u64 0)))⟩ .done)))
 (.seq (.seq
 (.reg false (.op false ⟨(some 3), none, (.fld 0 (.tmp 1))⟩
  (.op false ⟨(some 4), none, (.ld none (.tmp 3))⟩
  (.op false ⟨(some 5), none, (.bin .lss (.tmp 4) (.const (.int .i64 0)))⟩ .done)))) (.cond (.tmp 5)
 (.seq
 (.reg false (.op false ⟨(some 6), none, (.fld 0 (.tmp 1))⟩
  (.op false ⟨(some 7), none, (.ld none (.tmp 6))⟩
  (.op false ⟨(some 8), none, (.cvi .u64 (.tmp 7))⟩
  (.op false ⟨(some 9), none, (.un .neg (.tmp 8))⟩
  (.op false ⟨(some 2), none, (.mv (.tmp 9))⟩ .done)))))) .ret) .skip))
 (.seq
 (.reg false (.op false ⟨(some 10), none, (.fld 0 (.tmp 1))⟩
  (.op false ⟨(some 11), none, (.ld none (.tmp 10))⟩
  (.op false ⟨(some 12), none, (.cvi .u64 (.tmp 11))⟩
  (.op false ⟨(some 2), none, (.mv (.tmp 12))⟩ .done))))) .ret)))⟩

theorem size_ok {P : Program} {f : FuncId} (hd : dec P f = some g_num_size) : SizeOk P f := by
  intro d m e ⟨h1, h2⟩
  refine GPure.of' hd (Nat.le_of_ble_eq_true rfl) ?_
  show gwp P _ _ _ _ _
  by_cases h : m < 0
  · (apply w_sq; apply w_reg; apply w_boxa; rfl; intro _ _; apply w_mvi; rfl; apply w_done0; apply w_sq; apply w_sq; apply w_reg; apply w_fld; rfl; apply w_ld; rfl; exact hc_i 0 rfl rfl; apply w_lss; rfl; rfl; apply w_done0; refine w_ifdT rfl (by omega) ?_; apply w_sq; apply w_reg; apply w_fld; rfl; apply w_ld; rfl; exact hc_i 0 rfl rfl; apply w_cviu; rfl; apply w_negu; rfl; apply w_mvi; rfl; apply w_done0; apply w_ret)
    apply finQi; rfl
    omega
  · (apply w_sq; apply w_reg; apply w_boxa; rfl; intro _ _; apply w_mvi; rfl; apply w_done0; apply w_sq; apply w_sq; apply w_reg; apply w_fld; rfl; apply w_ld; rfl; exact hc_i 0 rfl rfl; apply w_lss; rfl; rfl; apply w_done0; refine w_ifdF rfl (by omega) ?_; apply w_skip; apply w_sq; apply w_reg; apply w_fld; rfl; apply w_ld; rfl; exact hc_i 0 rfl rfl; apply w_cviu; rfl; apply w_mvi; rfl; apply w_done0; apply w_ret)
    apply finQi; rfl
    omega
def ZeroOk (P : Program) (f : FuncId) : Prop := ∀ {d : PHeap}, GPure P f [] d (.agg [.int .i64 0, .int .i64 0].toArray)
def g_num_zero : GFun :=
 ⟨2, [(.cell 0 (some 2))],
 (.seq
 (.reg false (.op false ⟨(some 0), none, (.alo (.agg #[(.int .i64 0), (.int .i64 0)]))⟩ .done))
 (.seq
 (.reg false (.op false ⟨(some 1), none, (.bld [(0, 1), (1, 1)] [(.int .i64 0), (.int .i64 0)] [])⟩
  (.op false ⟨none, none, (.st 2 (.tmp 0) (.tmp 1))⟩ .done))) .ret))⟩

theorem zero_ok {P : Program} {f : FuncId} (hd : dec P f = some g_num_zero) : ZeroOk P f := by
  intro d
  refine GPure.of' hd (Nat.le_of_ble_eq_true rfl) ?_
  show gwp P _ _ _ _ _
  (apply w_sq; apply w_reg; apply w_alo; intro _ _; apply w_done0; apply w_sq; apply w_reg; apply w_bld; rfl)
  rename_i b T
  refine w_stE 0 [.int .i64 0, .int .i64 0] rfl rfl rfl rfl (Nat.le_of_ble_eq_true rfl) rfl rfl ?_
  (apply w_done0; apply w_ret)
  exact finS [.agg [.int .i64 0, .int .i64 0].toArray] ⟨res_cell 0 rfl rfl rfl, trivial⟩ (List.nil_sublist _) ⟨rfl, rfl⟩
def NumOk (T : PHeap → Prop) (P : Program) (f : FuncId) : Prop := ∀ {d : PHeap} {m e : Int}, T d → I64 m → I64 e → GPure P f [.agg [.int .i64 m, .int .i64 e].toArray] d (.bool (numRight m e))
def VsOk (T : PHeap → Prop) (P : Program) (f : FuncId) : Prop := ∀ {d : PHeap} {l : List UInt8}, T d → l.length ≤ 140737488355328 → GPure P f [strV l] d (.bool (u8 l))
def g_num_Right (f_num_zero G_num_tens f_num_size : Nat) : GFun :=
 ⟨30, [(.tmp 2)],
 (.seq
 (.reg false (.op false ⟨(some 1), none, (.box (.tmp 0))⟩
  (.op false ⟨(some 2), none, (.mv (.const (.bool false)))⟩ .done)))
 (.seq (.seq
 (.reg false (.op false ⟨(some 3), none, (.fld 0 (.tmp 1))⟩
  (.op false ⟨(some 4), none, (.ld none (.tmp 3))⟩
  (.op false ⟨(some 5), none, (.bin .eql (.tmp 4) (.const (.int .i64 0)))⟩ .done)))) (.cond (.tmp 5)
 (.seq
 (.reg true (.op true ⟨(some 6), none, (.ld (some 2) (.tmp 1))⟩
  (.op false ⟨(some 7), none, (.call f_num_zero [])⟩
  (.op true ⟨(some 8), none, (.eqc false [(0, 0), (0, 1)] (.tmp 6) (.tmp 7))⟩
  (.bar (.op true ⟨(some 2), none, (.mv (.tmp 8))⟩ .done)))))) .ret) .skip))
 (.seq
 (.reg true (.op true ⟨(some 9), none, (.ld (some 2) (.tmp 1))⟩
  (.op true ⟨(some 11), none, (.idxa 20 1 (.global G_num_tens) (.const (.int .i64 18)))⟩
  (.op true ⟨(some 12), none, (.ld none (.tmp 11))⟩
  (.op false ⟨(some 10), none, (.call f_num_size [(.tmp 9)])⟩
  (.op true ⟨(some 13), none, (.bin .lss (.tmp 10) (.tmp 12))⟩
  (.op true ⟨(some 14), none, (.mv (.tmp 13))⟩
  (.op true ⟨(some 15), (some (14, true)), (.fld 0 (.tmp 1))⟩
  (.op true ⟨(some 16), (some (14, true)), (.ld none (.tmp 15))⟩
  (.op true ⟨(some 17), (some (14, true)), (.bin .rem (.tmp 16) (.const (.int .i64 10)))⟩
  (.op true ⟨(some 18), (some (14, true)), (.bin .neq (.tmp 17) (.const (.int .i64 0)))⟩
  (.op true ⟨(some 19), none, (.pick (.tmp 14) (.tmp 18) (.const (.bool false)))⟩
  (.op true ⟨(some 20), none, (.mv (.tmp 19))⟩
  (.op true ⟨(some 21), (some (20, true)), (.fld 1 (.tmp 1))⟩
  (.op true ⟨(some 22), (some (20, true)), (.ld none (.tmp 21))⟩
  (.op true ⟨(some 23), (some (20, true)), (.bin .geq (.tmp 22) (.const (.int .i64 (-64))))⟩
  (.op true ⟨(some 24), none, (.pick (.tmp 20) (.tmp 23) (.const (.bool false)))⟩
  (.op true ⟨(some 25), none, (.mv (.tmp 24))⟩
  (.op true ⟨(some 26), (some (25, true)), (.fld 1 (.tmp 1))⟩
  (.op true ⟨(some 27), (some (25, true)), (.ld none (.tmp 26))⟩
  (.op true ⟨(some 28), (some (25, true)), (.bin .leq (.tmp 27) (.const (.int .i64 64)))⟩
  (.op true ⟨(some 29), none, (.pick (.tmp 25) (.tmp 28) (.const (.bool false)))⟩
  (.bar (.op true ⟨(some 2), none, (.mv (.tmp 29))⟩ .done)))))))))))))))))))))))) .ret)))⟩

theorem num_ok {T : PHeap → Prop} {P : Program} {f f1 g2 f3 : FuncId} (hT : ∀ d, T d → DCs d g2 0 tensV) (hd : dec P f = some (g_num_Right f1 g2 f3)) (h1 : ZeroOk P f1) (h3 : SizeOk P f3) : NumOk T P f := by
  intro d m e ht hm he
  have htab := hT d ht
  have ht18 : DC d g2 18 (.int .u64 1000000000000000000) := htab.at (i := 18) rfl
  obtain ⟨he1, he2⟩ := he
  refine GPure.of' hd (Nat.le_of_ble_eq_true rfl) ?_
  show gwp P _ _ _ _ _
  apply w_sq; apply w_reg
  refine w_boxa (l := [.int .i64 m, .int .i64 e]) rfl (fun b1 T1 => ?_)
  by_cases h : m = 0
  · subst h
    (apply w_mvb; rfl; apply w_done0; apply w_sq; apply w_sq; apply w_reg; apply w_fld; rfl; apply w_ld; rfl; exact hc_i 0 rfl rfl; apply w_eql; rfl; rfl; apply w_done0; refine w_ifdT rfl (by omega) ?_; apply w_sq; apply w_drawn; apply w_ldb 0; rfl; rfl; rfl)
    refine w_pure rfl h1 ?_
    (apply w_eqc2; rfl; rfl; apply w_bar; apply w_mvb; rfl; apply w_done0; apply w_ret)
    apply finQb; rfl
    simp [numRight]
  · (apply w_mvb; rfl; apply w_done0; apply w_sq; apply w_sq; apply w_reg; apply w_fld; rfl; apply w_ld; rfl; exact hc_i 0 rfl rfl; apply w_eql; rfl; rfl; apply w_done0; refine w_ifdF rfl (by omega) ?_; apply w_skip; apply w_sq)
    refine w_drawn ?_
    (apply w_ldb 0; rfl; rfl; rfl)
    refine w_idxa 18 rfl rfl rfl (by omega) ?_
    refine w_ld rfl (hc_d (by exact ht18)) ?_
    refine w_pure rfl (h3 hm) ?_
    have hmI := hm
    obtain ⟨hm1, hm2⟩ := hm
    have hmod := tmod10 (m := m)
    by_cases h4 : (m.natAbs : Int) < 1000000000000000000
    · by_cases h5 : m.tmod 10 ≠ 0
      · by_cases h6 : e ≥ -64
        · by_cases h7 : e ≤ 64
          · (apply w_lss; rfl; rfl; apply w_mvb; rfl; refine w_gdT rfl (by omega) ?_; apply w_gT; rfl; apply w_fld; rfl; apply w_gT; rfl; apply w_ld; rfl; exact hc_i 0 rfl rfl; apply w_gT; rfl; apply w_remT; rfl; rfl; omega; apply w_gT; rfl; apply w_neq; rfl; rfl; apply w_pickTb; rfl; rfl; apply w_mvb; rfl; refine w_gdT rfl (by omega) ?_; apply w_gT; rfl; apply w_fld; rfl; apply w_gT; rfl; apply w_ld; rfl; exact hc_i 0 rfl rfl; apply w_gT; rfl; apply w_geq; rfl; rfl; apply w_pickTb; rfl; rfl; apply w_mvb; rfl; refine w_gdT rfl (by omega) ?_; apply w_gT; rfl; apply w_fld; rfl; apply w_gT; rfl; apply w_ld; rfl; exact hc_i 0 rfl rfl; apply w_gT; rfl; apply w_leq; rfl; rfl; apply w_pickTb; rfl; rfl; apply w_bar; apply w_mvb; rfl; apply w_done0; apply w_ret)
            apply finQb; rfl
            (rw [numRight, if_neg h, Bool.eq_iff_iff]; simp only [decide_eq_true_eq]; omega)
          · (apply w_lss; rfl; rfl; apply w_mvb; rfl; refine w_gdT rfl (by omega) ?_; apply w_gT; rfl; apply w_fld; rfl; apply w_gT; rfl; apply w_ld; rfl; exact hc_i 0 rfl rfl; apply w_gT; rfl; apply w_remT; rfl; rfl; omega; apply w_gT; rfl; apply w_neq; rfl; rfl; apply w_pickTb; rfl; rfl; apply w_mvb; rfl; refine w_gdT rfl (by omega) ?_; apply w_gT; rfl; apply w_fld; rfl; apply w_gT; rfl; apply w_ld; rfl; exact hc_i 0 rfl rfl; apply w_gT; rfl; apply w_geq; rfl; rfl; apply w_pickTb; rfl; rfl; apply w_mvb; rfl; refine w_gdT rfl (by omega) ?_; apply w_gT; rfl; apply w_fld; rfl; apply w_gT; rfl; apply w_ld; rfl; exact hc_i 0 rfl rfl; apply w_gT; rfl; apply w_leq; rfl; rfl; apply w_pickTb; rfl; rfl; apply w_bar; apply w_mvb; rfl; apply w_done0; apply w_ret)
            apply finQb; rfl
            (rw [numRight, if_neg h, Bool.eq_iff_iff]; simp only [decide_eq_true_eq]; omega)
        · (apply w_lss; rfl; rfl; apply w_mvb; rfl; refine w_gdT rfl (by omega) ?_; apply w_gT; rfl; apply w_fld; rfl; apply w_gT; rfl; apply w_ld; rfl; exact hc_i 0 rfl rfl; apply w_gT; rfl; apply w_remT; rfl; rfl; omega; apply w_gT; rfl; apply w_neq; rfl; rfl; apply w_pickTb; rfl; rfl; apply w_mvb; rfl; refine w_gdT rfl (by omega) ?_; apply w_gT; rfl; apply w_fld; rfl; apply w_gT; rfl; apply w_ld; rfl; exact hc_i 0 rfl rfl; apply w_gT; rfl; apply w_geq; rfl; rfl; apply w_pickTb; rfl; rfl; apply w_mvb; rfl; refine w_gdF rfl (by omega) ?_; apply w_gF; rfl; apply w_gF; rfl; apply w_gF; rfl; apply w_pickFb; rfl; rfl; apply w_bar; apply w_mvb; rfl; apply w_done0; apply w_ret)
          apply finQb; rfl
          (rw [numRight, if_neg h, Bool.eq_iff_iff]; simp only [Bool.false_eq_true, decide_eq_true_eq, false_iff]; omega)
      · (apply w_lss; rfl; rfl; apply w_mvb; rfl; refine w_gdT rfl (by omega) ?_; apply w_gT; rfl; apply w_fld; rfl; apply w_gT; rfl; apply w_ld; rfl; exact hc_i 0 rfl rfl; apply w_gT; rfl; apply w_remT; rfl; rfl; omega; apply w_gT; rfl; apply w_neq; rfl; rfl; apply w_pickTb; rfl; rfl; apply w_mvb; rfl; refine w_gdF rfl (by omega) ?_; apply w_gF; rfl; apply w_gF; rfl; apply w_gF; rfl; apply w_pickFb; rfl; rfl; apply w_mvb; rfl; apply w_gF; rfl; apply w_gF; rfl; apply w_gF; rfl; apply w_pickFb; rfl; rfl; apply w_bar; apply w_mvb; rfl; apply w_done0; apply w_ret)
        apply finQb; rfl
        (rw [numRight, if_neg h, Bool.eq_iff_iff]; simp only [Bool.false_eq_true, decide_eq_true_eq, false_iff]; omega)
    · (apply w_lss; rfl; rfl; apply w_mvb; rfl; refine w_gdF rfl (by omega) ?_; apply w_gF; rfl; apply w_gF; rfl; apply w_gF; rfl; apply w_gF; rfl; apply w_pickFb; rfl; rfl; apply w_mvb; rfl; apply w_gF; rfl; apply w_gF; rfl; apply w_gF; rfl; apply w_pickFb; rfl; rfl; apply w_mvb; rfl; apply w_gF; rfl; apply w_gF; rfl; apply w_gF; rfl; apply w_pickFb; rfl; rfl; apply w_bar; apply w_mvb; rfl; apply w_done0; apply w_ret)
      apply finQb; rfl
      (rw [numRight, if_neg h, Bool.eq_iff_iff]; simp only [Bool.false_eq_true, decide_eq_true_eq, false_iff]; omega)
def QuoteOk (T : PHeap → Prop) (P : Program) (f : FuncId) : Prop := ∀ {d : PHeap} {l : List UInt8}, T d → l.length ≤ 140737488355328 → GPure P f [strV l] d (.bool (u8 l))
def g_quote_Right (f_unicode_utf8_ValidString : Nat) : GFun :=
 ⟨5, [(.tmp 2)],
 (.seq
 (.reg false (.op false ⟨(some 2), none, (.mv (.const (.bool false)))⟩ .done))
 (.seq
 (.reg false (.op false ⟨(some 3), none, (.mv (.tmp 0))⟩
  (.op false ⟨(some 4), none, (.call f_unicode_utf8_ValidString [(.tmp 3)])⟩
  (.op false ⟨(some 2), none, (.mv (.tmp 4))⟩ .done)))) .ret))⟩

theorem quote_ok {T : PHeap → Prop} {P : Program} {f f1 : FuncId} (hd : dec P f = some (g_quote_Right f1)) (h1 : VsOk T P f1) : QuoteOk T P f := by
  intro d l ht hl
  refine GPure.of' hd (Nat.le_of_ble_eq_true rfl) ?_
  show gwp P _ _ _ _ _
  (apply w_sq; apply w_reg; apply w_mvb; rfl; apply w_done0; apply w_sq; apply w_reg; apply w_mvt; rfl)
  refine w_pure rfl (h1 ht hl) ?_
  (apply w_mvb; rfl; apply w_done0; apply w_ret)
  exact finQ rfl
theorem getD_at {ks : List (List UInt8)} {i : Nat} (h : i < ks.length) : ks.getD i [] = ks[i] := by simp [h]
theorem rise1_z {ks : List (List UInt8)} (h : 0 < ks.length) : rise1 ks 0 = u8 ks[0] := by
  rw [rise1, getD_at h]; simp
theorem rise1_s {ks : List (List UInt8)} {j : Nat} (h : j + 1 < ks.length) : rise1 ks (j + 1) = (u8 ks[j + 1] && Op.bytesLess ks[j] ks[j + 1]) := by
  rw [rise1, getD_at h, Nat.add_sub_cancel, getD_at (show j < ks.length by omega)]; simp
theorem rise1_u {ks : List (List UInt8)} {i : Nat} (h : i < ks.length) (hu : u8 ks[i] = false) : rise1 ks i = false := by
  rw [rise1, getD_at h, hu]; rfl
def RisingOk (T : PHeap → Prop) (P : Program) (f : FuncId) : Prop := ∀ {d : PHeap} {v : Value} {ks : List (List UInt8)}, T d → RStrs d v ks → GPure P f [v] d (.bool (rising ks))
def g_value_rising (f_quote_Right : Nat) : GFun :=
 ⟨29, [(.tmp 2)],
 (.seq
 (.reg false (.op false ⟨(some 2), none, (.mv (.const (.bool false)))⟩ .done))
 (.seq (.seq
 (.reg false (.op false ⟨(some 5), none, (.mv (.tmp 0))⟩
  (.op false ⟨(some 6), none, (.len (.tmp 5))⟩
  (.op false ⟨(some 7), none, (.mv (.const (.int .i64 0)))⟩ .done)))) (.block 0 (.loop
 (.seq
 (.reg false (.op false ⟨(some 8), none, (.bin .lss (.tmp 7) (.tmp 6))⟩ .done))
 (.seq (.cond (.tmp 8) .skip (.exit 0))
 (.seq (.block 1
 (.seq
 (.reg false (.op false ⟨(some 9), none, (.mv (.tmp 7))⟩
  (.op false ⟨(some 10), none, (.idx 1 (.tmp 5) (.tmp 7))⟩
  (.op false ⟨(some 11), none, (.ld none (.tmp 10))⟩
  (.op false ⟨(some 3), none, (.mv (.tmp 9))⟩
  (.op false ⟨(some 4), none, (.mv (.tmp 11))⟩ .done))))))
 (.seq
 (.reg false (.op false ⟨(some 12), none, (.mv (.tmp 4))⟩
  (.op false ⟨(some 13), none, (.call f_quote_Right [(.tmp 12)])⟩
  (.op false ⟨(some 14), none, (.un .not (.tmp 13))⟩
  (.op false ⟨(some 15), none, (.mv (.tmp 14))⟩
  (.op false ⟨(some 16), (some (15, false)), (.mv (.tmp 3))⟩
  (.op false ⟨(some 17), (some (15, false)), (.bin .gtr (.tmp 16) (.const (.int .i64 0)))⟩
  (.op false ⟨(some 18), (some (15, false)), (.mv (.tmp 17))⟩
  (.op false ⟨(some 19), (some (18, true)), (.mv (.tmp 0))⟩
  (.op false ⟨(some 20), (some (18, true)), (.mv (.tmp 3))⟩
  (.op false ⟨(some 21), (some (18, true)), (.bin .sub (.tmp 20) (.const (.int .i64 1)))⟩
  (.op false ⟨(some 22), (some (18, true)), (.idx 1 (.tmp 19) (.tmp 21))⟩
  (.op false ⟨(some 23), (some (18, true)), (.ld none (.tmp 22))⟩
  (.op false ⟨(some 24), (some (18, true)), (.mv (.tmp 4))⟩
  (.op false ⟨(some 25), (some (18, true)), (.bin .geq (.tmp 23) (.tmp 24))⟩
  (.op false ⟨(some 26), (some (15, false)), (.pick (.tmp 18) (.tmp 25) (.const (.bool false)))⟩
  (.op false ⟨(some 27), none, (.pick (.tmp 15) (.const (.bool true)) (.tmp 26))⟩ .done))))))))))))))))) (.cond (.tmp 27)
 (.seq
 (.reg false (.op false ⟨(some 2), none, (.mv (.const (.bool false)))⟩ .done)) .ret) .skip))))
 (.reg false (.op false ⟨(some 28), none, (.bin .add (.tmp 7) (.const (.int .i64 1)))⟩
  (.op false ⟨(some 7), none, (.mv (.tmp 28))⟩ .done)))))))))
 (.seq
 (.reg false (.op false ⟨(some 2), none, (.mv (.const (.bool true)))⟩ .done)) .ret)))⟩

theorem rising_ok {T : PHeap → Prop} {P : Program} {f f1 : FuncId} (hd : dec P f = some (g_value_rising f1)) (h1 : QuoteOk T P f1) : RisingOk T P f := by
  intro d v ks ht hv
  have hll := RSl.len_le hv
  have hsl : ∀ i (h : i < ks.length), ks[i].length ≤ 140737488355328 := fun i h => by
    obtain ⟨_, _, _, _, _, _, _, _, _, _, _, h8⟩ := hv
    obtain ⟨cs, _, _, _, h9⟩ := h8 i h
    exact h9
  have hv' : RSl 1 RStr d v ks := hv
  obtain ⟨a, c, rfl⟩ := RSl.val hv
  refine GPure.of' hd (Nat.le_of_ble_eq_true rfl) ?_
  show gwp P _ _ _ _ _
  (apply w_sq; apply w_reg; apply w_mvb; rfl; apply w_done0; apply w_sq; apply w_sq; apply w_reg; apply w_mvs; rfl; apply w_len; rfl; apply w_mvi; rfl; apply w_done0; apply w_block)
  refine w_loopN (α := Nat) (fun i => [(0, .slice a ks.length c), (5, .slice a ks.length c), (6, .int .i64 ks.length), (7, .int .i64 i)]) (fun _ => []) (fun i => i ≤ ks.length ∧ riseN ks i = true) (fun i => ks.length - i) 0 ⟨rfl, rfl, rfl, rfl, trivial⟩ rfl ⟨Nat.zero_le _, rfl⟩ ?_
  rintro i ρ ⟨hi, hr⟩
  by_cases hc : i < ks.length
  · have e0 : ks.getD i [] = ks[i] := by simp [hc]
    (apply w_sq; apply w_reg; apply w_lss; rfl; rfl; apply w_done0; apply w_sq; refine w_ifdT rfl (by omega) ?_; apply w_skip; apply w_sq; apply w_block; apply w_sq; apply w_reg; apply w_mvi; rfl; refine w_idxR (sz := 1) (R := RStr) (by rfl) (by assumption) (by rfl) rfl (by omega) ?_; rintro _ _ _ _ _ ⟨rfl, _⟩; apply w_ld; rfl; exact hc_ds0 (by assumption) rfl; apply w_mvi; rfl; apply w_mvt; rfl; apply w_done0; apply w_sq; apply w_reg; apply w_mvt; rfl)
    refine w_pure rfl (h1 ht (hsl i hc)) ?_
    cases hu : u8 ks[i] with
    | false =>
      (apply w_not; rfl; apply w_mvb; rfl; apply w_gF; rfl; apply w_gF; rfl; apply w_gF; rfl; apply w_gU; rfl; apply w_gU; rfl; apply w_gU; rfl; apply w_gU; rfl; apply w_gU; rfl; apply w_gU; rfl; apply w_gU; rfl; apply w_gF; rfl; apply w_pickTb; rfl; rfl; apply w_done0; apply w_ifT; rfl; apply w_sq; apply w_reg; apply w_mvb; rfl; apply w_done0; apply w_ret)
      apply finQb; rfl
      exact (riseN_false (rise1_u hc hu) hc).symm
    | true =>
      by_cases hi0 : i = 0
      · subst hi0
        (apply w_not; rfl; apply w_mvb; rfl; apply w_gT; rfl; apply w_mvi; rfl; apply w_gT; rfl; apply w_gtr; rfl; rfl; apply w_gT; rfl; apply w_mvb; rfl; refine w_gdF rfl (by omega) ?_; apply w_gF; rfl; apply w_gF; rfl; apply w_gF; rfl; apply w_gF; rfl; apply w_gF; rfl; apply w_gF; rfl; apply w_gF; rfl; apply w_gT; rfl; apply w_pickFb; rfl; rfl; apply w_pickFb; rfl; rfl; apply w_done0; apply w_ifF; rfl; apply w_skip; apply w_reg; apply w_add; rfl; rfl; omega; omega; apply w_mvi; rfl; apply w_done0)
        exact ⟨1, by omega, ⟨rfl, rfl, rfl, rfl, trivial⟩, rfl, rfl, by omega, by rw [riseN, rise1_z hc, hu]; rfl⟩
      · obtain ⟨j, rfl⟩ : ∃ j, i = j + 1 := ⟨i - 1, by omega⟩
        have e1 : ks.getD j [] = ks[j] := by simp [show j < ks.length by omega]
        (apply w_not; rfl; apply w_mvb; rfl; apply w_gT; rfl; apply w_mvi; rfl; apply w_gT; rfl; apply w_gtr; rfl; rfl; apply w_gT; rfl; apply w_mvb; rfl; refine w_gdT rfl (by omega) ?_; apply w_gT; rfl; apply w_mvs; rfl; apply w_gT; rfl; apply w_mvi; rfl; apply w_gT; rfl; apply w_sub; rfl; rfl; omega; omega; apply w_gT; rfl)
        refine w_idxR (sz := 1) (R := RStr) (m := j) (by rfl) hv' (by rfl) (by omega) (by omega) ?_; rintro _ _ _ _ _ ⟨rfl, _⟩
        cases hb : Op.bytesLess ks[j] ks[j + 1] with
        | false =>
          have hb' : (!Op.bytesLess ks[j] ks[j + 1]) = true := by rw [hb]; rfl
          (apply w_gT; rfl; apply w_ld; rfl; exact hc_ds0 (by assumption) rfl; apply w_gT; rfl; apply w_mvt; rfl; apply w_gT; rfl; apply w_sge; rfl; rfl; apply w_gT; rfl; apply w_pickTb; rfl; rfl; apply w_pickFb; rfl; rfl; apply w_done0; apply w_ifbT; rfl; (with_reducible assumption); apply w_sq; apply w_reg; apply w_mvb; rfl; apply w_done0; apply w_ret)
          apply finQb; rfl
          exact (riseN_false (by rw [rise1_s hc, hb, Bool.and_false]) hc).symm
        | true =>
          have hb' : (!Op.bytesLess ks[j] ks[j + 1]) = false := by rw [hb]; rfl
          (apply w_gT; rfl; apply w_ld; rfl; exact hc_ds0 (by assumption) rfl; apply w_gT; rfl; apply w_mvt; rfl; apply w_gT; rfl; apply w_sge; rfl; rfl; apply w_gT; rfl; apply w_pickTb; rfl; rfl; apply w_pickFb; rfl; rfl; apply w_done0; apply w_ifbF; rfl; (with_reducible assumption); apply w_skip; apply w_reg; apply w_add; rfl; rfl; omega; omega; apply w_mvi; rfl; apply w_done0)
          exact ⟨j + 2, by omega, ⟨rfl, rfl, rfl, int_eq (by omega), trivial⟩, rfl, rfl, by omega, by rw [riseN, hr, rise1_s hc, hu, hb]; rfl⟩
  · obtain rfl : i = ks.length := by omega
    (apply w_sq; apply w_reg; apply w_lss; rfl; rfl; apply w_done0; apply w_sq; refine w_ifdF rfl (by omega) ?_; apply w_exit; apply w_sq; apply w_reg; apply w_mvb; rfl; apply w_done0; apply w_ret)
    apply finQb; rfl
    exact hr.symm

def MayOk (T : PHeap → Prop) (P : Program) (f : FuncId) : Prop := ∀ (v : V) {d : PHeap} {cs : List Value}, T d → RVal d cs v → GPure P f [.agg cs.toArray] d (.bool (mayV v))
def g_value_may (f_value_bare f_num_Right f_quote_Right f_value_rising f_value_every_api_Value f_value_may : Nat) : GFun :=
 ⟨41, [(.tmp 2)],
 (.seq
 (.reg false (.op false ⟨(some 1), none, (.box (.tmp 0))⟩
  (.op false ⟨(some 2), none, (.mv (.const (.bool false)))⟩ .done)))
 (.seq (.seq
 (.reg false (.op false ⟨(some 3), none, (.ld (some 6) (.tmp 1))⟩
  (.op false ⟨(some 4), none, (.call f_value_bare [(.tmp 3)])⟩
  (.op false ⟨(some 5), none, (.un .not (.tmp 4))⟩
  (.op false ⟨(some 6), none, (.mv (.tmp 5))⟩
  (.op false ⟨(some 7), (some (6, false)), (.fld 1 (.tmp 1))⟩
  (.op false ⟨(some 8), (some (6, false)), (.ld (some 2) (.tmp 7))⟩
  (.op false ⟨(some 9), (some (6, false)), (.call f_num_Right [(.tmp 8)])⟩
  (.op false ⟨(some 10), (some (6, false)), (.un .not (.tmp 9))⟩
  (.op false ⟨(some 11), none, (.pick (.tmp 6) (.const (.bool true)) (.tmp 10))⟩
  (.op false ⟨(some 12), none, (.mv (.tmp 11))⟩
  (.op false ⟨(some 13), (some (12, false)), (.fld 3 (.tmp 1))⟩
  (.op false ⟨(some 14), (some (12, false)), (.ld none (.tmp 13))⟩
  (.op false ⟨(some 15), (some (12, false)), (.call f_quote_Right [(.tmp 14)])⟩
  (.op false ⟨(some 16), (some (12, false)), (.un .not (.tmp 15))⟩
  (.op false ⟨(some 17), none, (.pick (.tmp 12) (.const (.bool true)) (.tmp 16))⟩
  (.op false ⟨(some 18), none, (.mv (.tmp 17))⟩
  (.op false ⟨(some 19), (some (18, false)), (.fld 5 (.tmp 1))⟩
  (.op false ⟨(some 20), (some (18, false)), (.ld none (.tmp 19))⟩
  (.op false ⟨(some 21), (some (18, false)), (.call f_value_rising [(.tmp 20)])⟩
  (.op false ⟨(some 22), (some (18, false)), (.un .not (.tmp 21))⟩
  (.op false ⟨(some 23), none, (.pick (.tmp 18) (.const (.bool true)) (.tmp 22))⟩ .done)))))))))))))))))))))) (.cond (.tmp 23)
 (.seq
 (.reg false (.op false ⟨(some 2), none, (.mv (.const (.bool false)))⟩ .done)) .ret) .skip))
 (.seq
 (.reg false (.op false ⟨(some 24), none, (.fld 0 (.tmp 1))⟩
  (.op false ⟨(some 25), none, (.ld none (.tmp 24))⟩
  (.op false ⟨(some 26), none, (.bin .neq (.tmp 25) (.const (.int .i64 6)))⟩
  (.op false ⟨(some 27), none, (.mv (.tmp 26))⟩
  (.op false ⟨(some 28), (some (27, false)), (.fld 5 (.tmp 1))⟩
  (.op false ⟨(some 29), (some (27, false)), (.ld none (.tmp 28))⟩
  (.op false ⟨(some 30), (some (27, false)), (.len (.tmp 29))⟩
  (.op false ⟨(some 31), (some (27, false)), (.fld 4 (.tmp 1))⟩
  (.op false ⟨(some 32), (some (27, false)), (.ld none (.tmp 31))⟩
  (.op false ⟨(some 33), (some (27, false)), (.len (.tmp 32))⟩
  (.op false ⟨(some 34), (some (27, false)), (.bin .eql (.tmp 30) (.tmp 33))⟩
  (.op false ⟨(some 35), none, (.pick (.tmp 27) (.const (.bool true)) (.tmp 34))⟩
  (.op false ⟨(some 36), none, (.mv (.tmp 35))⟩
  (.op false ⟨(some 37), (some (36, true)), (.fld 4 (.tmp 1))⟩
  (.op false ⟨(some 38), (some (36, true)), (.ld none (.tmp 37))⟩
  (.op false ⟨(some 39), (some (36, true)), (.call f_value_every_api_Value [(.tmp 38), (.func f_value_may)])⟩
  (.op false ⟨(some 40), none, (.pick (.tmp 36) (.tmp 39) (.const (.bool false)))⟩
  (.op false ⟨(some 2), none, (.mv (.tmp 40))⟩ .done))))))))))))))))))) .ret)))⟩

theorem may_ok {T : PHeap → Prop} {P : Program} {f f1 f2 f3 f4 f5 : FuncId} (hd : dec P f = some (g_value_may f1 f2 f3 f4 f5 f)) (h1 : BareOk P f1) (h2 : NumOk T P f2) (h3 : QuoteOk T P f3) (h4 : RisingOk T P f4) (h5 : EveryOk P f5) : MayOk T P f := by
  intro v
  induction v using V.ind with
  | h v ih =>
  intro d cs ht hv
  refine GPure.of' hd (Nat.le_of_ble_eq_true rfl) ?_
  have hv' := hv
  obtain ⟨lv, kv, rfl, ik, im, ie, it, hl, hks⟩ := hv'.open
  obtain ⟨la, lc, rfl⟩ := RSl.val hl
  obtain ⟨ka, kc, rfl⟩ := RSl.val hks
  have e0 := mayV_eq v
  show gwp P _ _ _ _ _
  apply w_sq; apply w_reg
  refine w_boxa (l := [.int .i64 v.kind, .int .i64 v.m, .int .i64 v.e, strV v.text, .slice la v.list.length lc, .slice ka v.keys.length kc]) rfl (fun b1 T1 => ?_)
  (apply w_mvb; rfl; apply w_done0; apply w_sq; apply w_sq; apply w_reg; apply w_ldb 0; rfl; rfl; rfl)
  refine w_pure rfl (h1 hv) ?_
  cases hb : bareB v with
  | false =>
    (apply w_not; rfl; apply w_mvb; rfl; apply w_gF; rfl; apply w_gF; rfl; apply w_gF; rfl; apply w_gF; rfl; apply w_pickTb; rfl; rfl; apply w_mvb; rfl; apply w_gF; rfl; apply w_gF; rfl; apply w_gF; rfl; apply w_gF; rfl; apply w_pickTb; rfl; rfl; apply w_mvb; rfl; apply w_gF; rfl; apply w_gF; rfl; apply w_gF; rfl; apply w_gF; rfl; apply w_pickTb; rfl; rfl; apply w_done0; apply w_ifT; rfl; apply w_sq; apply w_reg; apply w_mvb; rfl; apply w_done0; apply w_ret)
    apply finQb; rfl
    rw [e0]; simp [oneB, hb]
  | true =>
  (apply w_not; rfl; apply w_mvb; rfl; apply w_gT; rfl; apply w_fld; rfl; apply w_gT; rfl; apply w_ldp 0; rfl; rfl; rfl; apply w_gT; rfl)
  refine w_pure rfl (h2 ht im ie) ?_
  cases hn : numRight v.m v.e with
  | false =>
    (apply w_gT; rfl; apply w_not; rfl; apply w_pickFb; rfl; rfl; apply w_mvb; rfl; apply w_gF; rfl; apply w_gF; rfl; apply w_gF; rfl; apply w_gF; rfl; apply w_pickTb; rfl; rfl; apply w_mvb; rfl; apply w_gF; rfl; apply w_gF; rfl; apply w_gF; rfl; apply w_gF; rfl; apply w_pickTb; rfl; rfl; apply w_done0; apply w_ifT; rfl; apply w_sq; apply w_reg; apply w_mvb; rfl; apply w_done0; apply w_ret)
    apply finQb; rfl
    rw [e0]; simp [oneB, hn]
  | true =>
  (apply w_gT; rfl; apply w_not; rfl; apply w_pickFb; rfl; rfl; apply w_mvb; rfl; apply w_gT; rfl; apply w_fld; rfl; apply w_gT; rfl; apply w_ld; rfl; exact hc_i 0 rfl rfl; apply w_gT; rfl)
  refine w_pure rfl (h3 ht it) ?_
  cases hu : u8 v.text with
  | false =>
    (apply w_gT; rfl; apply w_not; rfl; apply w_pickFb; rfl; rfl; apply w_mvb; rfl; apply w_gF; rfl; apply w_gF; rfl; apply w_gF; rfl; apply w_gF; rfl; apply w_pickTb; rfl; rfl; apply w_done0; apply w_ifT; rfl; apply w_sq; apply w_reg; apply w_mvb; rfl; apply w_done0; apply w_ret)
    apply finQb; rfl
    rw [e0]; simp [oneB, hu]
  | true =>
  (apply w_gT; rfl; apply w_not; rfl; apply w_pickFb; rfl; rfl; apply w_mvb; rfl; apply w_gT; rfl; apply w_fld; rfl; apply w_gT; rfl; apply w_ld; rfl; exact hc_i 0 rfl rfl; apply w_gT; rfl)
  refine w_pure rfl (h4 ht hks) ?_
  cases hr : rising v.keys with
  | false =>
    (apply w_gT; rfl; apply w_not; rfl; apply w_pickFb; rfl; rfl; apply w_done0; apply w_ifT; rfl; apply w_sq; apply w_reg; apply w_mvb; rfl; apply w_done0; apply w_ret)
    apply finQb; rfl
    rw [e0]; simp [oneB, hr]
  | true =>
  by_cases h6 : v.kind ≠ 6 ∨ v.keys.length = v.list.length
  · have e1 : oneB v = true := by
      simp only [oneB, hb, hn, hu, hr, Bool.true_and, Bool.or_eq_true, decide_eq_true_eq]; exact h6
    by_cases h7 : v.kind ≠ 6
    · (apply w_gT; rfl; apply w_not; rfl; apply w_pickFb; rfl; rfl; apply w_done0; apply w_ifF; rfl; apply w_skip; apply w_sq; apply w_reg; apply w_fld; rfl; apply w_ld; rfl; exact hc_i 0 rfl rfl; apply w_neq; rfl; rfl; apply w_mvb; rfl; refine w_gdT rfl (by omega) ?_; apply w_gF; rfl; apply w_gF; rfl; apply w_gF; rfl; apply w_gF; rfl; apply w_gF; rfl; apply w_gF; rfl; apply w_gF; rfl; apply w_pickTb; rfl; rfl; apply w_mvb; rfl; apply w_gT; rfl; apply w_fld; rfl; apply w_gT; rfl; apply w_ld; rfl; exact hc_i 0 rfl rfl; apply w_gT; rfl)
      refine w_pure rfl (h5 (g := f) (cap := []) (p := mayV) hl (fun x hx cs hcs => ih x hx ht hcs)) ?_
      (apply w_pickTb; rfl; rfl; apply w_mvb; rfl; apply w_done0; apply w_ret)
      apply finQb; rfl
      rw [e0, e1]; rfl
    · have h8 : v.keys.length = v.list.length := by rcases h6 with h | h
                                                    · exact absurd h h7
                                                    · exact h
      have h8' : (v.keys.length : Int) = v.list.length := by omega
      (apply w_gT; rfl; apply w_not; rfl; apply w_pickFb; rfl; rfl; apply w_done0; apply w_ifF; rfl; apply w_skip; apply w_sq; apply w_reg; apply w_fld; rfl; apply w_ld; rfl; exact hc_i 0 rfl rfl; apply w_neq; rfl; rfl; apply w_mvb; rfl; refine w_gdF rfl (by omega) ?_; apply w_gT; rfl; apply w_fld; rfl; apply w_gT; rfl; apply w_ld; rfl; exact hc_i 0 rfl rfl; apply w_gT; rfl; apply w_len; rfl; apply w_gT; rfl; apply w_fld; rfl; apply w_gT; rfl; apply w_ld; rfl; exact hc_i 0 rfl rfl; apply w_gT; rfl; apply w_len; rfl; apply w_gT; rfl; apply w_eql; rfl; rfl; apply w_pickFb; rfl; rfl; apply w_mvb; rfl; refine w_gdT rfl (by omega) ?_; apply w_gT; rfl; apply w_fld; rfl; apply w_gT; rfl; apply w_ld; rfl; exact hc_i 0 rfl rfl; apply w_gT; rfl)
      refine w_pure rfl (h5 (g := f) (cap := []) (p := mayV) hl (fun x hx cs hcs => ih x hx ht hcs)) ?_
      (apply w_pickTb; rfl; rfl; apply w_mvb; rfl; apply w_done0; apply w_ret)
      apply finQb; rfl
      rw [e0, e1]; rfl
  · have h7 : ¬ v.kind ≠ 6 := fun h => h6 (.inl h)
    have h8' : ¬ (v.keys.length : Int) = v.list.length := fun h => h6 (.inr (by omega))
    (apply w_gT; rfl; apply w_not; rfl; apply w_pickFb; rfl; rfl; apply w_done0; apply w_ifF; rfl; apply w_skip; apply w_sq; apply w_reg; apply w_fld; rfl; apply w_ld; rfl; exact hc_i 0 rfl rfl; apply w_neq; rfl; rfl; apply w_mvb; rfl; refine w_gdF rfl (by omega) ?_; apply w_gT; rfl; apply w_fld; rfl; apply w_gT; rfl; apply w_ld; rfl; exact hc_i 0 rfl rfl; apply w_gT; rfl; apply w_len; rfl; apply w_gT; rfl; apply w_fld; rfl; apply w_gT; rfl; apply w_ld; rfl; exact hc_i 0 rfl rfl; apply w_gT; rfl; apply w_len; rfl; apply w_gT; rfl; apply w_eql; rfl; rfl; apply w_pickFb; rfl; rfl; apply w_mvb; rfl; refine w_gdF rfl (by omega) ?_; apply w_gF; rfl; apply w_gF; rfl; apply w_gF; rfl; apply w_pickFb; rfl; rfl; apply w_mvb; rfl; apply w_done0; apply w_ret)
    apply finQb; rfl
    have h9 : v.keys.length ≠ v.list.length := fun h => h6 (.inr h)
    have h10 : v.kind = 6 := by omega
    rw [e0]; simp [oneB, h9, h10]

def RightOk (T : PHeap → Prop) (P : Program) (f : FuncId) : Prop := ∀ {d : PHeap} {cs : List Value} {v : V}, T d → RVal d cs v → GPure P f [.agg cs.toArray] d (.int .i64 (rightV v))
def g_value_Right (f_value_shallow f_value_may : Nat) : GFun :=
 ⟨11, [(.tmp 2)],
 (.seq
 (.reg false (.op false ⟨(some 1), none, (.box (.tmp 0))⟩
  (.op false ⟨(some 2), none, (.mv (.const (.int .i64 0)))⟩ .done)))
 (.seq (.block 0
 (.seq
 (.reg false (.op false ⟨(some 4), none, (.ld (some 6) (.tmp 1))⟩
  (.op false ⟨(some 5), none, (.call f_value_shallow [(.tmp 4), (.const (.int .i64 48))])⟩
  (.op false ⟨(some 6), none, (.un .not (.tmp 5))⟩
  (.op false ⟨(some 3), none, (.mv (.tmp 6))⟩ .done))))) (.cond (.tmp 3)
 (.seq
 (.reg false (.op false ⟨(some 2), none, (.mv (.const (.int .i64 31)))⟩ .done)) .ret)
 (.seq
 (.reg false (.op false ⟨(some 8), none, (.ld (some 6) (.tmp 1))⟩
  (.op false ⟨(some 9), none, (.call f_value_may [(.tmp 8)])⟩
  (.op false ⟨(some 10), none, (.un .not (.tmp 9))⟩
  (.op false ⟨(some 7), none, (.mv (.tmp 10))⟩ .done))))) (.cond (.tmp 7)
 (.seq
 (.reg false (.op false ⟨(some 2), none, (.mv (.const (.int .i64 30)))⟩ .done)) .ret) .skip)))))
 (.seq
 (.reg false (.op false ⟨(some 2), none, (.mv (.const (.int .i64 0)))⟩ .done)) .ret)))⟩

theorem right_ok {T : PHeap → Prop} {P : Program} {f f1 f2 : FuncId} (hd : dec P f = some (g_value_Right f1 f2)) (h1 : ShallowOk P f1) (h2 : MayOk T P f2) : RightOk T P f := by
  intro d cs v ht hv
  refine GPure.of' hd (Nat.le_of_ble_eq_true rfl) ?_
  have hv' := hv
  obtain ⟨lv, kv, rfl, ik, im, ie, it, hl, hks⟩ := hv'.open
  show gwp P _ _ _ _ _
  apply w_sq; apply w_reg
  refine w_boxa (l := [.int .i64 v.kind, .int .i64 v.m, .int .i64 v.e, strV v.text, lv, kv]) rfl (fun b1 T1 => ?_)
  (apply w_mvi; rfl; apply w_done0; apply w_sq; apply w_block; apply w_sq; apply w_reg; apply w_ldb 0; rfl; rfl; rfl)
  refine w_pure rfl (h1 v (k := 48) hv (by omega)) ?_
  by_cases h3 : depthV v ≤ 48
  · rw [decide_eq_true h3]
    (apply w_not; rfl; apply w_mvb; rfl; apply w_done0; apply w_ifF; rfl; apply w_sq; apply w_reg; apply w_ldb 0; rfl; rfl; rfl)
    refine w_pure rfl (h2 v ht hv) ?_
    cases h4 : mayV v with
    | true =>
      (apply w_not; rfl; apply w_mvb; rfl; apply w_done0; apply w_ifF; rfl; apply w_skip; apply w_sq; apply w_reg; apply w_mvi; rfl; apply w_done0; apply w_ret)
      apply finQi; rfl
      simp [rightV, h3, h4]
    | false =>
      (apply w_not; rfl; apply w_mvb; rfl; apply w_done0; apply w_ifT; rfl; apply w_sq; apply w_reg; apply w_mvi; rfl; apply w_done0; apply w_ret)
      apply finQi; rfl
      simp [rightV, h3, h4]
  · rw [decide_eq_false h3]
    (apply w_not; rfl; apply w_mvb; rfl; apply w_done0; apply w_ifT; rfl; apply w_sq; apply w_reg; apply w_mvi; rfl; apply w_done0; apply w_ret)
    apply finQi; rfl
    simp [rightV, h3]
end Go.Gk.Val
end

section
namespace Go.Gk.Val
open Go Go.Gk Go.Proofs Go.RowKit Go.Shelf
theorem vs_ok {T : PHeap → Prop} {P : Program} {ρ : Ren} (L : Lays.n196 P ρ) (hc : Callable P (ρ.f 196)) (hT : ∀ d, T d → UtfT (ρ.g 3) (ρ.g 4) d) : VsOk T P (ρ.f 196) := by
  intro d l ht hl
  refine GPure.of_below hc (fun W hs => ?_)
  have := Any.utf8_ValidString L ⟨l.toArray⟩ W (by show l.toArray.size ≤ _; simp; omega) ((hT d ht).tabs hs)
  exact this
end Go.Gk.Val
end

section
namespace Go.Gk.Val
open Go Go.Gk Go.Proofs Go.RowKit Go.Shelf
def Tab3 (g3 g4 g2 : Nat) (d : PHeap) : Prop := UtfT g3 g4 d ∧ DCs d g2 0 tensV
theorem Tab3.mono {g3 g4 g2 : Nat} {d d' : PHeap} (hl : Le d d') (h : Tab3 g3 g4 g2 d) : Tab3 g3 g4 g2 d' := ⟨h.1.mono hl, h.2.mono hl⟩
def tensZ : List Int := (List.range 20).map fun i => ((10 ^ i : Nat) : Int)
theorem tensZ_eq : tensV = tensZ.map fun z => Value.int .u64 z := rfl
end Go.Gk.Val
namespace Go.Gk.Val
open Go Go.Gk Go.Proofs Go.RowKit Go.Shelf
def Tab4 (g3 g4 g2 g5 : Nat) (d : PHeap) : Prop := Tab3 g3 g4 g2 d ∧ DCs d g5 0 tensV
theorem Tab4.mono {g3 g4 g2 g5 : Nat} {d d' : PHeap} (hl : Le d d') (h : Tab4 g3 g4 g2 g5 d) : Tab4 g3 g4 g2 g5 d' := ⟨h.1.mono hl, h.2.mono hl⟩
end Go.Gk.Val
end

section
namespace Go.Gk
open Go Go.ChangeShapes Go.WideShapes Go.ChangeAt Go.RowKit

section
variable {H : Type} {enc : TypeId × Value → H} {P : Program} {W : World}

def RdAt (enc : TypeId × Value → H) (P : Program) (W : World) (held : Bool) (fuel : Nat) (t : TypeId) {α : Type} (R : PHeap → List Value → α → Prop) : Prop :=
  ∀ (cs : List Value) (x : DataW H × List MemPlace), DataW.trod enc P W 0 (fun _ => true) held fuel t cs = some x → (∀ n ∈ x.1.weights P t, n ≤ reachBytes) → ∃ a : α, R (hw W) cs a
theorem Rd.at {t : TypeId} {α : Type} {R : PHeap → List Value → α → Prop} (h : Rd enc P W t R) {held : Bool} {fuel : Nat} : RdAt enc P W held fuel t R := fun cs x => h held fuel cs x

theorem rdAt_slice {held : Bool} {fuel : Nat} {t e : TypeId} {sz : Nat} {α : Type} {R : PHeap → List Value → α → Prop} (ht : P.underlying t = some (.slice e)) (hc : P.cellsOf e = sz) (hsz : 0 < sz) (hb : 1 ≤ P.bytesOf e) (he : ∀ n, n < fuel → RdAt enc P W held n e R) :
    RdAt enc P W held fuel t (fun d cs (xs : List α) => ∃ v, cs = [v] ∧ RSl sz R d v xs) := by
  subst hc
  intro cs x h hw
  rcases DataW.trod_slice ht h with ⟨rfl, rfl⟩ | ⟨a, len, cap, elems, rest, n, rfl, rfl, rfl, _, hlc, hcm, hlen, hel, hsp, _⟩
  · exact ⟨[], _, rfl, RSl.nil⟩
  · have hwt : (elems.length + rest.length) * P.bytesOf e ≤ reachBytes := hw _ (by simp [DataW.weights, ht])
    obtain ⟨hrl, hre⟩ := hsp rfl
    have hcap : cap ≤ 140737488355328 := by
      have h1 : (elems.length + rest.length) * 1 ≤ (elems.length + rest.length) * P.bytesOf e := Nat.mul_le_mul_left _ hb
      have h2 := reach_le (Nat.le_trans h1 hwt)
      omega
    have one : ∀ i (hi : i < len), ∃ u : α, ∃ cs, cs.length = P.cellsOf e ∧ a.spot = none ∧ DCs (Gk.hw W) a.block (a.off + i * P.cellsOf e) cs ∧ R (Gk.hw W) cs u := by
      intro i hi
      have h1 := hel i hi
      have hi' : i < elems.length := by omega
      rw [List.getElem?_eq_getElem hi', Option.bind_eq_some_iff] at h1
      obtain ⟨cs, h2, h3⟩ := h1
      obtain ⟨k1, k2, k3⟩ := hw_cells h2 hsz
      have hmem : ∀ (l : List (DataW H)) (y : DataW H), y ∈ l → ∀ n ∈ y.weights P e, n ∈ DataW.weightsAll P e l := by
        intro l
        induction l with
        | nil => intro y hy; cases hy
        | cons z l ih =>
          intro y hy n hn
          simp only [DataW.weightsAll, List.mem_append]
          rcases List.mem_cons.1 hy with rfl | hy
          · exact .inl hn
          · exact .inr (ih y hy n hn)
      obtain ⟨u, hu⟩ := he n (by omega) cs elems[i] h3 (fun m hm => hw m (by
        simp only [DataW.weights, ht, List.mem_cons, List.mem_append]
        exact .inr (.inl (hmem _ _ (List.mem_map.2 ⟨elems[i], List.getElem_mem hi', rfl⟩) m hm))))
      have hs : a.spot = none := by
        obtain ⟨b, o, s⟩ := a
        by_cases h0 : i * P.cellsOf e = 0
        · rw [h0, add_zero] at k1; exact k1
        · have := hel 0 (by omega)
          rw [List.getElem?_eq_getElem (by omega), Option.bind_eq_some_iff] at this
          obtain ⟨cs', h2', _⟩ := this
          rw [Nat.zero_mul, add_zero] at h2'
          exact (hw_cells h2' hsz).1
      obtain ⟨b, o, s⟩ := a
      simp only at hs; subst hs
      rw [Addr.add_lit] at k3
      exact ⟨u, cs, k2, rfl, k3, hu⟩
    have hspot : cap ≠ 0 → a.spot = none := by
      intro h0
      by_cases h1 : 0 < len
      · obtain ⟨_, _, _, hs, _⟩ := one 0 h1; exact hs
      · have := hre 0 (by omega)
        have hl0 : len = 0 := by omega
        rw [List.getElem?_eq_getElem (by omega), Option.bind_eq_some_iff] at this
        obtain ⟨cs', h2', _⟩ := this
        rw [hl0, Nat.zero_add, Nat.zero_mul, add_zero] at h2'
        exact (hw_cells h2' hsz).1
    refine ⟨List.ofFn (n := len) fun i => (one i i.isLt).choose, _, rfl, some a, cap, a.block, a.off, ?_, ?_, fun h0 a' ha => ?_, (fun h => nomatch h), ?_, by omega, ?_, ?_⟩
    · simp
    · intro h0
      have h0' : len ≠ 0 := by simpa using h0
      have := hspot (by omega)
      obtain ⟨b, o, s⟩ := a; simp only at this; subst this; rfl
    · cases ha; exact hspot h0
    · simpa using hlc
    · simp; omega
    · intro i hi
      have hi' : i < len := by simpa using hi
      obtain ⟨cs, k1, _, k3, k4⟩ := (one i hi').choose_spec
      exact ⟨cs, k1, k3, by simpa using k4⟩

theorem rdAt_fields {t : TypeId} {fs : Array Field} (ht : P.underlying t = some (.struct fs)) {held : Bool} {fuel : Nat} {cs : List Value} {x : DataW H × List MemPlace} (h : DataW.trod enc P W 0 (fun _ => true) held fuel t cs = some x)
    (hw : ∀ n ∈ x.1.weights P t, n ≤ reachBytes) : cs.length = P.cellsOf t ∧ ∀ (i o ty sz : Nat), (fs[i]?).map (fun f => (f.offset, f.type)) = some (o, ty) → P.cellsOf ty = sz → ∀ {α : Type} {R : PHeap → List Value → α → Prop}, (∀ n, n < fuel → RdAt enc P W held n ty R) →
      ∃ a : α, R (Gk.hw W) ((cs.drop o).take sz) a := by
  obtain ⟨xs, n, rfl, rfl, hl, hxl, hf⟩ := DataW.trod_struct ht h
  refine ⟨hl, fun i o ty sz hi hsz α R hr => ?_⟩
  subst hsz
  rw [Option.map_eq_some_iff] at hi
  obtain ⟨f, hi, e⟩ := hi
  simp only [Prod.mk.injEq] at e
  obtain ⟨rfl, rfl⟩ := e
  have h1 := hf i f hi
  have hi' : i < fs.size := (Array.getElem?_eq_some_iff.1 hi).1
  rw [List.getElem?_eq_getElem (by omega)] at h1
  refine hr n (by omega) _ _ h1 (fun m hm => hw m ?_)
  simp only [DataW.weights, ht]
  refine DataW.weights_mem_each (j := i) (t := f.type) ?_ ?_ m hm
  · rw [List.getElem?_map, Array.getElem?_toList, hi]; rfl
  · rw [List.getElem?_map, List.getElem?_eq_getElem (by omega)]; rfl

end
end Go.Gk
end
