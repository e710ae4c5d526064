/-
  What a row's reading of an argument gives over the world's heap: lists, strings and integers as our predicates say them.
-/
import Derived.Test.YtjbpdhljjhpeeaaGk9
import Derived.Test.YtjbpdhljjhpeeaaGk10
namespace Go.Gk
open Go Go.ChangeShapes Go.WideShapes Go.ChangeAt Go.RowKit

section
variable {H : Type} {enc : TypeId × Value → H} {P : Program} {W : World}

/-- Whatever is read as of type t, within the reach, is as R says. -/
def Rd (enc : TypeId × Value → H) (P : Program) (W : World) (t : TypeId) {α : Type} (R : PHeap → List Value → α → Prop) : Prop :=
  ∀ (held : Bool) (fuel : Nat) (cs : List Value) (x : DataW H × List MemPlace), DataW.trod enc P W 0 (fun _ => true) held fuel t cs = some x → (∀ n ∈ x.1.weights P t, n ≤ reachBytes) → ∃ a : α, R (hw W) cs a

theorem reach_le {n : Nat} (h : n ≤ reachBytes) : n ≤ 140737488355328 := Nat.le_of_lt (Nat.lt_of_le_of_lt h (by decide))

theorem rd_bool {t : TypeId} (ht : P.underlying t = some .bool) : Rd enc P W t (fun _ cs (b : Bool) => cs = [.bool b]) := by
  intro held fuel cs x h _
  obtain ⟨b, h1, h2⟩ := DataW.trod_bool ht h
  exact ⟨b, h1⟩
theorem rd_byte {t : TypeId} (ht : P.underlying t = some (.int .u8)) : Rd enc P W t RByte := by
  intro held fuel cs x h _
  obtain ⟨n, h1, h2, h3⟩ := DataW.trod_int ht h
  have hb := bounds_u8 h3
  refine ⟨UInt8.ofNat n.toNat, ?_⟩
  subst h1
  simp only [RByte, byteV, List.cons.injEq, Value.int.injEq, true_and, and_true]
  have : n.toNat < 256 := by omega
  simp [UInt8.toNat_ofNat, Nat.mod_eq_of_lt this]; omega
theorem rd_int {t : TypeId} (ht : P.underlying t = some (.int .i64)) : Rd enc P W t RInt := by
  intro held fuel cs x h _
  obtain ⟨n, h1, h2, h3⟩ := DataW.trod_int ht h
  have hb := bounds_i64 h3
  exact ⟨n, h1, hb.1, hb.2⟩
theorem rd_str {t : TypeId} (ht : P.underlying t = some .string) : Rd enc P W t RStr := by
  intro held fuel cs x h hw
  obtain ⟨s, h1, h2, h3⟩ := DataW.trod_string ht h
  refine ⟨s.data.toList, ?_, ?_⟩
  · rw [h1]; simp [strV]
  · subst h2
    exact reach_le (hw _ (by simp [DataW.weights]))

theorem hw_cell {a : Addr} {v : Value} (h : W.cell? a = some v) : a.spot = none ∧ DC (hw W) a.block a.off v := by
  refine ⟨spot_none h, ?_⟩
  unfold World.cell? at h
  split at h
  · rename_i c T fr hb
    split at h
    · cases h
    · exact ⟨c, T, fr, hb, h⟩
  · cases h
theorem hw_cells {a : Addr} {n : Nat} {cs : List Value} (h : W.cells? 0 a n = some cs) (hn : 0 < n) : a.spot = none ∧ cs.length = n ∧ DCs (hw W) a.block a.off cs := by
  unfold World.cells? at h
  rw [if_pos (Nat.zero_le _)] at h
  have hl : cs.length = n := by simpa using mapM_some_length h
  have one : ∀ i, i < n → ∀ u, cs[i]? = some u → W.cell? (a.add i) = some u := by
    intro i hi u hu
    have := mapM_some_get h i i (by simp [hi])
    rw [this, hu]
  have hs : a.spot = none := by
    have := one 0 hn cs[0] (List.getElem?_eq_getElem (by omega))
    rw [add_zero] at this
    exact (hw_cell this).1
  obtain ⟨b, o, s⟩ := a
  simp only at hs; subst hs
  have h0 := one 0 hn cs[0] (List.getElem?_eq_getElem (by omega))
  rw [Addr.add_lit] at h0
  obtain ⟨_, c, T, fr, hb, _⟩ := hw_cell h0
  refine ⟨rfl, hl, c, T, fr, hb, fun i u hu => ?_⟩
  have hi : i < n := by have := (List.getElem?_eq_some_iff.1 hu).1; omega
  have := one i hi u hu
  rw [Addr.add_lit] at this
  obtain ⟨_, c', T', fr', hb', hc'⟩ := hw_cell this
  simp only [Gk.hw] at hb hb'
  rw [hb] at hb'; cases hb'
  exact hc'

theorem rd_slice {t e : TypeId} {sz : Nat} {α : Type} {R : PHeap → List Value → α → Prop} (ht : P.underlying t = some (.slice e)) (hc : P.cellsOf e = sz) (hsz : 0 < sz) (hb : 1 ≤ P.bytesOf e) (he : Rd enc P W e R) :
    Rd enc P W t (fun d cs (xs : List α) => ∃ v, cs = [v] ∧ RSl sz R d v xs) := by
  subst hc
  intro held fuel cs x h hw
  rcases DataW.trod_slice ht h with ⟨rfl, rfl⟩ | ⟨a, len, cap, elems, rest, n, rfl, rfl, rfl, _, hlc, hcm, hlen, hel, hsp, _⟩
  · exact ⟨[], _, rfl, RSl.nil⟩
  · have hwt : (elems.length + rest.length) * P.bytesOf e ≤ reachBytes := hw _ (by simp [DataW.weights, ht])
    obtain ⟨hrl, hre⟩ := hsp rfl
    have hcap : cap ≤ 140737488355328 := by
      have h1 : (elems.length + rest.length) * 1 ≤ (elems.length + rest.length) * P.bytesOf e := Nat.mul_le_mul_left _ hb
      have h2 := reach_le (Nat.le_trans h1 hwt)
      omega
    have one : ∀ i (hi : i < len), ∃ u : α, ∃ cs, cs.length = P.cellsOf e ∧ a.spot = none ∧ DCs (Gk.hw W) a.block (a.off + i * P.cellsOf e) cs ∧ R (Gk.hw W) cs u := by
      intro i hi
      have h1 := hel i hi
      have hi' : i < elems.length := by omega
      rw [List.getElem?_eq_getElem hi', Option.bind_eq_some_iff] at h1
      obtain ⟨cs, h2, h3⟩ := h1
      obtain ⟨k1, k2, k3⟩ := hw_cells h2 hsz
      have hmem : ∀ (l : List (DataW H)) (y : DataW H), y ∈ l → ∀ n ∈ y.weights P e, n ∈ DataW.weightsAll P e l := by
        intro l
        induction l with
        | nil => intro y hy; cases hy
        | cons z l ih =>
          intro y hy n hn
          simp only [DataW.weightsAll, List.mem_append]
          rcases List.mem_cons.1 hy with rfl | hy
          · exact .inl hn
          · exact .inr (ih y hy n hn)
      obtain ⟨u, hu⟩ := he held n cs elems[i] h3 (fun m hm => hw m (by
        simp only [DataW.weights, ht, List.mem_cons, List.mem_append]
        exact .inr (.inl (hmem _ _ (List.mem_map.2 ⟨elems[i], List.getElem_mem hi', rfl⟩) m hm))))
      have hs : a.spot = none := by
        obtain ⟨b, o, s⟩ := a
        by_cases h0 : i * P.cellsOf e = 0
        · rw [h0, add_zero] at k1; exact k1
        · have := hel 0 (by omega)
          rw [List.getElem?_eq_getElem (by omega), Option.bind_eq_some_iff] at this
          obtain ⟨cs', h2', _⟩ := this
          rw [Nat.zero_mul, add_zero] at h2'
          exact (hw_cells h2' hsz).1
      obtain ⟨b, o, s⟩ := a
      simp only at hs; subst hs
      rw [Addr.add_lit] at k3
      exact ⟨u, cs, k2, rfl, k3, hu⟩
    have hspot : cap ≠ 0 → a.spot = none := by
      intro h0
      by_cases h1 : 0 < len
      · obtain ⟨_, _, _, hs, _⟩ := one 0 h1; exact hs
      · have := hre 0 (by omega)
        have hl0 : len = 0 := by omega
        rw [List.getElem?_eq_getElem (by omega), Option.bind_eq_some_iff] at this
        obtain ⟨cs', h2', _⟩ := this
        rw [hl0, Nat.zero_add, Nat.zero_mul, add_zero] at h2'
        exact (hw_cells h2' hsz).1
    refine ⟨List.ofFn (n := len) fun i => (one i i.isLt).choose, _, rfl, some a, cap, a.block, a.off, ?_, ?_, fun h0 a' ha => ?_, (fun h => nomatch h), ?_, by omega, ?_, ?_⟩
    · simp
    · intro h0
      have h0' : len ≠ 0 := by simpa using h0
      have := hspot (by omega)
      obtain ⟨b, o, s⟩ := a; simp only at this; subst this; rfl
    · cases ha; exact hspot h0
    · simpa using hlc
    · simp; omega
    · intro i hi
      have hi' : i < len := by simpa using hi
      obtain ⟨cs, k1, _, k3, k4⟩ := (one i hi').choose_spec
      exact ⟨cs, k1, k3, by simpa using k4⟩

theorem rd_fields {t : TypeId} {fs : Array Field} (ht : P.underlying t = some (.struct fs)) {held : Bool} {fuel : Nat} {cs : List Value} {x : DataW H × List MemPlace} (h : DataW.trod enc P W 0 (fun _ => true) held fuel t cs = some x)
    (hw : ∀ n ∈ x.1.weights P t, n ≤ reachBytes) : cs.length = P.cellsOf t ∧ ∀ (i o ty sz : Nat), (fs[i]?).map (fun f => (f.offset, f.type)) = some (o, ty) → P.cellsOf ty = sz → ∀ {α : Type} {R : PHeap → List Value → α → Prop}, Rd enc P W ty R →
      ∃ a : α, R (Gk.hw W) ((cs.drop o).take sz) a := by
  obtain ⟨xs, n, rfl, rfl, hl, hxl, hf⟩ := DataW.trod_struct ht h
  refine ⟨hl, fun i o ty sz hi hsz α R hr => ?_⟩
  subst hsz
  rw [Option.map_eq_some_iff] at hi
  obtain ⟨f, hi, e⟩ := hi
  simp only [Prod.mk.injEq] at e
  obtain ⟨rfl, rfl⟩ := e
  have h1 := hf i f hi
  have hi' : i < fs.size := (Array.getElem?_eq_some_iff.1 hi).1
  rw [List.getElem?_eq_getElem (by omega)] at h1
  refine hr held n _ _ h1 (fun m hm => hw m ?_)
  simp only [DataW.weights, ht]
  refine DataW.weights_mem_each (j := i) (t := f.type) ?_ ?_ m hm
  · rw [List.getElem?_map, Array.getElem?_toList, hi]; rfl
  · rw [List.getElem?_map, List.getElem?_eq_getElem (by omega)]; rfl

/-- The j-th argument's weights are within the reach. -/
theorem arg_weights {ts : List TypeId} {ds : List (DataW H)} (h : (DataW.weightsEach P ts ds).all (· ≤ reachBytes) = true) {j : Nat} {t : TypeId} {d : DataW H} (ht : ts[j]? = some t) (hd : ds[j]? = some d) : ∀ n ∈ d.weights P t, n ≤ reachBytes := by
  intro n hn
  simpa using List.all_eq_true.1 h _ (DataW.weights_mem_each ht hd n hn)
theorem rd_arg {t : TypeId} {α : Type} {R : PHeap → List Value → α → Prop} (hr : Rd enc P W t R) {v : Value} {d : DataW H} {ps : List MemPlace} (h : DataW.Trod enc P W 0 (fun _ => true) true t v d ps)
    (hw : ∀ n ∈ d.weights P t, n ≤ reachBytes) : ∃ a : α, R (Gk.hw W) v.cells.toList a := by
  obtain ⟨fuel, hf⟩ := h
  exact hr true fuel _ _ hf hw
/-! ### arguments as such values -/
theorem arg_slice {base : Nat} {r : Reach} {t e : TypeId} {sz : Nat} {α : Type} {R : PHeap → List Value → α → Prop} (ht : P.underlying t = some (.slice e)) (hc : P.cellsOf e = sz) (hsz : 0 < sz) (hb : 1 ≤ P.bytesOf e) (he : Rd enc P W e R)
    {v : Value} {d : DataW H} {ps : List MemPlace} (hok : Value.okWide P W r base t v) (h : DataW.Trod enc P W 0 (fun _ => true) true t v d ps) (hw : ∀ n ∈ d.weights P t, n ≤ reachBytes) : ∃ xs : List α, RSl sz R (Gk.hw W) v xs := by
  obtain ⟨a, len, cap, rfl⟩ := okWide_slice ht hok
  obtain ⟨xs, v', e1, h2⟩ := rd_arg (rd_slice ht hc hsz hb he) h hw
  have e1 : [Value.slice a len cap] = [v'] := e1
  cases e1
  exact ⟨xs, h2⟩
theorem arg_struct {base : Nat} {r : Reach} {t : TypeId} {fs : Array Field} {α : Type} {R : PHeap → List Value → α → Prop} (ht : P.underlying t = some (.struct fs)) (hr : Rd enc P W t R)
    {v : Value} {d : DataW H} {ps : List MemPlace} (hok : Value.okWide P W r base t v) (h : DataW.Trod enc P W 0 (fun _ => true) true t v d ps) (hw : ∀ n ∈ d.weights P t, n ≤ reachBytes) : ∃ (cs : List Value) (x : α), v = .agg cs.toArray ∧ R (Gk.hw W) cs x := by
  obtain ⟨cs, rfl, _⟩ := okWide_struct ht hok
  obtain ⟨x, h2⟩ := rd_arg hr h hw
  exact ⟨cs.toList, x, by simp, h2⟩
theorem arg_int {base : Nat} {r : Reach} {t : TypeId} (ht : P.underlying t = some (.int .i64)) {v : Value} {d : DataW H} {ps : List MemPlace} (hok : Value.okWide P W r base t v) (h : DataW.Trod enc P W 0 (fun _ => true) true t v d ps)
    (hw : ∀ n ∈ d.weights P t, n ≤ reachBytes) : ∃ k : Int, v = .int .i64 k ∧ -9223372036854775808 ≤ k ∧ k ≤ 9223372036854775807 := by
  obtain ⟨n, rfl⟩ := okWide_int ht hok
  obtain ⟨x, e, h2⟩ := rd_arg (rd_int ht) h hw
  have e : [Value.int .i64 n] = [.int .i64 x] := e
  cases e
  exact ⟨n, rfl, h2⟩
theorem arg_bool {base : Nat} {r : Reach} {t : TypeId} (ht : P.underlying t = some .bool) {v : Value} (hok : Value.okWide P W r base t v) : ∃ k : Bool, v = .bool k := okWide_bool ht hok
theorem arg_str {base : Nat} {r : Reach} {t : TypeId} (ht : P.underlying t = some .string) {v : Value} {d : DataW H} {ps : List MemPlace} (hok : Value.okWide P W r base t v) (h : DataW.Trod enc P W 0 (fun _ => true) true t v d ps)
    (hw : ∀ n ∈ d.weights P t, n ≤ reachBytes) : ∃ l : List UInt8, v = strV l ∧ l.length ≤ 140737488355328 := by
  obtain ⟨n, rfl⟩ := okWide_string ht hok
  obtain ⟨x, e, h2⟩ := rd_arg (rd_str ht) h hw
  have e : [Value.string n] = [strV x] := e
  simp only [List.cons.injEq, and_true] at e
  exact ⟨x, e, h2⟩
theorem arg_u8 {base : Nat} {r : Reach} {t : TypeId} (ht : P.underlying t = some (.int .u8)) {v : Value} {d : DataW H} {ps : List MemPlace} (hok : Value.okWide P W r base t v) (h : DataW.Trod enc P W 0 (fun _ => true) true t v d ps)
    (hw : ∀ n ∈ d.weights P t, n ≤ reachBytes) : ∃ k : UInt8, v = byteV k := by
  obtain ⟨n, rfl⟩ := okWide_int ht hok
  obtain ⟨x, e⟩ := rd_arg (rd_byte ht) h hw
  have e : [Value.int .u8 n] = [byteV x] := e
  simp only [List.cons.injEq, and_true] at e
  exact ⟨x, e⟩
end
end Go.Gk
namespace Go.Gk
theorem list2 {α : Type} {l : List α} (h : l.length = 2) : ∃ a b, l = [a, b] := by
  match l, h with | [a, b], _ => exact ⟨a, b, rfl⟩
theorem list3 {α : Type} {l : List α} (h : l.length = 3) : ∃ a b c, l = [a, b, c] := by
  match l, h with | [a, b, c], _ => exact ⟨a, b, c, rfl⟩
theorem list4 {α : Type} {l : List α} (h : l.length = 4) : ∃ a b c d, l = [a, b, c, d] := by
  match l, h with | [a, b, c, d], _ => exact ⟨a, b, c, d, rfl⟩
theorem list5 {α : Type} {l : List α} (h : l.length = 5) : ∃ a b c d e, l = [a, b, c, d, e] := by
  match l, h with | [a, b, c, d, e], _ => exact ⟨a, b, c, d, e, rfl⟩
end Go.Gk
