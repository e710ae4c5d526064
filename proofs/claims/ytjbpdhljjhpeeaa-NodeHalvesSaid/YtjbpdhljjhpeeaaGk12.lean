/-
  A row of bytes of a fixed room, filled by append in place; numbers as bytes.
-/
import Derived.Test.YtjbpdhljjhpeeaaGk10
namespace Go.Gk
open Go

/-- A byte slice of length |c| and room N, in its own block: what is not filled is zero. -/
def FRow (N : Nat) (v : Value) (c : List UInt8) (h : PHeap) : Prop :=
  c.length ≤ N ∧ ∃ b T, v = .slice (some ⟨b, 0, none⟩) c.length N ∧ h = bx b T (c.map byteV ++ List.replicate (N - c.length) (byteV 0))

theorem FRow.full {N : Nat} {v : Value} {c : List UInt8} {h : PHeap} (r : FRow N v c h) : ∃ b, v = .slice (some ⟨b, 0, none⟩) c.length N ∧ FRow N (.slice (some ⟨b, 0, none⟩) N N) (c ++ List.replicate (N - c.length) 0) h := by
  obtain ⟨hc, b, T, rfl, rfl⟩ := r
  have hl : (c ++ List.replicate (N - c.length) (0 : UInt8)).length = N := by simp; omega
  refine ⟨b, rfl, by omega, b, T, by rw [hl], ?_⟩
  rw [hl]
  simp
theorem lit_bytes {d : PHeap} {b : Nat} {T : TypeId} {l : List UInt8} {vs : List Value} {n : Nat} (h : Le (bx b T vs) d) (e : vs = l.map byteV) (hn : n = l.length) (hl : l.length ≤ 140737488355328) : RBytes d (.slice (some ⟨b, 0, none⟩) n n) l := by
  subst e; subst hn
  exact (ORow.lit (sz := 1) (by simp) hl).bytes h
theorem lit_one {d : PHeap} {b : Nat} {T : TypeId} {u : Value} {l : List UInt8} (h : Le (bx b T [u]) d) (hu : RBytes d u l) : RBss d (.slice (some ⟨b, 0, none⟩) 1 1) [l] :=
  (ORow.lit (sz := 1) (l := [u]) (T := T) (b := b) rfl (by omega)).rsl1 h rfl (fun i hi => by
    obtain rfl : i = 0 := by simpa using hi
    exact ⟨u, rfl, u, rfl, hu⟩)
theorem FRow.bytes {N : Nat} {v : Value} {c : List UInt8} {h d : PHeap} (r : FRow N v c h) (hl : Le h d) (hN : N ≤ 140737488355328) : RBytes d v c := by
  obtain ⟨hc, b, T, rfl, rfl⟩ := r
  exact (ORow.mk (sz := 1) (xs := c.map byteV) (n := c.length) (c := N) (by simp) (by omega) hc (by omega) (by simp; omega) (by simp)).bytes hl
theorem RBytes.pre {d : PHeap} {a : Option Addr} {n c : Nat} {l : List UInt8} (h : RBytes d (.slice a n c) l) {k : Nat} (hk : k ≤ l.length) : RBytes d (.slice a k c) (l.take k) := by
  obtain ⟨a', c', b, o, e, h2, h3, h4, h5, h6, h7, h8⟩ := h
  cases e
  have hl : (l.take k).length = k := by simp; omega
  refine ⟨a, c, b, o, by rw [hl], fun h0 => ?_, h3, h4, by omega, h6, by omega, fun i hi => ?_⟩
  · rw [hl] at h0
    exact h2 (by omega)
  · obtain ⟨cs, k1, k2, k3⟩ := h8 i (by omega)
    exact ⟨cs, k1, k2, by simpa using k3⟩
theorem oneCell_bytes (c : List UInt8) : ((c.map byteV).all (·.oneCell')) = true := by
  rw [List.all_eq_true]
  intro x hx
  obtain ⟨u, _, rfl⟩ := List.mem_map.1 hx
  rfl

section
variable {P : Program} {pan : List PanicEntry → Post} {Qn : Env → Post} {Ls L : List PHeap} {ρ : Env} {d : PHeap} {s : GS} {t : Nat} {tk : Bool}
theorem w_appF {by_ : Nat} {z : List Value} {x y : Operand} (i : Nat) {N : Nat} {v : Value} {c news : List UInt8} {h : PHeap} (ex : ev ρ x = v) (hi : L[i]? = some h) (ho : FRow N v c h)
    {w : Value} (ey : ev ρ y = w) (hx : RdX d (Ls ++ L ++ L) w news.length 1 (news.map byteV)) (hfit : c.length + news.length ≤ N) (hN : N ≤ 140737488355328)
    (k : ∀ v' h', FRow N v' (c ++ news) h' → gws P pan Qn s Ls (upd ρ t v') d (L.set i h')) : gws P pan Qn (.op false ⟨some t, none, .app 1 by_ z x y⟩ s) Ls ρ d L := by
  obtain ⟨xa, xc, rfl, hl, hx0, hxc⟩ := hx
  obtain ⟨hc, b, T, rfl, rfl⟩ := ho
  refine ⟨d, L, Vs.refl d L, ?_⟩
  simp only [gop, gi, maxLen]
  refine ⟨_, c.length, N, xa, news.length, xc, news.map byteV, ex, ey, hl, oneCell_bytes news, hx0, hxc, by omega, by omega, fun hle => .inr ⟨i, b, 0, T, _, rfl, hi, ?_, d, _, Vs.refl _ _, ?_⟩, fun hlt => by omega⟩
  · simp; omega
  · have e : patch (c.map byteV ++ List.replicate (N - c.length) (byteV 0)) (0 + c.length * 1) (news.map byteV) = (c ++ news).map byteV ++ List.replicate (N - (c ++ news).length) (byteV 0) := by
      simp only [patch, Nat.zero_add, Nat.mul_one, List.length_map, List.map_append, List.append_assoc, List.length_append]
      rw [List.take_append_of_le_length (by simp), List.take_of_length_le (by simp)]
      congr 2
      rw [List.drop_append, List.drop_of_length_le (by simp), List.nil_append, List.length_map, List.drop_replicate]
      congr 1; omega
    rw [e]
    refine k _ _ ⟨by simp; omega, b, T, ?_, rfl⟩
    simp [put]
/-- What is appended was laid for it, and goes. -/
theorem w_appF0 {by_ : Nat} {z : List Value} {x y : Operand} (i : Nat) {N : Nat} {v : Value} {c news : List UInt8} {h : PHeap} {bt : Nat} {Tt : TypeId} {vs : List Value} (ex : ev ρ x = v) (hi : L[i]? = some h) (ho : FRow N v c h)
    {n' : Nat} (ey : ev ρ y = .slice (some ⟨bt, 0, none⟩) n' n') (hvs : vs = news.map byteV) (hn' : n' = news.length) (hfit : c.length + news.length ≤ N) (hN : N ≤ 140737488355328)
    (k : ∀ v' h', FRow N v' (c ++ news) h' → gws P pan Qn s Ls (upd ρ t v') d (L.set i h')) : gws P pan Qn (.op false ⟨some t, none, .app 1 by_ z x y⟩ s) Ls ρ d (bx bt Tt vs :: L) := by
  subst hvs; subst hn'
  obtain ⟨hc, b, T, rfl, rfl⟩ := ho
  refine ⟨d, _, Vs.refl d _, ?_⟩
  simp only [gop, gi, maxLen]
  have hrd : RdX d (Ls ++ (bx bt Tt (news.map byteV) :: L) ++ (bx bt Tt (news.map byteV) :: L)) (.slice (some ⟨bt, 0, none⟩) news.length news.length) news.length 1 (news.map byteV) :=
    RdX.lit (T := Tt) (Ls.length) (by rw [List.append_assoc, List.getElem?_append_right (Nat.le_refl _)]; simp) (by simp)
  obtain ⟨xa, xc, e, hl, hx0, hxc⟩ := hrd
  cases e
  refine ⟨_, c.length, N, _, news.length, _, news.map byteV, ex, ey, hl, oneCell_bytes news, hx0, hxc, by omega, by omega, fun hle => .inr ⟨i + 1, b, 0, T, _, rfl, by simpa using hi, ?_, d, L.set i (bx b T ((c ++ news).map byteV ++ List.replicate (N - (c ++ news).length) (byteV 0))), ?_, ?_⟩, fun hlt => by omega⟩
  · simp; omega
  · have e : patch (c.map byteV ++ List.replicate (N - c.length) (byteV 0)) (0 + c.length * 1) (news.map byteV) = (c ++ news).map byteV ++ List.replicate (N - (c ++ news).length) (byteV 0) := by
      simp only [patch, Nat.zero_add, Nat.mul_one, List.length_map, List.map_append, List.append_assoc, List.length_append]
      rw [List.take_append_of_le_length (by simp), List.take_of_length_le (by simp)]
      congr 2
      rw [List.drop_append, List.drop_of_length_le (by simp), List.nil_append, List.length_map, List.drop_replicate]
      congr 1; omega
    rw [e, List.set_cons_succ]
    exact Vs.drop (List.sublist_cons_self _ _)
  · refine k _ _ ⟨by simp; omega, b, T, ?_, rfl⟩
    simp [put]
theorem w_slN {x : Operand} {sz b o n c l h m : Nat} {lo hi mx : Option Operand} (ex : ev ρ x = .slice (some ⟨b, o, none⟩) n c) (hc : cutV n c (lo.map (ev ρ)) (hi.map (ev ρ)) (mx.map (ev ρ)) = some (l, h, m)) (hml : m ≠ l)
    (k : gws P pan Qn s Ls (upd ρ t (.slice (some ⟨b, o + l * sz, none⟩) (h - l) (m - l))) d L) : gws P pan Qn (.op tk ⟨some t, none, .sl sz x lo hi mx⟩ s) Ls ρ d L :=
  w_q rfl ⟨_, n, c, l, h, m, ex, fun _ a' ha => by cases ha; rfl, hc, by rw [if_neg hml]; rfl⟩ k
/-- The first k bytes of a slice. -/
theorem w_slR {x y : Operand} {v : Value} {l : List UInt8} {kk : IntKind} {n : Nat} (ex : ev ρ x = v) (hr : RBytes d v l) (ey : ev ρ y = .int kk n) (hn : n ≤ l.length)
    (k : ∀ v', RBytes d v' (l.take n) → gws P pan Qn s Ls (upd ρ t v') d L) : gws P pan Qn (.op tk ⟨some t, none, .sl 1 x none (some y) none⟩ s) Ls ρ d L := by
  have hr' := hr
  obtain ⟨a, c, b, o, rfl, h2, h3, h4, h5, h6, h7, h8⟩ := hr
  have hc : cutV l.length c none (some (ev ρ y)) none = some (0, n, c) := by
    simp only [cutV, cutM, cutH, cutL, Option.bind_some, Option.map_some, ey, bnd]
    rw [if_pos (by omega)]; simp
  refine w_q rfl ⟨a, l.length, c, 0, n, c, ex, fun h0 => h3 h0, hc, rfl⟩ (k _ ?_)
  simp only [Nat.sub_zero]
  have e : (if c = 0 then a else a.map fun a => ⟨a.block, a.off + 0 * 1, none⟩) = a := by
    split
    · rfl
    · rename_i h0
      cases a with
      | none => rfl
      | some a => obtain ⟨b', o', s'⟩ := a; have := h3 h0 _ rfl; simp only at this; subst this; simp
  rw [e]
  exact hr'.pre hn
/-- All blocks become data. -/
theorem w_frzAll {g : GOp} (k : ∀ d', Le d d' → (∀ h ∈ L, Le h d') → gws P pan Qn (.op false g s) Ls ρ d' []) : gws P pan Qn (.op false g s) Ls ρ d L :=
  let ⟨d', h1, h2, h3⟩ := Vs.frzAll d L
  w_vs d' [] h1 (k d' h2 h3)
theorem byteV_wrap (a : Int) : Value.int .u8 (IntKind.u8.wrap a) = byteV (UInt8.ofNat (a % 256).toNat) := by
  have h0 : 0 ≤ a % 256 := Int.emod_nonneg a (by omega)
  have h1 : a % 256 < 256 := Int.emod_lt_of_pos a (by omega)
  have h2 : (a % 256).toNat < 256 := by omega
  simp only [byteV, IntKind.wrap, IntKind.signed, IntKind.bits, Value.int.injEq, true_and]
  simp [UInt8.toNat_ofNat, Nat.mod_eq_of_lt h2]
  omega
theorem w_cvb {x : Operand} {j : IntKind} {a : Int} (ex : ev ρ x = .int j a) (h : gws P pan Qn s Ls (upd ρ t (byteV (UInt8.ofNat (a % 256).toNat))) d L) : gws P pan Qn (.op tk ⟨some t, none, .cvi .u8 x⟩ s) Ls ρ d L :=
  w_cvi ex (by rw [byteV_wrap]; exact h)
theorem w_shr8 {x : Operand} {k k' : IntKind} {a : Int} {y : Operand} (ex : ev ρ x = .int k a) (ey : ev ρ y = .int k' 8) (hk : 8 ≤ k.bits) (h : gws P pan Qn s Ls (upd ρ t (.int k (a / 256))) d L) :
    gws P pan Qn (.op tk ⟨some t, none, .bin .shr x y⟩ s) Ls ρ d L := by
  refine w_bin ?_ h
  rw [ex, ey]
  have : min (Int.toNat 8) k.bits = 8 := by simp; omega
  simp only [binV, this]
  rw [if_neg (by omega)]
  simp [Int.fdiv_eq_ediv_of_nonneg]
end
end Go.Gk
