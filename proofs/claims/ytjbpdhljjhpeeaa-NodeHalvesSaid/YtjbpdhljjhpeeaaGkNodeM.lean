/-
  Nodes: what is written of one is read.
-/
import Derived.Test.YtjbpdhljjhpeeaaGkNodeL
namespace Go.Gk.Node
open Go Go.Gk
attribute [local irreducible] gwp gws

theorem u8n_nat {n : Nat} (h : n ≤ 255) : (u8n n).toNat = n := by
  simp only [u8n]
  have : ((n : Int) % 256).toNat = n := by omega
  rw [this]; simp [UInt8.toNat_ofNat]; omega
theorem piece_u8 {x r : List UInt8} (h : x.length ≤ 255) : pieceF (u8n x.length :: (x ++ r)) = some (x, r) := by
  simp only [pieceF, u8n_nat h]
  rw [if_neg (by simp)]
  simp
theorem kid_num {k : Int} {r : List UInt8} (h0 : 0 ≤ k) (h1 : k ≤ 8191) : kidF (numB k ++ r) = some (k.toNat, r) := by
  simp only [numB, List.cons_append, List.nil_append, kidF, Option.some.injEq, Prod.mk.injEq, and_true]
  have e1 : ((k / 256) % 256).toNat = (k / 256).toNat := by omega
  rw [e1]
  have e2 : (k / 256).toNat < 256 := by omega
  have e3 : (k % 256).toNat < 256 := by omega
  have e4 : ∀ x, x < 256 → (UInt8.ofNat x).toNat = x := fun x hx => by simp [UInt8.toNat_ofNat]; omega
  rw [e4 _ e2, e4 _ e3]
  omega
theorem body_pre (n : NodeD) (k : Nat) : ∀ j, ∃ T, bodyD n (k + j) = bodyD n k ++ T
  | 0 => ⟨[], by simp⟩
  | j + 1 => by
    obtain ⟨T, h⟩ := body_pre n k j
    exact ⟨T ++ ((u8n (klen n (k + j)) :: n.keys.getD (k + j) []) ++ tailD n (k + j)), by show bodyD n (k + j) ++ _ ++ _ = _; rw [h]; simp only [List.append_assoc]; rfl⟩
theorem page_pre (n : NodeD) {k : Nat} (hk : k ≤ n.keys.length) : ∃ T, pageD n = bodyD n k ++ T := by
  obtain ⟨T, h⟩ := body_pre n k (n.keys.length - k)
  rw [show k + (n.keys.length - k) = n.keys.length by omega] at h
  exact ⟨T ++ _, by rw [pageD, h, List.append_assoc]⟩
theorem page_step (n : NodeD) {k : Nat} (hk : k < n.keys.length) : (pageD n).drop (bodyD n k).length = (u8n (klen n k) :: n.keys.getD k []) ++ (tailD n k ++ (pageD n).drop (bodyD n (k + 1)).length) := by
  obtain ⟨T, h⟩ := page_pre n (k := k + 1) hk
  rw [h]
  have e : bodyD n (k + 1) = bodyD n k ++ ((u8n (klen n k) :: n.keys.getD k []) ++ tailD n k) := by simp only [bodyD, List.append_assoc]
  rw [List.drop_left, e, List.append_assoc, List.drop_left, List.append_assoc]
theorem csum_ge (n : NodeD) : ∀ k, k ≤ csum n k
  | 0 => Nat.le_refl _
  | k + 1 => by have := csum_ge n k; simp only [csum, cellD]; split <;> omega
theorem key_le {ks : List (List UInt8)} (h : keysOk ks ks.length = true) {k : Nat} (hk : k < ks.length) : ks[k].length ≤ 64 := by
  have := keysOk_at h hk
  simp only [kOk, Bool.and_eq_true, decide_eq_true_eq] at this
  have e : ks.getD k [] = ks[k] := by simp [hk]
  rw [e] at this; exact this.1.2
theorem page_len {n : NodeD} (hr : rightB n = true) : (pageD n).length = 256 := by
  simp only [rightB, Bool.and_eq_true, decide_eq_true_eq] at hr
  have := body_le hr.1 hr.2 n.keys.length (Nat.le_refl _)
  simp only [pageD, List.length_append, List.length_replicate]; omega
theorem parse_page {n : NodeD} (hr : rightB n = true) : parseF (pageD n) = some n := by
  have hr' := hr
  simp only [rightB, Bool.and_eq_true, decide_eq_true_eq] at hr'
  obtain ⟨hs, hz⟩ := hr'
  have hm : n.keys.length ≤ 255 := by
    have := csum_ge n n.keys.length
    simp only [sizeD] at hz; omega
  obtain ⟨T0, hT0⟩ := page_pre n (k := 0) (Nat.zero_le _)
  have hstep := fun k hk => page_step n (k := k) hk
  have hd0 : (pageD n).drop (bodyD n 0).length = T0 := by rw [hT0, List.drop_left]
  obtain ⟨lf, ks, vs, is⟩ := n
  have hs' := hs
  simp only [soundB, Bool.and_eq_true] at hs'
  have hk := fun k (hk : k < ks.length) => key_le hs'.1 hk
  simp only at hm hT0 hstep hd0 hs'
  have hkl : ∀ k, k < ks.length → klen ⟨lf, ks, vs, is⟩ k = (ks.getD k []).length := fun _ _ => rfl
  cases lf with
  | true =>
    have h2 := hs'.2
    simp only [if_true, Bool.and_eq_true, decide_eq_true_eq, List.all_eq_true] at h2
    obtain ⟨⟨hvl, hil⟩, hva⟩ := h2
    obtain rfl : is = [] := List.eq_nil_of_length_eq_zero hil
    have hpg : pageD ⟨true, ks, vs, []⟩ = 1 :: u8n ks.length :: T0 := hT0
    have items : ∀ k, k ≤ ks.length → itemsF true T0 [] k = some (ks.take k, vs.take k, [], (pageD ⟨true, ks, vs, []⟩).drop (bodyD ⟨true, ks, vs, []⟩ k).length) := by
      intro k
      induction k with
      | zero => intro _; simp [itemsF, hd0]
      | succ k ih =>
        intro hk1
        have e1 : ks.getD k [] = ks[k]'(by omega) := by simp [show k < ks.length by omega]
        have e2 : vs.getD k [] = vs[k]'(by omega) := by simp [show k < vs.length by omega]
        have e3 : (vs[k]'(by omega)).length ≤ 16 := by
          have := hva _ (List.getElem_mem (show k < vs.length by omega))
          simpa [valOk] using this
        simp only [itemsF, ih (by omega)]
        rw [hstep k (by omega)]
        have := hk k (by omega)
        rw [hkl k (by omega), e1, List.cons_append, piece_u8 (by omega)]
        simp only [tailD, if_true, vlen, e2]
        rw [List.cons_append, piece_u8 (by omega)]
        simp only [Option.some.injEq, Prod.mk.injEq, and_true]
        exact ⟨(List.take_succ_eq_append_getElem _).symm, (List.take_succ_eq_append_getElem _).symm⟩
    have h3 := items ks.length (Nat.le_refl _)
    simp only [parseF, hpg, List.getD_cons_zero, List.getD_cons_succ, List.drop_succ_cons, List.drop_zero]
    show (match startF true T0 with | none => none | some (is0, l0) => _) = _
    simp only [startF, u8n_nat hm]
    rw [hpg] at h3
    show (match itemsF true T0 [] ks.length with | none => none | some (a, b, c, _) => some (⟨true, a, b, c⟩ : NodeD)) = _
    rw [h3]
    simp only [List.take_length]
    rw [List.take_of_length_le (by omega)]
  | false =>
    have h2 := hs'.2
    simp only [Bool.false_eq_true, if_false, Bool.and_eq_true, decide_eq_true_eq, List.all_eq_true] at h2
    obtain ⟨⟨hvl, hil⟩, hia⟩ := h2
    obtain rfl : vs = [] := List.eq_nil_of_length_eq_zero hvl
    have hkid : ∀ k (h : k < is.length), 0 ≤ is[k] ∧ is[k] ≤ 8191 := fun k h => by
      have := hia _ (List.getElem_mem h)
      simpa [kidOk] using this
    have hpg : pageD ⟨false, ks, [], is⟩ = 2 :: u8n ks.length :: (numB (is.getD 0 0) ++ T0) := hT0
    have e0 : is.getD 0 0 = is[0]'(by omega) := by simp [show 0 < is.length by omega]
    have items : ∀ k, k ≤ ks.length → itemsF false T0 [is[0]'(by omega)] k = some (ks.take k, [], is.take (k + 1), (pageD ⟨false, ks, [], is⟩).drop (bodyD ⟨false, ks, [], is⟩ k).length) := by
      intro k
      induction k with
      | zero =>
        intro _
        have : is.take 1 = [is[0]'(by omega)] := by rw [List.take_succ_eq_append_getElem (by omega)]; simp
        simp [itemsF, hd0, this]
      | succ k ih =>
        intro hk1
        have e1 : ks.getD k [] = ks[k]'(by omega) := by simp [show k < ks.length by omega]
        have e2 : is.getD (k + 1) 0 = is[k + 1]'(by omega) := by simp [show k + 1 < is.length by omega]
        have e3 := hkid (k + 1) (by omega)
        simp only [itemsF, ih (by omega)]
        rw [hstep k (by omega)]
        have := hk k (by omega)
        rw [hkl k (by omega), e1, List.cons_append, piece_u8 (by omega)]
        simp only [tailD, Bool.false_eq_true, if_false, e2]
        rw [kid_num e3.1 e3.2]
        simp only [Option.some.injEq, Prod.mk.injEq, and_true, true_and]
        refine ⟨(List.take_succ_eq_append_getElem _).symm, ?_⟩
        rw [Int.toNat_of_nonneg e3.1]
        exact (List.take_succ_eq_append_getElem _).symm
    have h3 := items ks.length (Nat.le_refl _)
    have e4 := hkid 0 (by omega)
    simp only [parseF, hpg, List.getD_cons_zero, List.getD_cons_succ, List.drop_succ_cons, List.drop_zero]
    show (match startF false (numB (is.getD 0 0) ++ T0) with | none => none | some (is0, l0) => _) = _
    simp only [startF, e0, kid_num e4.1 e4.2, u8n_nat hm]
    rw [hpg] at h3
    rw [Int.toNat_of_nonneg e4.1]
    show (match itemsF false T0 [is[0]] ks.length with | none => none | some (a, b, c, _) => some (⟨false, a, b, c⟩ : NodeD)) = _
    rw [h3]
    simp only [List.take_length]
    rw [List.take_of_length_le (by omega)]
theorem read_page {n : NodeD} (hr : rightB n = true) : readF (pageD n) = some n := by
  unfold readF
  rw [if_pos (page_len hr), parse_page hr]
  exact if_pos ⟨hr, rfl⟩
theorem readF_some {b : List UInt8} {n : NodeD} (h : readF b = some n) : rightB n = true ∧ pageD n = b := by
  unfold readF at h
  split at h
  · split at h
    · split at h
      · rename_i h1; cases h; exact h1
      · cases h
    · cases h
  · cases h
end Go.Gk.Node
