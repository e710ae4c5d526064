/-
  Nodes: one is read of bytes: the reference.
-/
import Derived.Test.YtjbpdhljjhpeeaaGkNodeJ
namespace Go.Gk.Node
open Go Go.Gk
attribute [local irreducible] gwp gws

def cutF (b : List UInt8) (a : Int) : Option (List UInt8 × Nat) := if a < 0 then none else
  match b[a.toNat]? with
  | none => none
  | some k => if a.toNat + 1 + k.toNat > b.length then none else some ((b.drop (a.toNat + 1)).take k.toNat, a.toNat + 1 + k.toNat)
theorem cut_piece {b : List UInt8} {a : Nat} : pieceF (b.drop a) = (cutF b a).map fun p => (p.1, b.drop p.2) := by
  by_cases h : a < b.length
  · rw [List.drop_eq_getElem_cons h]
    simp only [pieceF, cutF, Int.toNat_natCast, List.getElem?_eq_getElem h, List.length_drop]
    rw [if_neg (show ¬ ((a : Int) < 0) by omega)]
    by_cases h2 : a + 1 + b[a].toNat > b.length
    · rw [if_pos (by omega), if_pos h2]; rfl
    · rw [if_neg (by omega), if_neg h2]
      simp
  · rw [List.drop_of_length_le (by omega)]
    simp [pieceF, cutF, List.getElem?_eq_none (Nat.le_of_not_lt h)]
theorem cutF_le {b x : List UInt8} {a : Int} {e : Nat} (h : cutF b a = some (x, e)) : e ≤ b.length := by
  simp only [cutF] at h
  split at h
  · cases h
  · split at h
    · cases h
    · split at h
      · cases h
      · simp only [Option.some.injEq, Prod.mk.injEq] at h; omega
theorem kid_at {b : List UInt8} {a : Nat} (h : a + 2 ≤ b.length) : kidF (b.drop a) = some ((b[a]'(by omega)).toNat * 256 + (b[a + 1]'(by omega)).toNat, b.drop (a + 2)) := by
  rw [List.drop_eq_getElem_cons (show a < b.length by omega), List.drop_eq_getElem_cons (show a + 1 < b.length by omega)]; rfl
theorem kid_no {b : List UInt8} {a : Nat} (h : b.length < a + 2) : kidF (b.drop a) = none := by
  have : (b.drop a).length ≤ 1 := by simp; omega
  match hb : b.drop a, this with
  | [], _ => rfl
  | [_], _ => rfl

def CutOk (P : Program) (f : FuncId) : Prop := ∀ {d : PHeap} {v : Value} {b : List UInt8}, RBytes d v b → b.length ≤ 1000 → ∀ a : Int, -1 ≤ a → a ≤ 1000 →
  GCall P f [v, .int .i64 a] d [] (Ret fun r d' L' => d' = d ∧ ((cutF b a = none ∧ r = .tuple #[.slice none 0 0, .int .i64 (-1)] ∧ L' = []) ∨
    ∃ x e u g, cutF b a = some (x, e) ∧ r = .tuple #[u, .int .i64 (e : Nat)] ∧ L' = [g] ∧ GRow 1 RByte d u x g))
def g_thimbleref20_cut : GFun :=
 ⟨44, [(.tmp 4), (.tmp 5)],
 (.seq
 (.reg false (.op false ⟨(some 4), none, (.mv (.const (.slice none 0 0)))⟩
  (.op false ⟨(some 5), none, (.mv (.const (.int .i64 0)))⟩ .done)))
 (.seq (.seq
 (.reg false (.op false ⟨(some 7), none, (.mv (.tmp 1))⟩
  (.op false ⟨(some 8), none, (.bin .lss (.tmp 7) (.const (.int .i64 0)))⟩
  (.op false ⟨(some 9), none, (.mv (.tmp 8))⟩
  (.op false ⟨(some 10), (some (9, false)), (.mv (.tmp 1))⟩
  (.op false ⟨(some 11), (some (9, false)), (.mv (.tmp 0))⟩
  (.op false ⟨(some 12), (some (9, false)), (.len (.tmp 11))⟩
  (.op false ⟨(some 13), (some (9, false)), (.bin .geq (.tmp 10) (.tmp 12))⟩
  (.op false ⟨(some 14), none, (.pick (.tmp 9) (.const (.bool true)) (.tmp 13))⟩
  (.op false ⟨(some 15), none, (.mv (.tmp 14))⟩
  (.op false ⟨(some 16), (some (15, false)), (.mv (.tmp 1))⟩
  (.op false ⟨(some 17), (some (15, false)), (.bin .add (.tmp 16) (.const (.int .i64 1)))⟩
  (.op false ⟨(some 18), (some (15, false)), (.mv (.tmp 0))⟩
  (.op false ⟨(some 19), (some (15, false)), (.mv (.tmp 1))⟩
  (.op false ⟨(some 20), (some (15, false)), (.idx 1 (.tmp 18) (.tmp 19))⟩
  (.op false ⟨(some 21), (some (15, false)), (.ld none (.tmp 20))⟩
  (.op false ⟨(some 22), (some (15, false)), (.cvi .i64 (.tmp 21))⟩
  (.op false ⟨(some 23), (some (15, false)), (.bin .add (.tmp 17) (.tmp 22))⟩
  (.op false ⟨(some 24), (some (15, false)), (.mv (.tmp 0))⟩
  (.op false ⟨(some 25), (some (15, false)), (.len (.tmp 24))⟩
  (.op false ⟨(some 26), (some (15, false)), (.bin .gtr (.tmp 23) (.tmp 25))⟩
  (.op false ⟨(some 27), none, (.pick (.tmp 15) (.const (.bool true)) (.tmp 26))⟩ .done)))))))))))))))))))))) (.cond (.tmp 27)
 (.seq
 (.reg false (.op false ⟨(some 4), none, (.mv (.const (.slice none 0 0)))⟩
  (.op false ⟨(some 5), none, (.mv (.const (.int .i64 (-1))))⟩ .done))) .ret) .skip))
 (.seq
 (.reg false (.op false ⟨(some 28), none, (.mv (.tmp 1))⟩
  (.op false ⟨(some 29), none, (.bin .add (.tmp 28) (.const (.int .i64 1)))⟩
  (.op false ⟨(some 30), none, (.mv (.tmp 0))⟩
  (.op false ⟨(some 31), none, (.mv (.tmp 1))⟩
  (.op false ⟨(some 32), none, (.idx 1 (.tmp 30) (.tmp 31))⟩
  (.op false ⟨(some 33), none, (.ld none (.tmp 32))⟩
  (.op false ⟨(some 34), none, (.cvi .i64 (.tmp 33))⟩
  (.op false ⟨(some 35), none, (.bin .add (.tmp 29) (.tmp 34))⟩
  (.op false ⟨(some 6), none, (.mv (.tmp 35))⟩ .done))))))))))
 (.seq
 (.reg false (.op false ⟨(some 36), none, (.bsl 0 1 [(.int .u8 0)] [])⟩
  (.op false ⟨(some 37), none, (.mv (.tmp 0))⟩
  (.op false ⟨(some 38), none, (.mv (.tmp 1))⟩
  (.op false ⟨(some 39), none, (.bin .add (.tmp 38) (.const (.int .i64 1)))⟩
  (.op false ⟨(some 40), none, (.mv (.tmp 6))⟩
  (.op false ⟨(some 41), none, (.sl 1 (.tmp 37) (some (.tmp 39)) (some (.tmp 40)) none)⟩
  (.op false ⟨(some 42), none, (.app 1 1 [(.int .u8 0)] (.tmp 36) (.tmp 41))⟩
  (.op false ⟨(some 43), none, (.mv (.tmp 6))⟩
  (.op false ⟨(some 4), none, (.mv (.tmp 42))⟩
  (.op false ⟨(some 5), none, (.mv (.tmp 43))⟩ .done))))))))))) .ret))))⟩

theorem cut_ok {P : Program} {f : FuncId} (hd : dec P f = some g_thimbleref20_cut) : CutOk P f := by
  intro d v b hv hb a ha1 ha2
  refine GCall_of hd (Nat.le_of_ble_eq_true rfl) ?_
  show gwp P _ _ _ _ _
  by_cases h0 : a < 0
  · (apply w_sq; apply w_reg; apply w_mvs; rfl; apply w_mvi; rfl; apply w_done0; apply w_sq; apply w_sq; apply w_reg; apply w_mvi; rfl; apply w_lss; rfl; rfl; apply w_mvb; rfl; refine w_gdT rfl (by omega) ?_; apply w_gF; rfl; apply w_gF; rfl; apply w_gF; rfl; apply w_gF; rfl; apply w_pickTb; rfl; rfl; apply w_mvb; rfl; apply w_gF; rfl; apply w_gF; rfl; apply w_gF; rfl; apply w_gF; rfl; apply w_gF; rfl; apply w_gF; rfl; apply w_gF; rfl; apply w_gF; rfl; apply w_gF; rfl; apply w_gF; rfl; apply w_gF; rfl; apply w_pickTb; rfl; rfl; apply w_done0; apply w_ifT; rfl; apply w_sq; apply w_reg; apply w_mvs; rfl; apply w_mvi; rfl; apply w_done0; apply w_ret)
    exact fin2n rfl rfl ⟨rfl, .inl ⟨by simp [cutF, h0], rfl, rfl⟩⟩
  obtain ⟨m, rfl⟩ := Int.eq_ofNat_of_zero_le (show 0 ≤ a by omega)
  by_cases h1 : m < b.length
  · have hu := (b[m]).toNat_lt
    by_cases h2 : m + 1 + b[m].toNat > b.length
    · (apply w_sq; apply w_reg; apply w_mvs; rfl; apply w_mvi; rfl; apply w_done0; apply w_sq; apply w_sq; apply w_reg; apply w_mvi; rfl; apply w_lss; rfl; rfl; apply w_mvb; rfl; refine w_gdF rfl (by omega) ?_; apply w_gT; rfl; apply w_mvi; rfl; apply w_gT; rfl; apply w_mv; apply w_gT; rfl; apply w_lenR; rfl; assumption; apply w_gT; rfl; apply w_geq; rfl; rfl; apply w_pickFb; rfl; rfl; apply w_mvb; rfl; refine w_gdF rfl (by omega) ?_; apply w_gT; rfl; apply w_mvi; rfl; apply w_gT; rfl; apply w_add; rfl; rfl; omega; omega; apply w_gT; rfl; apply w_mv; apply w_gT; rfl; apply w_mvi; rfl; apply w_gT; rfl; refine w_idxR (sz := 1) (R := RByte) (by rfl) (by assumption) (by rfl) rfl (by omega) ?_; rintro _ _ _ _ _ rfl; apply w_gT; rfl; apply w_ld; rfl; exact hc_ds0 (by assumption) rfl; apply w_gT; rfl; apply w_cvi64; rfl; omega; omega; apply w_gT; rfl; apply w_add; rfl; rfl; omega; omega; apply w_gT; rfl; apply w_mv; apply w_gT; rfl; apply w_lenR; rfl; assumption; apply w_gT; rfl; apply w_gtr; rfl; rfl; apply w_pickFb; rfl; rfl; apply w_done0; refine w_ifdT rfl (by omega) ?_; apply w_sq; apply w_reg; apply w_mvs; rfl; apply w_mvi; rfl; apply w_done0; apply w_ret)
      exact fin2n rfl rfl ⟨rfl, .inl ⟨by simp only [cutF, if_neg h0, Int.toNat_natCast, List.getElem?_eq_getElem h1, if_pos h2], rfl, rfl⟩⟩
    · (apply w_sq; apply w_reg; apply w_mvs; rfl; apply w_mvi; rfl; apply w_done0; apply w_sq; apply w_sq; apply w_reg; apply w_mvi; rfl; apply w_lss; rfl; rfl; apply w_mvb; rfl; refine w_gdF rfl (by omega) ?_; apply w_gT; rfl; apply w_mvi; rfl; apply w_gT; rfl; apply w_mv; apply w_gT; rfl; apply w_lenR; rfl; assumption; apply w_gT; rfl; apply w_geq; rfl; rfl; apply w_pickFb; rfl; rfl; apply w_mvb; rfl; refine w_gdF rfl (by omega) ?_; apply w_gT; rfl; apply w_mvi; rfl; apply w_gT; rfl; apply w_add; rfl; rfl; omega; omega; apply w_gT; rfl; apply w_mv; apply w_gT; rfl; apply w_mvi; rfl; apply w_gT; rfl; refine w_idxR (sz := 1) (R := RByte) (by rfl) (by assumption) (by rfl) rfl (by omega) ?_; rintro _ _ _ _ _ rfl; apply w_gT; rfl; apply w_ld; rfl; exact hc_ds0 (by assumption) rfl; apply w_gT; rfl; apply w_cvi64; rfl; omega; omega; apply w_gT; rfl; apply w_add; rfl; rfl; omega; omega; apply w_gT; rfl; apply w_mv; apply w_gT; rfl; apply w_lenR; rfl; assumption; apply w_gT; rfl; apply w_gtr; rfl; rfl; apply w_pickFb; rfl; rfl; apply w_done0; refine w_ifdF rfl (by omega) ?_; apply w_skip; apply w_sq; apply w_reg; apply w_mvi; rfl; apply w_add; rfl; rfl; omega; omega; apply w_mv; apply w_mvi; rfl; refine w_idxR (sz := 1) (R := RByte) (by rfl) (by assumption) (by rfl) rfl (by omega) ?_; rintro _ _ _ _ _ rfl; apply w_ld; rfl; exact hc_ds0 (by assumption) rfl; apply w_cvi64; rfl; omega; omega; apply w_add; rfl; rfl; omega; omega; apply w_mvi; rfl; apply w_done0; apply w_sq; apply w_reg)
      refine w_bsl (cs := []) (by omega) rfl (fun b8 T8 => ?_)
      (apply w_mv; apply w_mvi; rfl; apply w_add; rfl; rfl; omega; omega; apply w_mvi; rfl)
      refine w_slMid (n := m + 1) (m := m + 1 + b[m].toNat) rfl hv rfl rfl (by omega) (by omega) (by omega) (by omega) (fun v1 hv1 => ?_)
      refine w_appG (R := RByte) 0 rfl rfl (GRow.lit0 (R := RByte) (sz := 1)) rfl (RSl.src hv1 cell1_byte (by omega) _) (by omega) (by simp; omega) (by simp; omega) (fun v5 h5 hrow5 => ?_)
      (apply w_mvi; rfl; apply w_mv; apply w_mvi; rfl; apply w_done0; apply w_ret)
      refine fin2 (w := .int .i64 (m + 1 + b[m].toNat : Nat)) (L' := [h5]) rfl (int_eq (by omega)) (List.Sublist.refl _) ⟨rfl, .inr ⟨_, m + 1 + b[m].toNat, _, h5, ?_, rfl, rfl, hrow5⟩⟩
      simp only [cutF, if_neg h0, Int.toNat_natCast, List.getElem?_eq_getElem h1, if_neg h2]
      simp
  · (apply w_sq; apply w_reg; apply w_mvs; rfl; apply w_mvi; rfl; apply w_done0; apply w_sq; apply w_sq; apply w_reg; apply w_mvi; rfl; apply w_lss; rfl; rfl; apply w_mvb; rfl; refine w_gdF rfl (by omega) ?_; apply w_gT; rfl; apply w_mvi; rfl; apply w_gT; rfl; apply w_mv; apply w_gT; rfl; apply w_lenR; rfl; assumption; apply w_gT; rfl; apply w_geq; rfl; rfl; apply w_pickFb; rfl; rfl; apply w_mvb; rfl; refine w_gdT rfl (by omega) ?_; apply w_gF; rfl; apply w_gF; rfl; apply w_gF; rfl; apply w_gF; rfl; apply w_gF; rfl; apply w_gF; rfl; apply w_gF; rfl; apply w_gF; rfl; apply w_gF; rfl; apply w_gF; rfl; apply w_gF; rfl; apply w_pickTb; rfl; rfl; apply w_done0; apply w_ifT; rfl; apply w_sq; apply w_reg; apply w_mvs; rfl; apply w_mvi; rfl; apply w_done0; apply w_ret)
    exact fin2n rfl rfl ⟨rfl, .inl ⟨by simp [cutF, List.getElem?_eq_none (Nat.le_of_not_lt h1)], rfl, rfl⟩⟩

/-- The same, what is cut being data. -/
theorem CutOk.data {P : Program} {f : FuncId} (h : CutOk P f) {d : PHeap} {v : Value} {b : List UInt8} (hv : RBytes d v b) (hb : b.length ≤ 1000) {a : Int} (h1 : -1 ≤ a) (h2 : a ≤ 1000) :
    GCall P f [v, .int .i64 a] d [] (Ret fun r d' L' => L' = [] ∧ ∃ ua uc x a', r = .tuple #[.slice ua x.length uc, .int .i64 a'] ∧ RBytes d' (.slice ua x.length uc) x ∧ -1 ≤ a' ∧ a' ≤ b.length ∧ ((a' = -1 ∧ cutF b a = none) ∨ ∃ e : Nat, a' = e ∧ cutF b a = some (x, e))) := by
  refine (h hv hb a h1 h2).monoR (fun r d' L' hl ⟨hdd, hr⟩ => ?_)
  rcases hr with ⟨e1, rfl, rfl⟩ | ⟨x, e, u, g, e1, rfl, rfl, hg⟩
  · exact ⟨d', [], Vs.refl _ _, rfl, none, 0, [], -1, rfl, RSl.nil, by omega, by omega, .inl ⟨rfl, e1⟩⟩
  · subst hdd
    obtain ⟨ua, uc, rfl⟩ := hg.val
    have := cutF_le e1
    exact ⟨Gk.join d' g, [], Vs.freeze, rfl, ua, uc, x, e, rfl, hg.rsl mono_byte (by omega) (Le.join_left _ _) (Le.join_right _ _), by omega, by omega, .inr ⟨e, rfl, e1⟩⟩

def RReadOk (P : Program) (f : FuncId) : Prop := ∀ {d : PHeap} {v : Value} {b : List UInt8}, RBytes d v b →
  GCall P f [v] d [] (Ret fun r d' L' => L' = [] ∧ ∃ cs, r = .tuple #[.agg cs.toArray, .int .i64 (if (readF b).isSome then 0 else 200)] ∧ RNode d' cs ((readF b).getD zeroN))
theorem zero_rnode {d : PHeap} : RNode d [.bool false, .slice none 0 0, .slice none 0 0, .slice none 0 0] zeroN := ⟨_, _, _, rfl, RSl.nil, RSl.nil, RSl.nil⟩
def g_thimbleref20_Read (f_thimbleref20_cut f_thimbleref20_Right f_thimbleref20_Page : Nat) : GFun :=
 ⟨115, [(.cell 2 (some 4)), (.tmp 3)],
 (.seq
 (.reg false (.op false ⟨(some 2), none, (.alo (.agg #[(.bool false), (.slice none 0 0), (.slice none 0 0), (.slice none 0 0)]))⟩
  (.op false ⟨(some 3), none, (.mv (.const (.int .i64 0)))⟩ .done)))
 (.seq (.seq
 (.reg false (.op false ⟨(some 8), none, (.mv (.tmp 0))⟩
  (.op false ⟨(some 9), none, (.len (.tmp 8))⟩
  (.op false ⟨(some 10), none, (.bin .neq (.tmp 9) (.const (.int .i64 256)))⟩ .done)))) (.cond (.tmp 10)
 (.seq
 (.reg false (.op false ⟨(some 11), none, (.bld [(0, 1), (1, 1), (2, 1), (3, 1)] [(.bool false), (.slice none 0 0), (.slice none 0 0), (.slice none 0 0)] [])⟩
  (.op false ⟨none, none, (.st 4 (.tmp 2) (.tmp 11))⟩
  (.op false ⟨(some 3), none, (.mv (.const (.int .i64 200)))⟩ .done)))) .ret) .skip))
 (.seq
 (.reg false (.op false ⟨(some 12), none, (.mv (.tmp 0))⟩
  (.op false ⟨(some 13), none, (.idx 1 (.tmp 12) (.const (.int .i64 0)))⟩
  (.op false ⟨(some 14), none, (.ld none (.tmp 13))⟩
  (.op false ⟨(some 15), none, (.bin .eql (.tmp 14) (.const (.int .u8 1)))⟩
  (.op false ⟨(some 16), none, (.bld [(0, 1), (1, 1), (2, 1), (3, 1)] [(.bool false), (.slice none 0 0), (.slice none 0 0), (.slice none 0 0)] [(0, (.tmp 15))])⟩
  (.op false ⟨(some 4), none, (.alo (.agg #[(.bool false), (.slice none 0 0), (.slice none 0 0), (.slice none 0 0)]))⟩
  (.op false ⟨none, none, (.st 4 (.tmp 4) (.tmp 16))⟩ .done))))))))
 (.seq
 (.reg false (.op false ⟨(some 5), none, (.mv (.const (.int .i64 2)))⟩ .done))
 (.seq (.seq
 (.reg false (.op false ⟨(some 17), none, (.fld 0 (.tmp 4))⟩
  (.op false ⟨(some 18), none, (.ld none (.tmp 17))⟩
  (.op false ⟨(some 19), none, (.un .not (.tmp 18))⟩ .done)))) (.cond (.tmp 19)
 (.seq
 (.reg true (.op true ⟨(some 20), none, (.mv (.tmp 0))⟩
  (.op true ⟨(some 21), none, (.idx 1 (.tmp 20) (.const (.int .i64 2)))⟩
  (.op true ⟨(some 22), none, (.ld none (.tmp 21))⟩
  (.op true ⟨(some 23), none, (.cvi .i64 (.tmp 22))⟩
  (.op true ⟨(some 24), none, (.bin .mul (.tmp 23) (.const (.int .i64 256)))⟩
  (.op true ⟨(some 25), none, (.mv (.tmp 0))⟩
  (.op true ⟨(some 26), none, (.idx 1 (.tmp 25) (.const (.int .i64 3)))⟩
  (.op true ⟨(some 27), none, (.ld none (.tmp 26))⟩
  (.op true ⟨(some 28), none, (.cvi .i64 (.tmp 27))⟩
  (.op true ⟨(some 29), none, (.bin .add (.tmp 24) (.tmp 28))⟩
  (.op false ⟨(some 30), none, (.bsl 1 1 [(.int .i64 0)] [(0, (.tmp 29))])⟩
  (.op true ⟨(some 31), none, (.fld 3 (.tmp 4))⟩
  (.bar (.op false ⟨none, none, (.st 1 (.tmp 31) (.tmp 30))⟩ .done)))))))))))))))
 (.reg false (.op false ⟨(some 5), none, (.mv (.const (.int .i64 4)))⟩ .done))) .skip))
 (.seq (.seq
 (.reg false (.op false ⟨(some 6), none, (.mv (.const (.int .i64 0)))⟩ .done)) (.block 0 (.loop
 (.seq (.seq
 (.reg false (.op false ⟨(some 32), none, (.mv (.tmp 6))⟩
  (.op false ⟨(some 33), none, (.mv (.tmp 0))⟩
  (.op false ⟨(some 34), none, (.idx 1 (.tmp 33) (.const (.int .i64 1)))⟩
  (.op false ⟨(some 35), none, (.ld none (.tmp 34))⟩
  (.op false ⟨(some 36), none, (.cvi .i64 (.tmp 35))⟩
  (.op false ⟨(some 37), none, (.bin .lss (.tmp 32) (.tmp 36))⟩
  (.op false ⟨(some 38), none, (.mv (.tmp 37))⟩
  (.op false ⟨(some 39), (some (38, true)), (.mv (.tmp 5))⟩
  (.op false ⟨(some 40), (some (38, true)), (.bin .geq (.tmp 39) (.const (.int .i64 0)))⟩
  (.op false ⟨(some 41), none, (.pick (.tmp 38) (.tmp 40) (.const (.bool false)))⟩ .done))))))))))) (.cond (.tmp 41) .skip (.exit 0)))
 (.seq (.block 1
 (.seq
 (.reg false (.op false ⟨(some 7), none, (.mv (.const (.slice none 0 0)))⟩ .done))
 (.seq
 (.reg false (.op false ⟨(some 45), none, (.mv (.tmp 0))⟩
  (.op false ⟨(some 46), none, (.mv (.tmp 5))⟩
  (.op false ⟨(some 47), none, (.call f_thimbleref20_cut [(.tmp 45), (.tmp 46)])⟩
  (.op false ⟨(some 44), none, (.mv (.tmp 47))⟩
  (.op false ⟨(some 48), none, (.ext (.tmp 44) 0)⟩
  (.op false ⟨(some 49), none, (.ext (.tmp 44) 1)⟩
  (.op false ⟨(some 7), none, (.mv (.tmp 48))⟩
  (.op false ⟨(some 5), none, (.mv (.tmp 49))⟩ .done)))))))))
 (.seq
 (.reg false (.op false ⟨(some 50), none, (.fld 1 (.tmp 4))⟩
  (.op false ⟨(some 51), none, (.ld none (.tmp 50))⟩
  (.op false ⟨(some 52), none, (.mv (.tmp 7))⟩
  (.op false ⟨(some 53), none, (.bsl 1 1 [(.slice none 0 0)] [(0, (.tmp 52))])⟩
  (.op false ⟨(some 54), none, (.app 1 24 [(.slice none 0 0)] (.tmp 51) (.tmp 53))⟩
  (.op false ⟨(some 55), none, (.fld 1 (.tmp 4))⟩
  (.op false ⟨none, none, (.st 1 (.tmp 55) (.tmp 54))⟩ .done))))))))
 (.seq
 (.reg false (.op false ⟨(some 56), none, (.fld 0 (.tmp 4))⟩
  (.op false ⟨(some 57), none, (.ld none (.tmp 56))⟩ .done))) (.cond (.tmp 57)
 (.seq
 (.reg false (.op false ⟨(some 59), none, (.mv (.tmp 0))⟩
  (.op false ⟨(some 60), none, (.mv (.tmp 5))⟩
  (.op false ⟨(some 61), none, (.call f_thimbleref20_cut [(.tmp 59), (.tmp 60)])⟩
  (.op false ⟨(some 58), none, (.mv (.tmp 61))⟩
  (.op false ⟨(some 62), none, (.ext (.tmp 58) 0)⟩
  (.op false ⟨(some 63), none, (.ext (.tmp 58) 1)⟩
  (.op false ⟨(some 7), none, (.mv (.tmp 62))⟩
  (.op false ⟨(some 5), none, (.mv (.tmp 63))⟩ .done)))))))))
 (.reg false (.op false ⟨(some 64), none, (.fld 2 (.tmp 4))⟩
  (.op false ⟨(some 65), none, (.ld none (.tmp 64))⟩
  (.op false ⟨(some 66), none, (.mv (.tmp 7))⟩
  (.op false ⟨(some 67), none, (.bsl 1 1 [(.slice none 0 0)] [(0, (.tmp 66))])⟩
  (.op false ⟨(some 68), none, (.app 1 24 [(.slice none 0 0)] (.tmp 65) (.tmp 67))⟩
  (.op false ⟨(some 69), none, (.fld 2 (.tmp 4))⟩
  (.op false ⟨none, none, (.st 1 (.tmp 69) (.tmp 68))⟩ .done)))))))))
 (.seq
 (.reg false (.op false ⟨(some 70), none, (.mv (.tmp 5))⟩
  (.op false ⟨(some 71), none, (.bin .geq (.tmp 70) (.const (.int .i64 0)))⟩
  (.op false ⟨(some 72), none, (.mv (.tmp 71))⟩
  (.op false ⟨(some 73), (some (72, true)), (.mv (.tmp 5))⟩
  (.op false ⟨(some 74), (some (72, true)), (.bin .add (.tmp 73) (.const (.int .i64 2)))⟩
  (.op false ⟨(some 75), (some (72, true)), (.mv (.tmp 0))⟩
  (.op false ⟨(some 76), (some (72, true)), (.len (.tmp 75))⟩
  (.op false ⟨(some 77), (some (72, true)), (.bin .leq (.tmp 74) (.tmp 76))⟩
  (.op false ⟨(some 78), none, (.pick (.tmp 72) (.tmp 77) (.const (.bool false)))⟩ .done)))))))))) (.cond (.tmp 78)
 (.seq
 (.reg true (.op true ⟨(some 79), none, (.fld 3 (.tmp 4))⟩
  (.op true ⟨(some 80), none, (.ld none (.tmp 79))⟩
  (.op true ⟨(some 81), none, (.mv (.tmp 0))⟩
  (.op true ⟨(some 82), none, (.mv (.tmp 5))⟩
  (.op true ⟨(some 83), none, (.idx 1 (.tmp 81) (.tmp 82))⟩
  (.op true ⟨(some 84), none, (.ld none (.tmp 83))⟩
  (.op true ⟨(some 85), none, (.cvi .i64 (.tmp 84))⟩
  (.op true ⟨(some 86), none, (.bin .mul (.tmp 85) (.const (.int .i64 256)))⟩
  (.op true ⟨(some 87), none, (.mv (.tmp 0))⟩
  (.op true ⟨(some 88), none, (.mv (.tmp 5))⟩
  (.op true ⟨(some 89), none, (.bin .add (.tmp 88) (.const (.int .i64 1)))⟩
  (.op true ⟨(some 90), none, (.idx 1 (.tmp 87) (.tmp 89))⟩
  (.op true ⟨(some 91), none, (.ld none (.tmp 90))⟩
  (.op true ⟨(some 92), none, (.cvi .i64 (.tmp 91))⟩
  (.op true ⟨(some 93), none, (.bin .add (.tmp 86) (.tmp 92))⟩
  (.op false ⟨(some 94), none, (.bsl 1 1 [(.int .i64 0)] [(0, (.tmp 93))])⟩
  (.op false ⟨(some 95), none, (.app 1 8 [(.int .i64 0)] (.tmp 80) (.tmp 94))⟩
  (.op true ⟨(some 96), none, (.fld 3 (.tmp 4))⟩
  (.bar (.op false ⟨none, none, (.st 1 (.tmp 96) (.tmp 95))⟩ .done)))))))))))))))))))))
 (.reg false (.op false ⟨(some 97), none, (.mv (.tmp 5))⟩
  (.op false ⟨(some 98), none, (.bin .add (.tmp 97) (.const (.int .i64 2)))⟩
  (.op false ⟨(some 5), none, (.mv (.tmp 98))⟩ .done)))))
 (.reg false (.op false ⟨(some 5), none, (.mv (.const (.int .i64 (-1))))⟩ .done))))))))))
 (.reg false (.op false ⟨(some 42), none, (.mv (.tmp 6))⟩
  (.op false ⟨(some 43), none, (.bin .add (.tmp 42) (.const (.int .i64 1)))⟩
  (.op false ⟨(some 6), none, (.mv (.tmp 43))⟩ .done)))))))))
 (.seq (.seq
 (.reg true (.op true ⟨(some 99), none, (.mv (.tmp 5))⟩
  (.op true ⟨(some 100), none, (.bin .lss (.tmp 99) (.const (.int .i64 0)))⟩
  (.op true ⟨(some 101), none, (.mv (.tmp 100))⟩
  (.op true ⟨(some 102), (some (101, false)), (.ld (some 4) (.tmp 4))⟩
  (.op false ⟨(some 103), (some (101, false)), (.call f_thimbleref20_Right [(.tmp 102)])⟩
  (.op true ⟨(some 104), (some (101, false)), (.un .not (.tmp 103))⟩
  (.op true ⟨(some 105), none, (.pick (.tmp 101) (.const (.bool true)) (.tmp 104))⟩
  (.op true ⟨(some 106), none, (.mv (.tmp 105))⟩
  (.op true ⟨(some 107), (some (106, false)), (.ld (some 4) (.tmp 4))⟩
  (.op true ⟨(some 109), (some (106, false)), (.mv (.tmp 0))⟩
  (.op true ⟨(some 110), (some (106, false)), (.b2s (.tmp 109))⟩
  (.op false ⟨(some 108), (some (106, false)), (.call f_thimbleref20_Page [(.tmp 107)])⟩
  (.op true ⟨(some 111), (some (106, false)), (.bin .neq (.tmp 108) (.tmp 110))⟩
  (.op true ⟨(some 112), none, (.pick (.tmp 106) (.const (.bool true)) (.tmp 111))⟩ .done))))))))))))))) (.cond (.tmp 112)
 (.seq
 (.reg false (.op false ⟨(some 113), none, (.bld [(0, 1), (1, 1), (2, 1), (3, 1)] [(.bool false), (.slice none 0 0), (.slice none 0 0), (.slice none 0 0)] [])⟩
  (.op false ⟨none, none, (.st 4 (.tmp 2) (.tmp 113))⟩
  (.op false ⟨(some 3), none, (.mv (.const (.int .i64 200)))⟩ .done)))) .ret) .skip))
 (.seq
 (.reg false (.op false ⟨(some 114), none, (.ld (some 4) (.tmp 4))⟩
  (.op false ⟨none, none, (.st 4 (.tmp 2) (.tmp 114))⟩
  (.op false ⟨(some 3), none, (.mv (.const (.int .i64 0)))⟩ .done)))) .ret))))))))⟩

set_option maxHeartbeats 1000000 in
theorem rread_ok {P : Program} {f f1 f2 f3 : FuncId} (hd : dec P f = some (g_thimbleref20_Read f1 f2 f3)) (h1 : CutOk P f1) (h2 : RightOk P f2) (h3 : RPageOk P f3) : RReadOk P f := by
  intro d v b hv
  refine GCall_of hd (Nat.le_of_ble_eq_true rfl) ?_
  show gwp P _ _ _ _ _
  (apply w_sq; apply w_reg; apply w_alo; intro _ _; apply w_mvi; rfl; apply w_done0; apply w_sq; apply w_sq; apply w_reg; apply w_mv; apply w_lenR; rfl; assumption; apply w_neq; rfl; rfl; apply w_done0)
  rename_i b2 T2
  have hbad : ∀ {ρ : Env} {d' : PHeap} {L : List PHeap}, readF b = none → ρ 2 = .pointer (some ⟨b2, 0, none⟩) → ρ 3 = .int .i64 200 → (∃ i : Nat, L[i]? = some (bx b2 T2 [.bool false, .slice none 0 0, .slice none 0 0, .slice none 0 0])) →
      retPost [.cell 2 (some 4), .tmp 3] (Ret fun r d' L' => L' = [] ∧ ∃ cs, r = .tuple #[.agg cs.toArray, .int .i64 (if (readF b).isSome then 0 else 200)] ∧ RNode d' cs ((readF b).getD zeroN)) ρ d' L := by
    intro ρ d' L hr e2 e3 ⟨i, hi⟩
    refine finV [.agg [.bool false, .slice none 0 0, .slice none 0 0, .slice none 0 0].toArray, .int .i64 200] (L' := []) ⟨res_cell i e2 hi rfl, res_tmp e3, trivial⟩ (Vs.drop (List.nil_sublist _)) ⟨rfl, [.bool false, .slice none 0 0, .slice none 0 0, .slice none 0 0], ?_, ?_⟩
    · rw [hr]; rfl
    · rw [hr]; exact zero_rnode
  first | refine w_ifd rfl (fun hc => ?_) (fun hc => ?_) | refine w_if rfl (fun hc => ?_) (fun hc => ?_)
  · (apply w_sq; apply w_reg; apply w_bld; rfl)
    refine w_st 0 rfl rfl rfl rfl (by simp [Value.cells]) rfl ?_
    (apply w_mvi; rfl; apply w_done0; apply w_ret)
    exact hbad (by simp [readF, show b.length ≠ 256 by omega]) rfl rfl ⟨0, rfl⟩
  have hbl : b.length = 256 := by omega
  obtain ⟨lf, hlf⟩ : ∃ lf : Bool, lf = (b.getD 0 0 == 1) := ⟨_, rfl⟩
  have hlf' : decide (((b[0]'(by omega)).toNat : Int) = 1) = lf := by
    rw [hlf]
    have : b.getD 0 0 = b[0]'(by omega) := by simp [show 0 < b.length by omega]
    rw [this, Bool.eq_iff_iff]
    simp only [decide_eq_true_eq, beq_iff_eq]
    constructor
    · intro h; exact UInt8.toNat_inj.1 (by simpa using (by omega : (b[0]'(by omega)).toNat = 1))
    · intro h; rw [h]; rfl
  (apply w_skip; apply w_sq; apply w_reg; apply w_mv; refine w_idxR (m := 0) (sz := 1) (R := RByte) (by rfl) (by assumption) (by rfl) rfl (by omega) ?_; rintro _ _ _ _ _ rfl; apply w_ld; rfl; exact hc_ds0 (by assumption) rfl; apply w_eql; rfl; rfl; apply w_bld; rfl; apply w_alo; intro _ _)
  rw [hlf']
  skip
  rename_i b4 T4
  refine w_stE 0 [.bool lf, .slice none 0 0, .slice none 0 0, .slice none 0 0] rfl rfl rfl rfl (by simp [Value.cells]) rfl rfl ?_
  apply w_done0; apply w_sq; apply w_reg; apply w_mvi; rfl
  refine w_vsd d [bx b4 T4 [.bool lf, .slice none 0 0, .slice none 0 0, .slice none 0 0], bx b2 T2 [.bool false, .slice none 0 0, .slice none 0 0, .slice none 0 0], emp, emp, emp] ((Vs.emp.trans (Vs.emp.trans Vs.emp)).trans (Vs.pick [3, 4, 0, 1, 2] rfl)) ?_
  refine w_mid (fun ρ d' L' => d' = d ∧ ∃ (a : Nat) (is0 : List Int) (ia : Option Addr) (ic : Nat) (hi : PHeap), SlotsAre ρ [(0, v), (2, .pointer (some ⟨b2, 0, none⟩)), (4, .pointer (some ⟨b4, 0, none⟩)), (5, .int .i64 a)] ∧ startF lf (b.drop 2) = some (is0, b.drop a) ∧ a ≤ 256 ∧ GRow 1 RInt d (.slice ia is0.length ic) is0 hi ∧ L' = [bx b4 T4 [.bool lf, .slice none 0 0, .slice none 0 0, .slice ia is0.length ic], bx b2 T2 [.bool false, .slice none 0 0, .slice none 0 0, .slice none 0 0], emp, emp, hi]) ?_ ?_
  · cases lf with
    | true =>
      (apply w_sq; apply w_reg; apply w_fld; rfl; apply w_ld; rfl; exact hc_i 0 rfl rfl; apply w_not; rfl; apply w_done0; apply w_ifF; rfl; apply w_skip)
      exact ⟨rfl, 2, [], none, 0, emp, ⟨rfl, rfl, rfl, rfl, trivial⟩, rfl, by omega, GRow.nil, rfl⟩
    | false =>
      have hu2 := (b[2]'(by omega)).toNat_lt
      have hu3 := (b[3]'(by omega)).toNat_lt
      have hkid : startF false (b.drop 2) = some ([((((b[2]'(by omega)).toNat * 256 + (b[3]'(by omega)).toNat : Nat)) : Int)], b.drop 4) := by
        show (match kidF (b.drop 2) with | none => none | some (m, r) => some ([(m : Int)], r)) = _
        rw [kid_at (show 2 + 2 ≤ b.length by omega)]
      (apply w_sq; apply w_reg; apply w_fld; rfl; apply w_ld; rfl; exact hc_i 0 rfl rfl; apply w_not; rfl; apply w_done0; apply w_ifT; rfl; apply w_sq; apply w_drawn; apply w_mv; refine w_idxR (m := 2) (sz := 1) (R := RByte) (by rfl) (by assumption) (by rfl) rfl (by omega) ?_; rintro _ _ _ _ _ rfl; apply w_ld; rfl; exact hc_ds0 (by assumption) rfl; apply w_cvi64; rfl; omega; omega; apply w_mul; rfl; rfl; omega; omega; apply w_mv; refine w_idxR (m := 3) (sz := 1) (R := RByte) (by rfl) (by assumption) (by rfl) rfl (by omega) ?_; rintro _ _ _ _ _ rfl; apply w_ld; rfl; exact hc_ds0 (by assumption) rfl; apply w_cvi64; rfl; omega; omega; apply w_add; rfl; rfl; omega; omega)
      refine w_bsl (cs := [.int .i64 ((b[2]'(by omega)).toNat * 256 + (b[3]'(by omega)).toNat : Int)]) (by omega) rfl (fun b8 T8 => ?_)
      (apply w_fld; rfl; apply w_bar)
      refine w_stE 0 [.bool false, .slice none 0 0, .slice none 0 0, .slice (some ⟨b8, 0, none⟩) 1 1] rfl rfl rfl rfl (by simp [Value.cells]) rfl rfl ?_
      refine w_vsd d [bx b4 T4 [.bool false, .slice none 0 0, .slice none 0 0, .slice (some ⟨b8, 0, none⟩) 1 1], bx b2 T2 [.bool false, .slice none 0 0, .slice none 0 0, .slice none 0 0], emp, emp, bx b8 T8 [.int .i64 ((b[2]'(by omega)).toNat * 256 + (b[3]'(by omega)).toNat : Int)]] (Vs.drop (List.Sublist.cons_cons _ (List.Sublist.cons_cons _ (List.Sublist.cons_cons _ (List.Sublist.cons_cons _ (List.sublist_cons_self _ _)))))) ?_
      (apply w_reg; apply w_mvi; rfl; apply w_done0)
      exact ⟨rfl, 4, [((((b[2]'(by omega)).toNat * 256 + (b[3]'(by omega)).toNat : Nat)) : Int)], _, _, _, ⟨rfl, rfl, rfl, rfl, trivial⟩, hkid, by omega, GRow.lit1 rfl ⟨congrArg (fun z => [Value.int .i64 z]) (by omega), by omega, by omega⟩, rfl⟩
  · rintro ρ d' L' ⟨hdd, a0, is0, ia, ic, hi, hsl, hst, ha0, oi, hL⟩
    subst hdd; subst hL
    have his := startF_len hst
    refine gwp_slots _ hsl ?_
    (apply w_sq; apply w_sq; apply w_reg; apply w_mvi; rfl; apply w_done0; apply w_block)
    have hm := UInt8.toNat_lt (b[1]'(by omega))
    have hg1 : b.getD 1 0 = b[1]'(by omega) := by simp [show 1 < b.length by omega]
    have hpn : ∀ k, k ≤ (b[1]'(by omega)).toNat → itemsF lf (b.drop a0) is0 k = none → readF b = none := by
      intro k hk h
      have : parseF b = none := by simp only [parseF, ← hlf, hst, hg1, itemsF_none h hk]
      simp [readF, this]
    refine w_loopS (α := Nat × Int) (fun x => [(0, v), (2, .pointer (some ⟨b2, 0, none⟩)), (4, .pointer (some ⟨b4, 0, none⟩)), (5, .int .i64 x.2), (6, .int .i64 x.1)])
      (fun x d1 L' => Le d' d1 ∧ x.1 ≤ (b[1]'(by omega)).toNat ∧ ∃ ks vs is ka kc va vc ia ic hk hv hi, GRow 1 RBs d1 (.slice ka ks.length kc) ks hk ∧ GRow 1 RBs d1 (.slice va vs.length vc) vs hv ∧ GRow 1 RInt d1 (.slice ia is.length ic) is hi ∧
        L' = [bx b4 T4 [.bool lf, .slice ka ks.length kc, .slice va vs.length vc, .slice ia is.length ic], bx b2 T2 [.bool false, .slice none 0 0, .slice none 0 0, .slice none 0 0], hk, hv, hi] ∧ ks.length ≤ x.1 ∧ vs.length ≤ x.1 ∧ is.length ≤ x.1 + 1 ∧
        ((∃ a : Nat, x.2 = a ∧ a ≤ 256 ∧ itemsF lf (b.drop a0) is0 x.1 = some (ks, vs, is, b.drop a)) ∨ (x.2 = -1 ∧ itemsF lf (b.drop a0) is0 x.1 = none))) (fun x => (b[1]'(by omega)).toNat - x.1) (0, (a0 : Int))
      ⟨rfl, rfl, rfl, rfl, rfl, trivial⟩ ⟨Le.refl _, Nat.zero_le _, [], [], is0, none, 0, none, 0, ia, ic, emp, emp, hi, GRow.nil, GRow.nil, oi, rfl, by simp, by simp, by simpa using his, .inl ⟨a0, rfl, ha0, rfl⟩⟩ ?_
    clear oi
    rintro ⟨i, a⟩ ρ d1 L' ⟨hdd, hik, ks, vs, is, ka, kc, va, vc, ia, ic, hkb, hvb, hi, ok, ov, oi, hL, hkl, hvl, hil, hcase⟩
    simp only at hik hkl hvl hil hcase
    subst hL
    have hv1 := hv.mono hdd
    rcases hcase with ⟨a, rfl, ha, hit⟩ | ⟨rfl, hit⟩
    · by_cases hc : i < (b[1]'(by omega)).toNat
      · (apply w_sq; apply w_sq; apply w_reg; apply w_mvi; rfl; apply w_mv; refine w_idxR (m := 1) (sz := 1) (R := RByte) (by rfl) (by assumption) (by rfl) rfl (by omega) ?_; rintro _ _ _ _ _ rfl; apply w_ld; rfl; exact hc_ds0 (by assumption) rfl; apply w_cvi64; rfl; omega; omega; apply w_lss; rfl; rfl; apply w_mvb; rfl; refine w_gdT rfl (by omega) ?_; apply w_gT; rfl; apply w_mvi; rfl; apply w_gT; rfl; apply w_geq; rfl; rfl; apply w_pickTb; rfl; rfl; apply w_done0; refine w_ifdT rfl (by omega) ?_; apply w_skip; apply w_sq; apply w_block; apply w_sq; apply w_reg; apply w_mvs; rfl; apply w_done0; apply w_sq; apply w_reg; apply w_mv; apply w_mvi; rfl)
        refine w_call0 rfl (h1.data hv1 (by omega) (by omega) (by omega)) (fun r d2 L2 hl2 ⟨hL, ua, uc, x, a1, hr, hx, ha1, ha2, hc1⟩ => ?_)
        subst hr; subst hL
        (apply w_mvu; rfl; apply w_ext; rfl; rfl; apply w_ext; rfl; rfl; apply w_mvs; rfl; apply w_mvi; rfl; apply w_done0; apply w_sq; apply w_reg; apply w_fld; rfl; apply w_ld; rfl; exact hc_i 0 rfl rfl; apply w_mvs; rfl)
        refine w_bsl (cs := [.slice ua x.length uc]) (by omega) rfl (fun b8 T8 => ?_)
        refine w_appL (R := RBs) (xs := ks) (ys := [x]) 2 rfl rfl (ok.monoBs hl2) rfl (GRow.lit1 (x := x) rfl ⟨_, rfl, hx⟩) cell1_bs (by omega) (by simp; omega) (by simp; omega) (fun v8 h8 ok' => ?_)
        obtain ⟨a8, c8, rfl⟩ := ok'.val
        (apply w_fld; rfl)
        refine w_stE 0 [.bool lf, .slice a8 (ks ++ [x]).length c8, .slice va vs.length vc, .slice ia is.length ic] rfl rfl rfl rfl (by simp [Value.cells]) rfl rfl ?_
        have hitk := fun h => hpn (i + 1) (by omega) h
        cases lf with
        | true =>
          (apply w_done0; apply w_sq; apply w_reg; apply w_fld; rfl; apply w_ld; rfl; exact hc_i 0 rfl rfl; apply w_done0; apply w_ifT; rfl; apply w_sq; apply w_reg; apply w_mv; apply w_mvi; rfl)
          refine w_call0 rfl (h1.data (hv1.mono hl2) (by omega) ha1 (by omega)) (fun r d3 L3 hl3 ⟨hL, ua2, uc2, y, a2, hr, hy, hb1, hb2, hc2⟩ => ?_)
          subst hr; subst hL
          (apply w_mvu; rfl; apply w_ext; rfl; rfl; apply w_ext; rfl; rfl; apply w_mvs; rfl; apply w_mvi; rfl; apply w_done0; apply w_reg; apply w_fld; rfl; apply w_ld; rfl; exact hc_i 0 rfl rfl; apply w_mvs; rfl)
          refine w_bsl (cs := [.slice ua2 y.length uc2]) (by omega) rfl (fun b9 T9 => ?_)
          refine w_appL (R := RBs) (xs := vs) (ys := [y]) 3 rfl rfl (ov.monoBs (hl2.trans hl3)) rfl (GRow.lit1 (x := y) rfl ⟨_, rfl, hy⟩) cell1_bs (by omega) (by simp; omega) (by simp; omega) (fun v9 h9 ov' => ?_)
          obtain ⟨a9, c9, rfl⟩ := ov'.val
          (apply w_fld; rfl)
          refine w_stE 0 [.bool true, .slice a8 (ks ++ [x]).length c8, .slice a9 (vs ++ [y]).length c9, .slice ia is.length ic] rfl rfl rfl rfl (by simp [Value.cells]) rfl rfl ?_
          (apply w_done0; apply w_reg; apply w_mvi; rfl; apply w_add; rfl; rfl; omega; omega; apply w_mvi; rfl; apply w_done0)
          refine ⟨(i + 1, a2), by simp only; omega, ⟨rfl, rfl, rfl, rfl, int_eq (by simp), trivial⟩, hdd.trans (hl2.trans hl3), hc, ks ++ [x], vs ++ [y], is, a8, c8, a9, c9, ia, ic, h8, h9, hi, ok'.monoBs hl3, ov', oi.monoI (hl2.trans hl3), rfl, by simp; omega, by simp; omega, by simp only; omega, ?_⟩
          simp only
          rcases hc1 with ⟨rfl, e1⟩ | ⟨e, rfl, e1⟩
          · rcases hc2 with ⟨rfl, e2⟩ | ⟨e', rfl, e2⟩
            · exact .inr ⟨rfl, by simp [itemsF, hit, cut_piece, e1]⟩
            · simp [cutF] at e2
          · rcases hc2 with ⟨rfl, e2⟩ | ⟨e', rfl, e2⟩
            · exact .inr ⟨rfl, by simp [itemsF, hit, cut_piece, e1, e2]⟩
            · exact .inl ⟨e', rfl, by omega, by simp [itemsF, hit, cut_piece, e1, e2]⟩
        | false =>
          rcases hc1 with ⟨rfl, e1⟩ | ⟨e, rfl, e1⟩
          · (apply w_done0; apply w_sq; apply w_reg; apply w_fld; rfl; apply w_ld; rfl; exact hc_i 0 rfl rfl; apply w_done0; apply w_ifF; rfl; apply w_sq; apply w_reg; apply w_mvi; rfl; apply w_geq; rfl; rfl; apply w_mvb; rfl; refine w_gdF rfl (by omega) ?_; apply w_gF; rfl; apply w_gF; rfl; apply w_gF; rfl; apply w_gF; rfl; apply w_gF; rfl; apply w_pickFb; rfl; rfl; apply w_done0; apply w_ifF; rfl; apply w_reg; apply w_mvi; rfl; apply w_done0; apply w_reg; apply w_mvi; rfl; apply w_add; rfl; rfl; omega; omega; apply w_mvi; rfl; apply w_done0)
            exact ⟨(i + 1, -1), by simp only; omega, ⟨rfl, rfl, rfl, rfl, int_eq (by simp), trivial⟩, hdd.trans hl2, hc, ks ++ [x], vs, is, a8, c8, va, vc, ia, ic, h8, hvb, hi, ok', ov.monoBs hl2, oi.monoI hl2, rfl, by simp; omega, by simp only; omega, by simp only; omega, .inr ⟨rfl, by simp [itemsF, hit, cut_piece, e1]⟩⟩
          · have hv2 := hv1.mono hl2
            by_cases he : e + 2 ≤ b.length
            · have hu2 := (b[e]'(by omega)).toNat_lt
              have hu3 := (b[e + 1]'(by omega)).toNat_lt
              (apply w_done0; apply w_sq; apply w_reg; apply w_fld; rfl; apply w_ld; rfl; exact hc_i 0 rfl rfl; apply w_done0; apply w_ifF; rfl; apply w_sq; apply w_reg; apply w_mvi; rfl; apply w_geq; rfl; rfl; apply w_mvb; rfl; refine w_gdT rfl (by omega) ?_; apply w_gT; rfl; apply w_mvi; rfl; apply w_gT; rfl; apply w_add; rfl; rfl; omega; omega; apply w_gT; rfl; apply w_mv; apply w_gT; rfl; apply w_lenR; rfl; assumption; apply w_gT; rfl; apply w_leq; rfl; rfl; apply w_pickTb; rfl; rfl; apply w_done0; refine w_ifdT rfl (by omega) ?_; apply w_sq)
              refine w_drawnS [0, 1, 2, 3] [4] rfl ?_
              (apply w_fld; rfl; apply w_ld; rfl; exact hc_i 0 rfl rfl; apply w_mv; apply w_mvi; rfl; refine w_idxR (sz := 1) (R := RByte) (by rfl) (by assumption) (by rfl) rfl (by omega) ?_; rintro _ _ _ _ _ rfl; apply w_ld; rfl; exact hc_ds0 (by assumption) rfl; apply w_cvi64; rfl; omega; omega; apply w_mul; rfl; rfl; omega; omega; apply w_mv; apply w_mvi; rfl; apply w_add; rfl; rfl; omega; omega; refine w_idxR (sz := 1) (R := RByte) (by rfl) (by assumption) (by rfl) (Int.natCast_add _ 1).symm (by omega) ?_; rintro _ _ _ _ _ rfl; apply w_ld; rfl; exact hc_ds0 (by assumption) rfl; apply w_cvi64; rfl; omega; omega; apply w_add; rfl; rfl; omega; omega)
              refine w_bsl (cs := [.int .i64 ((b[e]'(by omega)).toNat * 256 + (b[e + 1]'(by omega)).toNat : Int)]) (by omega) rfl (fun b9 T9 => ?_)
              refine w_appL (R := RInt) 0 rfl rfl (oi.monoI hl2) rfl (GRow.lit1 rfl (x := (((b[e]'(by omega)).toNat * 256 + (b[e + 1]'(by omega)).toNat : Nat) : Int)) ⟨congrArg (fun z => [Value.int .i64 z]) (by omega), by omega, by omega⟩) cell1_int (by omega) (by simp; omega) (by simp; omega) (fun v9 h9 oi' => ?_)
              obtain ⟨a9, c9, rfl⟩ := oi'.val
              (apply w_fld; rfl; apply w_bar)
              refine w_stE 0 [.bool false, .slice a8 (ks ++ [x]).length c8, .slice va vs.length vc, .slice a9 (is ++ [(((b[e]'(by omega)).toNat * 256 + (b[e + 1]'(by omega)).toNat : Nat) : Int)]).length c9] rfl rfl rfl rfl (by simp [Value.cells]) rfl rfl ?_
              (apply w_done0; apply w_reg; apply w_mvi; rfl; apply w_add; rfl; rfl; omega; omega; apply w_mvi; rfl; apply w_done0; apply w_reg; apply w_mvi; rfl; apply w_add; rfl; rfl; omega; omega; apply w_mvi; rfl; apply w_done0)
              refine ⟨(i + 1, ((e + 2 : Nat) : Int)), by simp only; omega, ⟨rfl, rfl, rfl, int_eq (by simp), int_eq (by simp), trivial⟩, hdd.trans hl2, hc, ks ++ [x], vs, is ++ [(((b[e]'(by omega)).toNat * 256 + (b[e + 1]'(by omega)).toNat : Nat) : Int)], a8, c8, va, vc, a9, c9, h8, hvb, h9, ok', ov.monoBs hl2, oi', rfl, by simp; omega, by simp only; omega, by simp; omega, .inl ⟨e + 2, rfl, by omega, ?_⟩⟩
              simp only [itemsF, hit, cut_piece, e1, Option.map_some, kid_at he]
            · (apply w_done0; apply w_sq; apply w_reg; apply w_fld; rfl; apply w_ld; rfl; exact hc_i 0 rfl rfl; apply w_done0; apply w_ifF; rfl; apply w_sq; apply w_reg; apply w_mvi; rfl; apply w_geq; rfl; rfl; apply w_mvb; rfl; refine w_gdT rfl (by omega) ?_; apply w_gT; rfl; apply w_mvi; rfl; apply w_gT; rfl; apply w_add; rfl; rfl; omega; omega; apply w_gT; rfl; apply w_mv; apply w_gT; rfl; apply w_lenR; rfl; assumption; apply w_gT; rfl; apply w_leq; rfl; rfl; apply w_pickTb; rfl; rfl; apply w_done0; refine w_ifdF rfl (by omega) ?_; apply w_reg; apply w_mvi; rfl; apply w_done0; apply w_reg; apply w_mvi; rfl; apply w_add; rfl; rfl; omega; omega; apply w_mvi; rfl; apply w_done0)
              exact ⟨(i + 1, -1), by simp only; omega, ⟨rfl, rfl, rfl, rfl, int_eq (by simp), trivial⟩, hdd.trans hl2, hc, ks ++ [x], vs, is, a8, c8, va, vc, ia, ic, h8, hvb, hi, ok', ov.monoBs hl2, oi.monoI hl2, rfl, by simp; omega, by simp only; omega, by simp only; omega, .inr ⟨rfl, by simp only [itemsF, hit, cut_piece, e1, Option.map_some, kid_no (show b.length < e + 2 by omega)]⟩⟩
      · have hie : i = (b[1]'(by omega)).toNat := by omega
        have hpf : parseF b = some ⟨lf, ks, vs, is⟩ := by
          have hit2 := hit
          rw [hie] at hit2
          simp only [parseF, ← hlf, hst, hg1, hit2]
        have hsz := parse_small hpf
        obtain ⟨d2, hV, hl2, hfz⟩ := Vs.frzSome [bx b4 T4 [.bool lf, .slice ka ks.length kc, .slice va vs.length vc, .slice ia is.length ic], bx b2 T2 [.bool false, .slice none 0 0, .slice none 0 0, .slice none 0 0]] [hkb, hvb, hi] d1
        have hrn : RNode d2 [.bool lf, .slice ka ks.length kc, .slice va vs.length vc, .slice ia is.length ic] ⟨lf, ks, vs, is⟩ := ⟨_, _, _, rfl, ok.rsl mono_bs (by omega) hl2 (hfz _ (by simp)), ov.rsl mono_bs (by omega) hl2 (hfz _ (by simp)), oi.rsl mono_int (by omega) hl2 (hfz _ (by simp))⟩
        have hv2 := hv1.mono hl2
        (apply w_sq; apply w_sq; apply w_reg; apply w_mvi; rfl; apply w_mv; refine w_idxR (m := 1) (sz := 1) (R := RByte) (by rfl) (by assumption) (by rfl) rfl (by omega) ?_; rintro _ _ _ _ _ rfl; apply w_ld; rfl; exact hc_ds0 (by assumption) rfl; apply w_cvi64; rfl; omega; omega; apply w_lss; rfl; rfl; apply w_mvb; rfl; refine w_gdF rfl (by omega) ?_; apply w_gF; rfl; apply w_gF; rfl; apply w_pickFb; rfl; rfl; apply w_done0; apply w_ifF; rfl; apply w_exit; apply w_sq; apply w_sq)
        refine w_drawnV [bx b4 T4 [.bool lf, .slice ka ks.length kc, .slice va vs.length vc, .slice ia is.length ic], bx b2 T2 [.bool false, .slice none 0 0, .slice none 0 0, .slice none 0 0]] [] ((Vs.pick [2, 3, 4, 0, 1] rfl).trans hV) ?_
        (apply w_mvi; rfl; apply w_lss; rfl; rfl; apply w_mvb; rfl; refine w_gdF rfl (by omega) ?_; apply w_gT; rfl; apply w_ldb 0; rfl; rfl; rfl; apply w_gT; rfl)
        refine w_pure rfl (h2 hrn hsz) ?_
        cases hr : rightB ⟨lf, ks, vs, is⟩ with
        | false =>
          (apply w_gT; rfl; apply w_not; rfl; apply w_pickFb; rfl; rfl; apply w_mvb; rfl; apply w_gF; rfl; apply w_gF; rfl; apply w_gF; rfl; apply w_gF; rfl; apply w_gF; rfl; apply w_pickTb; rfl; rfl; apply w_done; apply w_ifT; rfl; apply w_sq; apply w_reg; apply w_bld; rfl)
          refine w_st 1 rfl rfl rfl rfl (by simp [Value.cells]) rfl ?_
          (apply w_mvi; rfl; apply w_done0; apply w_ret)
          exact hbad (by simp [readF, hpf, hr]) rfl rfl ⟨1, rfl⟩
        | true =>
          have hr' := hr
          simp only [rightB, Bool.and_eq_true, decide_eq_true_eq] at hr'
          (apply w_gT; rfl; apply w_not; rfl; apply w_pickFb; rfl; rfl; apply w_mvb; rfl; apply w_gT; rfl; apply w_ldb 0; rfl; rfl; rfl; apply w_gT; rfl; apply w_mv; apply w_gT; rfl; apply w_b2sR; rfl; assumption; apply w_gT; rfl)
          refine w_pure rfl (h3 hrn hr'.1 hr'.2) ?_
          by_cases hpg : pageD ⟨lf, ks, vs, is⟩ = b
          · (apply w_gT; rfl; apply w_sne; rfl; rfl; apply w_pickFb; rfl; rfl; apply w_done)
            refine w_ifdF rfl (fun h => h hpg) ?_
            (apply w_skip; apply w_sq; apply w_reg; apply w_ldb 0; rfl; rfl; rfl)
            refine w_st 1 rfl rfl rfl rfl (by simp [Value.cells]) rfl ?_
            (apply w_mvi; rfl; apply w_done0; apply w_ret)
            have hrf : readF b = some ⟨lf, ks, vs, is⟩ := by unfold readF; rw [if_pos hbl, hpf]; exact if_pos ⟨hr, hpg⟩
            refine finS [.agg [.bool lf, .slice ka ks.length kc, .slice va vs.length vc, .slice ia is.length ic].toArray, .int .i64 0] ⟨res_cell 1 rfl rfl rfl, res_tmp rfl, trivial⟩ (List.nil_sublist _) ⟨rfl, [.bool lf, .slice ka ks.length kc, .slice va vs.length vc, .slice ia is.length ic], ?_, ?_⟩
            · rw [hrf]; rfl
            · rw [hrf]; exact hrn
          · (apply w_gT; rfl; apply w_sne; rfl; rfl; apply w_pickFb; rfl; rfl; apply w_done; refine w_ifdT rfl (by omega) ?_; apply w_sq; apply w_reg; apply w_bld; rfl)
            refine w_st 1 rfl rfl rfl rfl (by simp [Value.cells]) rfl ?_
            (apply w_mvi; rfl; apply w_done0; apply w_ret)
            exact hbad (by simp [readF, hpf, hpg]) rfl rfl ⟨1, rfl⟩
    · by_cases hc : i < (b[1]'(by omega)).toNat
      · (apply w_sq; apply w_sq; apply w_reg; apply w_mvi; rfl; apply w_mv; refine w_idxR (m := 1) (sz := 1) (R := RByte) (by rfl) (by assumption) (by rfl) rfl (by omega) ?_; rintro _ _ _ _ _ rfl; apply w_ld; rfl; exact hc_ds0 (by assumption) rfl; apply w_cvi64; rfl; omega; omega; apply w_lss; rfl; rfl; apply w_mvb; rfl; refine w_gdT rfl (by omega) ?_; apply w_gT; rfl; apply w_mvi; rfl; apply w_gT; rfl; apply w_geq; rfl; rfl; apply w_pickTb; rfl; rfl; apply w_done0; refine w_ifdF rfl (by omega) ?_; apply w_exit; apply w_sq; apply w_sq; apply w_drawn; apply w_mvi; rfl; apply w_lss; rfl; rfl; apply w_mvb; rfl; refine w_gdT rfl (by omega) ?_; apply w_gF; rfl; apply w_gF; rfl; apply w_gF; rfl; apply w_pickTb; rfl; rfl; apply w_mvb; rfl; apply w_gF; rfl; apply w_gF; rfl; apply w_gF; rfl; apply w_gF; rfl; apply w_gF; rfl; apply w_pickTb; rfl; rfl; apply w_done; apply w_ifT; rfl; apply w_sq; apply w_reg; apply w_bld; rfl)
        refine w_st 1 rfl rfl rfl rfl (by simp [Value.cells]) rfl ?_
        (apply w_mvi; rfl; apply w_done0; apply w_ret)
        exact hbad (hpn i hik hit) rfl rfl ⟨1, rfl⟩
      · (apply w_sq; apply w_sq; apply w_reg; apply w_mvi; rfl; apply w_mv; refine w_idxR (m := 1) (sz := 1) (R := RByte) (by rfl) (by assumption) (by rfl) rfl (by omega) ?_; rintro _ _ _ _ _ rfl; apply w_ld; rfl; exact hc_ds0 (by assumption) rfl; apply w_cvi64; rfl; omega; omega; apply w_lss; rfl; rfl; apply w_mvb; rfl; refine w_gdF rfl (by omega) ?_; apply w_gF; rfl; apply w_gF; rfl; apply w_pickFb; rfl; rfl; apply w_done0; apply w_ifF; rfl; apply w_exit; apply w_sq; apply w_sq; apply w_drawn; apply w_mvi; rfl; apply w_lss; rfl; rfl; apply w_mvb; rfl; refine w_gdT rfl (by omega) ?_; apply w_gF; rfl; apply w_gF; rfl; apply w_gF; rfl; apply w_pickTb; rfl; rfl; apply w_mvb; rfl; apply w_gF; rfl; apply w_gF; rfl; apply w_gF; rfl; apply w_gF; rfl; apply w_gF; rfl; apply w_pickTb; rfl; rfl; apply w_done; apply w_ifT; rfl; apply w_sq; apply w_reg; apply w_bld; rfl)
        refine w_st 1 rfl rfl rfl rfl (by simp [Value.cells]) rfl ?_
        (apply w_mvi; rfl; apply w_done0; apply w_ret)
        exact hbad (hpn i hik hit) rfl rfl ⟨1, rfl⟩
end Go.Gk.Node
