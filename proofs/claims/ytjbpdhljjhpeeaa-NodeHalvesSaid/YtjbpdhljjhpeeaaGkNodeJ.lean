/-
  Nodes: one is read of bytes: Read of both sides.
-/
import Derived.Test.YtjbpdhljjhpeeaaGkNodeI
namespace Go.Gk.Node
open Go Go.Gk
attribute [local irreducible] gwp gws

def zeroN : NodeD := ⟨false, [], [], []⟩
def readF (b : List UInt8) : Option NodeD := if b.length = 256 then
    match parseF b with
    | some n => if rightB n = true ∧ pageD n = b then some n else none
    | none => none
  else none
theorem pieceF_le {l x r : List UInt8} (h : pieceF l = some (x, r)) : x.length ≤ 255 := by
  match l, h with
  | a :: l, h =>
    simp only [pieceF] at h
    split at h
    · cases h
    · simp only [Option.some.injEq, Prod.mk.injEq] at h
      obtain ⟨rfl, _⟩ := h
      have := a.toNat_lt
      simp; omega
theorem itemsF_small {lf : Bool} {l0 : List UInt8} {is0 : List Int} : ∀ {k : Nat} {ks vs is l}, itemsF lf l0 is0 k = some (ks, vs, is, l) → (∀ x ∈ ks, x.length ≤ 255) ∧ (∀ x ∈ vs, x.length ≤ 255) := by
  intro k
  induction k with
  | zero => intro ks vs is l h; simp only [itemsF, Option.some.injEq, Prod.mk.injEq] at h; obtain ⟨rfl, rfl, rfl, rfl⟩ := h; simp
  | succ k ih =>
    intro ks vs is l h
    simp only [itemsF] at h
    split at h
    · cases h
    · rename_i ks' vs' is' l' e
      have := ih e
      split at h
      · cases h
      · rename_i x l1 hp
        have hx := pieceF_le hp
        split at h
        · split at h
          · cases h
          · rename_i y l2 hp2
            have hy := pieceF_le hp2
            simp only [Option.some.injEq, Prod.mk.injEq] at h; obtain ⟨rfl, rfl, rfl, rfl⟩ := h
            refine ⟨fun z hz => ?_, fun z hz => ?_⟩
            · rcases List.mem_append.1 hz with hz | hz
              · exact this.1 z hz
              · rw [List.mem_singleton.1 hz]; exact hx
            · rcases List.mem_append.1 hz with hz | hz
              · exact this.2 z hz
              · rw [List.mem_singleton.1 hz]; exact hy
        · split at h
          · cases h
          · simp only [Option.some.injEq, Prod.mk.injEq] at h; obtain ⟨rfl, rfl, rfl, rfl⟩ := h
            refine ⟨fun z hz => ?_, this.2⟩
            rcases List.mem_append.1 hz with hz | hz
            · exact this.1 z hz
            · rw [List.mem_singleton.1 hz]; exact hx
theorem getD_small {l : List (List UInt8)} (h : ∀ x ∈ l, x.length ≤ 255) (i : Nat) : (l.getD i []).length ≤ 255 := by
  by_cases hi : i < l.length
  · simp only [List.getD, List.getElem?_eq_getElem hi, Option.getD_some]; exact h _ (List.getElem_mem hi)
  · simp [List.getD, List.getElem?_eq_none (Nat.le_of_not_lt hi)]
theorem csum_small {n : NodeD} (hk : ∀ x ∈ n.keys, x.length ≤ 255) (hv : ∀ x ∈ n.vals, x.length ≤ 255) : ∀ k, csum n k ≤ 1000 * k := by
  intro k
  induction k with
  | zero => simp [csum]
  | succ k ih =>
    have h1 := getD_small hk k
    have h2 := getD_small hv k
    simp only [csum, cellD, klen, vlen]
    split <;> omega
theorem startF_len {lf : Bool} {l : List UInt8} {is r} (h : startF lf l = some (is, r)) : is.length ≤ 1 := by
  cases lf <;> simp only [startF] at h
  · split at h
    · cases h
    · simp only [Option.some.injEq, Prod.mk.injEq] at h; obtain ⟨rfl, _⟩ := h; simp
  · simp only [Option.some.injEq, Prod.mk.injEq] at h; obtain ⟨rfl, _⟩ := h; simp
theorem parse_small {b : List UInt8} {n : NodeD} (h : parseF b = some n) : sizeD n ≤ 1000000000000 := by
  simp only [parseF] at h
  split at h
  · cases h
  · rename_i is0 l0 h0
    split at h
    · cases h
    · rename_i ks vs is l hi
      simp only [Option.some.injEq] at h
      subst h
      have h1 := itemsF_small hi
      have h2 := itemsF_len hi
      have h3 := csum_small (n := ⟨b.getD 0 0 == 1, ks, vs, is⟩) h1.1 h1.2 ks.length
      have h4 := (b.getD 1 0).toNat_lt
      have h5 := startF_len h0
      simp only [sizeD]
      split <;> omega

def ReadOk (P : Program) (f : FuncId) : Prop := ∀ {d : PHeap} {v : Value} {b : List UInt8}, RBytes d v b →
  GCall P f [v] d [] (Ret fun r d' L' => d' = d ∧ ∃ cs, r = .tuple #[.agg cs.toArray, .int .i64 (if (readF b).isSome then 0 else 200)] ∧ ONode d cs ((readF b).getD zeroN) L')
def g_node_Read (f_node_parse f_node_Right f_node_page f_bytes_Equal : Nat) : GFun :=
 ⟨31, [(.cell 2 (some 4)), (.tmp 3)],
 (.seq
 (.reg false (.op false ⟨(some 2), none, (.alo (.agg #[(.bool false), (.slice none 0 0), (.slice none 0 0), (.slice none 0 0)]))⟩
  (.op false ⟨(some 3), none, (.mv (.const (.int .i64 0)))⟩ .done)))
 (.seq (.seq
 (.reg false (.op false ⟨(some 6), none, (.mv (.tmp 0))⟩
  (.op false ⟨(some 7), none, (.len (.tmp 6))⟩
  (.op false ⟨(some 8), none, (.bin .neq (.tmp 7) (.const (.int .i64 256)))⟩ .done)))) (.cond (.tmp 8)
 (.seq
 (.reg false (.op false ⟨(some 9), none, (.bld [(0, 1), (1, 1), (2, 1), (3, 1)] [(.bool false), (.slice none 0 0), (.slice none 0 0), (.slice none 0 0)] [])⟩
  (.op false ⟨none, none, (.st 4 (.tmp 2) (.tmp 9))⟩
  (.op false ⟨(some 3), none, (.mv (.const (.int .i64 200)))⟩ .done)))) .ret) .skip))
 (.seq
 (.reg false (.op false ⟨(some 11), none, (.mv (.tmp 0))⟩
  (.op false ⟨(some 12), none, (.call f_node_parse [(.tmp 11)])⟩
  (.op false ⟨(some 10), none, (.mv (.tmp 12))⟩
  (.op false ⟨(some 13), none, (.ext (.tmp 10) 0)⟩
  (.op false ⟨(some 14), none, (.ext (.tmp 10) 1)⟩
  (.op false ⟨(some 4), none, (.alo (.agg #[(.bool false), (.slice none 0 0), (.slice none 0 0), (.slice none 0 0)]))⟩
  (.op false ⟨none, none, (.st 4 (.tmp 4) (.tmp 13))⟩
  (.op false ⟨(some 5), none, (.mv (.tmp 14))⟩ .done)))))))))
 (.seq (.seq
 (.reg false (.op false ⟨(some 15), none, (.mv (.tmp 5))⟩
  (.op false ⟨(some 16), none, (.un .not (.tmp 15))⟩
  (.op false ⟨(some 17), none, (.mv (.tmp 16))⟩
  (.op false ⟨(some 18), (some (17, false)), (.ld (some 4) (.tmp 4))⟩
  (.op false ⟨(some 19), (some (17, false)), (.call f_node_Right [(.tmp 18)])⟩
  (.op false ⟨(some 20), (some (17, false)), (.un .not (.tmp 19))⟩
  (.op false ⟨(some 21), none, (.pick (.tmp 17) (.const (.bool true)) (.tmp 20))⟩
  (.op false ⟨(some 22), none, (.mv (.tmp 21))⟩
  (.op false ⟨(some 23), (some (22, false)), (.ld (some 4) (.tmp 4))⟩
  (.op false ⟨(some 24), (some (22, false)), (.call f_node_page [(.tmp 23)])⟩
  (.op false ⟨(some 25), (some (22, false)), (.mv (.tmp 0))⟩
  (.op false ⟨(some 26), (some (22, false)), (.call f_bytes_Equal [(.tmp 24), (.tmp 25)])⟩
  (.op false ⟨(some 27), (some (22, false)), (.un .not (.tmp 26))⟩
  (.op false ⟨(some 28), none, (.pick (.tmp 22) (.const (.bool true)) (.tmp 27))⟩ .done))))))))))))))) (.cond (.tmp 28)
 (.seq
 (.reg false (.op false ⟨(some 29), none, (.bld [(0, 1), (1, 1), (2, 1), (3, 1)] [(.bool false), (.slice none 0 0), (.slice none 0 0), (.slice none 0 0)] [])⟩
  (.op false ⟨none, none, (.st 4 (.tmp 2) (.tmp 29))⟩
  (.op false ⟨(some 3), none, (.mv (.const (.int .i64 200)))⟩ .done)))) .ret) .skip))
 (.seq
 (.reg false (.op false ⟨(some 30), none, (.ld (some 4) (.tmp 4))⟩
  (.op false ⟨none, none, (.st 4 (.tmp 2) (.tmp 30))⟩
  (.op false ⟨(some 3), none, (.mv (.const (.int .i64 0)))⟩ .done)))) .ret)))))⟩

theorem read_ok {P : Program} {f f1 f2 f3 f4 : FuncId} (hd : dec P f = some (g_node_Read f1 f2 f3 f4)) (h1 : ParseOk P f1) (h2 : RightOk P f2) (h3 : PageOk P f3) (h4 : EqualOk P f4) : ReadOk P f := by
  intro d v b hv
  refine GCall_of hd (Nat.le_of_ble_eq_true rfl) ?_
  show gwp P _ _ _ _ _
  (apply w_sq; apply w_reg; apply w_alo; intro _ _; apply w_mvi; rfl; apply w_done0; apply w_sq; apply w_sq; apply w_reg; apply w_mv; apply w_lenR; rfl; assumption; apply w_neq; rfl; rfl; apply w_done0)
  rename_i b2 T2
  have hbad : ∀ {ρ : Env} {d' : PHeap} {L : List PHeap}, d' = d → readF b = none → ρ 2 = .pointer (some ⟨b2, 0, none⟩) → ρ 3 = .int .i64 200 → (∃ i : Nat, L[i]? = some (bx b2 T2 [.bool false, .slice none 0 0, .slice none 0 0, .slice none 0 0])) →
      retPost [.cell 2 (some 4), .tmp 3] (Ret fun r d' L' => d' = d ∧ ∃ cs, r = .tuple #[.agg cs.toArray, .int .i64 (if (readF b).isSome then 0 else 200)] ∧ ONode d cs ((readF b).getD zeroN) L') ρ d' L := by
    intro ρ d' L hdd hr e2 e3 ⟨i, hi⟩
    subst hdd
    refine finV [.agg [.bool false, .slice none 0 0, .slice none 0 0, .slice none 0 0].toArray, .int .i64 200] (L' := [emp, emp, emp]) ⟨res_cell i e2 hi rfl, res_tmp e3, trivial⟩ ((Vs.drop (List.nil_sublist _)).trans (Vs.emp.trans (Vs.emp.trans Vs.emp))) ⟨rfl, [.bool false, .slice none 0 0, .slice none 0 0, .slice none 0 0], ?_, ?_⟩
    · rw [hr]; rfl
    · rw [hr]; exact ONode.zero
  first | refine w_ifd rfl (fun hc => ?_) (fun hc => ?_) | refine w_if rfl (fun hc => ?_) (fun hc => ?_)
  · (apply w_sq; apply w_reg; apply w_bld; rfl)
    refine w_st 0 rfl rfl rfl rfl (by simp [Value.cells]) rfl ?_
    (apply w_mvi; rfl; apply w_done0; apply w_ret)
    exact hbad rfl (by simp [readF, show b.length ≠ 256 by omega]) rfl rfl ⟨0, rfl⟩
  · have hbl : b.length = 256 := by omega
    (apply w_skip; apply w_sq; apply w_reg; apply w_mv)
    refine w_call0 rfl (h1 hv (by omega)) (fun r d1 L1 _ ⟨hdd, hr⟩ => ?_)
    subst hdd
    rcases hr with ⟨cs, hp, hr, hcl, hc1, hL⟩ | ⟨cs, n, hp, hr, ho⟩
    · subst hr; subst hL
      have hcs : ∃ c1 c2 c3 c4, cs = [c1, c2, c3, c4] := by
        match cs, hcl with
        | [a, b, c, e], _ => exact ⟨a, b, c, e, rfl⟩
      obtain ⟨c1, c2, c3, c4, rfl⟩ := hcs
      (apply w_mvu; rfl; apply w_ext; rfl; rfl; apply w_ext; rfl; rfl; apply w_alo; intro _ _)
      refine w_st 0 rfl rfl rfl rfl (by simp [Value.cells]) hc1 ?_
      (apply w_mvb; rfl; apply w_done0; apply w_sq; apply w_sq; apply w_reg; apply w_mvb; rfl; apply w_not; rfl; apply w_mvb; rfl; apply w_gF; rfl; apply w_gF; rfl; apply w_gF; rfl; apply w_pickTb; rfl; rfl; apply w_mvb; rfl; apply w_gF; rfl; apply w_gF; rfl; apply w_gF; rfl; apply w_gF; rfl; apply w_gF; rfl; apply w_pickTb; rfl; rfl; apply w_done0; apply w_ifT; rfl; apply w_sq; apply w_reg; apply w_bld; rfl)
      refine w_st 1 rfl rfl rfl rfl (by simp [Value.cells]) rfl ?_
      (apply w_mvi; rfl; apply w_done0; apply w_ret)
      exact hbad rfl (by simp [readF, hp]) rfl rfl ⟨1, rfl⟩
    · subst hr
      have ho' := ho
      obtain ⟨kv, vv, iv, Lk, Lv, hi, rfl, ok, ov, oi, rfl⟩ := ho'
      obtain ⟨ka, kc, rfl⟩ := ok.val
      obtain ⟨va, vc, rfl⟩ := ov.val
      obtain ⟨ia, ic, rfl⟩ := oi.val
      have hsz := parse_small hp
      refine w_vs _ (bx b2 T2 [.bool false, .slice none 0 0, .slice none 0 0, .slice none 0 0] :: (Lk ++ Lv ++ [hi])) (Vs.perm List.perm_append_comm) ?_
      (apply w_mvu; rfl; apply w_ext; rfl; rfl; apply w_ext; rfl; rfl; apply w_alo; intro _ _)
      rename_i b4 T4
      refine w_stE 0 [.bool n.leaf, .slice ka n.keys.length kc, .slice va n.vals.length vc, .slice ia n.kids.length ic] rfl rfl rfl rfl (by simp [Value.cells]) rfl rfl ?_
      (apply w_mvb; rfl; apply w_done0; apply w_sq; apply w_sq; apply w_reg; apply w_mvb; rfl; apply w_not; rfl; apply w_mvb; rfl; apply w_gT; rfl; apply w_ldb 0; rfl; rfl; rfl; apply w_gT; rfl)
      have hrn : ∀ d2, Le d1 d2 → (∀ k ∈ (bx b4 T4 [.bool n.leaf, .slice ka n.keys.length kc, .slice va n.vals.length vc, .slice ia n.kids.length ic] :: bx b2 T2 [.bool false, .slice none 0 0, .slice none 0 0, .slice none 0 0] :: (Lk ++ Lv ++ [hi])), Le k d2) → RNode d2 [.bool n.leaf, .slice ka n.keys.length kc, .slice va n.vals.length vc, .slice ia n.kids.length ic] n :=
        fun d1 hl hk => ho.rnode hl (fun h hm => hk h (List.mem_cons_of_mem _ (List.mem_cons_of_mem _ hm)))
      refine w_pureB rfl (fun d1 hl hk => h2 (hrn d1 hl hk) hsz) ?_
      cases hr : rightB n with
      | false =>
        (apply w_gT; rfl; apply w_not; rfl; apply w_pickFb; rfl; rfl; apply w_mvb; rfl; apply w_gF; rfl; apply w_gF; rfl; apply w_gF; rfl; apply w_gF; rfl; apply w_gF; rfl; apply w_pickTb; rfl; rfl; apply w_done0; apply w_ifT; rfl; apply w_sq; apply w_reg; apply w_bld; rfl)
        refine w_stE 1 [.bool false, .slice none 0 0, .slice none 0 0, .slice none 0 0] rfl rfl rfl rfl (by simp [Value.cells]) rfl rfl ?_
        (apply w_mvi; rfl; apply w_done0; apply w_ret)
        exact hbad rfl (by simp [readF, hp, hr]) rfl rfl ⟨1, rfl⟩
      | true =>
        have hr' := hr
        simp only [rightB, Bool.and_eq_true, decide_eq_true_eq] at hr'
        (apply w_gT; rfl; apply w_not; rfl; apply w_pickFb; rfl; rfl; apply w_mvb; rfl; apply w_gT; rfl; apply w_ldb 0; rfl; rfl; rfl; apply w_gT; rfl)
        refine w_callB (Q := fun r L' => ∃ h, L' = [h] ∧ FRow 256 r (pageD n) h) rfl (fun d1 hl hk => (h3 (hrn d1 hl hk) hr'.1 hr'.2).mono (fun e d' L' _ h => by
          cases e with
          | returned v => exact h
          | panicked c => exact h
          | outgrown => exact h)) (fun r L' ⟨h, hL, hrow⟩ => ?_)
        subst hL
        (apply w_gT; rfl; apply w_mv; apply w_gT; rfl)
        refine w_pureB rfl (fun d1 hl hk => h4 (hrow.bytes (hk h (List.mem_cons_self ..)) (by omega)) (hv.mono hl)) ?_
        by_cases hpg : pageD n = b
        · rw [decide_eq_true hpg]
          (apply w_gT; rfl; apply w_not; rfl; apply w_pickFb; rfl; rfl; apply w_done0; apply w_ifF; rfl; apply w_skip; apply w_sq; apply w_reg; apply w_ldb 1; rfl; rfl; rfl)
          refine w_stE 2 [.bool n.leaf, .slice ka n.keys.length kc, .slice va n.vals.length vc, .slice ia n.kids.length ic] rfl rfl rfl rfl (by simp [Value.cells]) rfl rfl ?_
          (apply w_mvi; rfl; apply w_done0; apply w_ret)
          refine finV [.agg [.bool n.leaf, .slice ka n.keys.length kc, .slice va n.vals.length vc, .slice ia n.kids.length ic].toArray, .int .i64 0] (L' := Lk ++ Lv ++ [hi]) ⟨res_cell 2 rfl rfl rfl, res_tmp rfl, trivial⟩
            (Vs.drop ((List.sublist_cons_self _ _).trans ((List.sublist_cons_self _ _).trans (List.sublist_cons_self _ _)))) ⟨rfl, [.bool n.leaf, .slice ka n.keys.length kc, .slice va n.vals.length vc, .slice ia n.kids.length ic], ?_, ?_⟩
          · have : readF b = some n := by simp [readF, hbl, hp, hr, hpg]
            rw [this]; rfl
          · have : readF b = some n := by simp [readF, hbl, hp, hr, hpg]
            rw [this]; exact ho
        · rw [decide_eq_false hpg]
          (apply w_gT; rfl; apply w_not; rfl; apply w_pickFb; rfl; rfl; apply w_done0; apply w_ifT; rfl; apply w_sq; apply w_reg; apply w_bld; rfl)
          refine w_stE 2 [.bool false, .slice none 0 0, .slice none 0 0, .slice none 0 0] rfl rfl rfl rfl (by simp [Value.cells]) rfl rfl ?_
          (apply w_mvi; rfl; apply w_done0; apply w_ret)
          exact hbad rfl (by simp [readF, hp, hpg]) rfl rfl ⟨2, rfl⟩
end Go.Gk.Node
