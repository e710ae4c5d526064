/-
  Regions and structured code: the predicate transformer is sound, whatever order a region draws; the contract of a function from the transformer over its code.
-/
import Derived.Test.YtjbpdhljjhpeeaaGk5
import Derived.Deep.LoopGhost
namespace Go.Gk
open Go

theorem Ok.le {d d' : PHeap} {hs : List PHeap} {W : World} (x : Ok (d :: hs) W) (h : Le d' d) : Ok (d' :: hs) W := by
  rw [Ok.cons_iff] at *
  exact ⟨x.1.le h, fun k hk => (x.2.1 k hk).le h, x.2.2⟩

def lift (n : Nat) (ds : List Deferred) (F : List PHeap) (W0 : World) (d0 : PHeap) (Q : GPost) : Exit → Act → World → Prop
  | .normal, a, W => ∃ ρ d L, a = act n ρ ds ∧ Ok (d :: (L ++ F)) W ∧ Le d0 d ∧ Keep W0 W ∧ Q.n ρ d L
  | .exit i, a, W => ∃ ρ d L, a = act n ρ ds ∧ Ok (d :: (L ++ F)) W ∧ Le d0 d ∧ Keep W0 W ∧ Q.ex i ρ d L
  | .ret, a, W => ∃ ρ d L, a = act n ρ ds ∧ Ok (d :: (L ++ F)) W ∧ Le d0 d ∧ Keep W0 W ∧ Q.ret ρ d L
  | .panic c, a, W => a.defers = ds ∧ ∃ d L, Ok (d :: (L ++ F)) W ∧ Le d0 d ∧ Keep W0 W ∧ Q.pan c d L
  | _, _, _ => False

theorem decOp_spec {P : Program} {n : Nat} {ops : Array Oper} {o : Oper} {g : GOp} (h : decOp P n ops o = some g) :
    (∀ x ∈ o.op.operands, opndOk n x = true) ∧ (∀ t, o.dst = some t → t < n) ∧ (∀ cs b, o.op ≠ .select cs b) ∧ decI P o = some g.i ∧ g.dst = o.dst ∧
    ((o.guard = none ∧ g.guard = none) ∨ ∃ j want t, o.guard = some (j, want) ∧ (ops[j]?).bind (·.dst) = some t ∧ t < n ∧ g.guard = some (t, want)) := by
  unfold decOp at h
  split at h
  · rename_i hc
    simp only [Bool.and_eq_true] at hc
    obtain ⟨⟨h1, h2⟩, h3⟩ := hc
    have h1' : ∀ x ∈ o.op.operands, opndOk n x = true := by
      intro x hx
      exact (List.all_eq_true.1 h1) x (by simpa using hx)
    have h2' : ∀ t, o.dst = some t → t < n := by
      intro t ht; rw [ht] at h2; simpa [dstOk] using h2
    have h3' : ∀ cs b, o.op ≠ .select cs b := by
      intro cs b e; rw [e] at h3; simp [noSel] at h3
    split at h
    · cases h
    · rename_i i hi
      split at h
      · rename_i hg; cases h; exact ⟨h1', h2', h3', hi, rfl, .inl ⟨hg, rfl⟩⟩
      · rename_i j want hg
        split at h
        · rename_i t ht
          split at h
          · rename_i htn; cases h; exact ⟨h1', h2', h3', hi, rfl, .inr ⟨j, want, t, hg, ht, htn, rfl⟩⟩
          · cases h
        · cases h
  · cases h

theorem wanted_act {n : Nat} {ρ : Env} {ds : List Deferred} {ops : Array Oper} {o : Oper} {j t : Nat} {want b : Bool} (hg : o.guard = some (j, want)) (ht : (ops[j]?).bind (·.dst) = some t) (htn : t < n)
    (hb : ρ t = .bool b) : Region.wanted o (yielded ops (act n ρ ds).tmps) = (b == want) := by
  have : yielded ops (act n ρ ds).tmps j = some b := by
    unfold yielded
    have h2 : (act n ρ ds).tmps[t]? = some (.bool b) := by simp [act, htn, hb]
    simp only [ht, Option.bind_some, h2]
  simp [Region.wanted, hg, this]

theorem wanted_undef {n : Nat} {ρ : Env} {ds : List Deferred} {ops : Array Oper} {o : Oper} {j t : Nat} {want : Bool} (hg : o.guard = some (j, want)) (ht : (ops[j]?).bind (·.dst) = some t) (htn : t < n)
    (hb : ρ t = undef) : Region.wanted o (yielded ops (act n ρ ds).tmps) = false := by
  have : yielded ops (act n ρ ds).tmps j = none := by
    unfold yielded
    have h2 : (act n ρ ds).tmps[t]? = some undef := by simp [act, htn, hb]
    simp only [ht, Option.bind_some, h2, undef]
  simp [Region.wanted, hg, this]

theorem gop_sound {P : Program} {n : Nat} {ds : List Deferred} {ops : Array Oper} {i : Nat} {o : Oper} {g : GOp} (hi : ops[i]? = some o) (hd : decOp P n ops o = some g)
    {pan : List PanicEntry → Post} {ρ : Env} {d : PHeap} {Lk L F : List PHeap} {K : Env → Post} {W : World} (hOk : Ok (d :: (L ++ F)) W) (hl : ∀ k ∈ Lk, Sub k W)
    (h : gop P pan g ρ d Lk L K) {Q : Exit → Act → World → Prop} {nxt : Act → World → Prop}
    (hK : ∀ ρ' d' L' W', Ok (d' :: (L' ++ F)) W' → Le d d' → Keep W W' → K ρ' d' L' → nxt (act n ρ' ds) W')
    (hP : ∀ c d' L' W', Ok (d' :: (L' ++ F)) W' → Le d d' → Keep W W' → pan c d' L' → Q (.panic c) (act n ρ ds) W') : wpOp P ops Q i nxt (act n ρ ds) W := by
  obtain ⟨hop, hdst, _, hdi, hgd, hgu⟩ := decOp_spec hd
  unfold wpOp
  simp only [hi]
  have run : gi P pan ρ d Lk L (fun v d' L' => K (put ρ g.dst v) d' L') g.i → o.wp P (act n ρ ds) W nxt Q := by
    intro h'
    refine gi_sound hdi hop hOk hl h' ?_ hP
    intro v d' L' W' h1 h2 h3 h4
    rw [act_put hdst, ← hgd]
    exact hK _ _ _ _ h1 h2 h3 h4
  rcases hgu with ⟨hg, hg'⟩ | ⟨j, want, t, hg, ht, htn, hg'⟩
  · have : Region.wanted o (yielded ops (act n ρ ds).tmps) = true := by simp [Region.wanted, hg]
    simp only [this, if_true]
    simp only [gop, hg'] at h
    exact .inl (run h)
  · simp only [gop, hg'] at h
    rcases h with ⟨b, hb, h1, h2⟩ | ⟨hb, h2⟩
    case inr =>
      rw [wanted_undef hg ht htn hb]
      simp only [Bool.false_eq_true, if_false]
      rw [act_put hdst, ← hgd]
      exact hK _ _ _ _ hOk (Le.refl d) (Keep.refl W) h2
    rw [wanted_act hg ht htn hb]
    by_cases e : b = want
    · subst e
      simp only [beq_self_eq_true, if_true]
      exact .inl (run (h1 rfl))
    · have e' : (b == want) = false := by simpa using e
      simp only [e', Bool.false_eq_true, if_false]
      rw [act_put hdst, ← hgd]
      exact hK _ _ _ _ hOk (Le.refl d) (Keep.refl W) (h2 (by cases b <;> cases want <;> simp_all))

/-! ### A region in the text's order -/
theorem straight_sound {P : Program} {n : Nat} {ds : List Deferred} {ops : Array Oper} {Q : GPost} {F : List PHeap} {W0 : World} {d0 : PHeap} : ∀ (l : List Nat) (s : GS), toGS P n ops (straight l) = some s →
    ∀ (ρ : Env) (d : PHeap) (L : List PHeap) (W : World), gws P Q.pan Q.n s [] ρ d L → Ok (d :: (L ++ F)) W → Le d0 d → Keep W0 W → wpOps P ops (lift n ds F W0 d0 Q) l (act n ρ ds) W
  | [], s, hs, ρ, d, L, W, h, hOk, hle, hk => by
    simp [straight, toGS] at hs; subst hs
    obtain ⟨d1, L1, hv, hq⟩ := h
    exact ⟨ρ, d1, L1, rfl, hv.2 F W (by simpa using hOk), hle.trans hv.1, hk, hq⟩
  | i :: l, s, hs, ρ, d, L, W, h, hOk, hle, hk => by
    simp only [straight, toGS] at hs
    split at hs <;> try cases hs
    rename_i g s' hg hs'
    rw [Option.bind_eq_some_iff] at hg
    obtain ⟨o, ho, hd⟩ := hg
    obtain ⟨d1, L1, hv, h⟩ := h
    rw [wpOps_cons]
    have hOk1 := hv.2 F W hOk
    refine gop_sound ho hd hOk1 (fun k hk => hOk1.2 k (by simp at hk; simp [hk])) h ?_ ?_
    · intro ρ' d' L' W' h1 h2 h3 ⟨d2, L2, hv2, h4⟩
      exact straight_sound l s' hs' ρ' d2 L2 W' h4 (hv2.2 F W' h1) (hle.trans ((hv.1.trans h2).trans hv2.1)) (hk.trans h3)
    · intro c d' L' W' h1 h2 h3 h4
      exact ⟨rfl, d', L', h1, hle.trans (hv.1.trans h2), hk.trans h3, h4⟩

/-! ### A region that draws its order -/
section
variable {P : Program} {ops : Array Oper} {Q : Exit → Act → World → Prop}

/-- Whatever order is picked; S holds behind every operation that is carried out. -/
def AnyB (P : Program) (ops : Array Oper) (Q : Exit → Act → World → Prop) (S : Bool → World → Prop) (bs : List Bool) : Nat → Array Bool → Act → World → Prop
  | 0, listed, a, w => Region.ready .any ops listed = [] ∧ Q .normal a w
  | k + 1, listed, a, w => (Region.ready .any ops listed = [] → Q .normal a w) ∧
    ∀ i ∈ Region.ready .any ops listed, wpOp P ops Q i (fun a' w' => S (bs.getD i false) w' ∧ AnyB P ops Q S bs k (listed.setIfInBounds i true) a' w') a w

theorem AnyB.any {S : Bool → World → Prop} {bs : List Bool} : ∀ (k : Nat) (listed : Array Bool) (a : Act) (w : World), AnyB P ops Q S bs k listed a w → wpAny P .any ops Q k listed a w
  | 0, _, _, _, h => h
  | k + 1, _, _, _, h => ⟨h.1, fun i hi => wpOp_mono (fun a' w' h' => AnyB.any k _ a' w' h'.2) (h.2 i hi)⟩

theorem AnyB.mono {S S' : Bool → World → Prop} {bs : List Bool} (hs : ∀ b w, S' b w → S b w) : ∀ (k : Nat) (listed : Array Bool) (a : Act) (w : World), AnyB P ops Q S' bs k listed a w → AnyB P ops Q S bs k listed a w
  | 0, _, _, _, h => h
  | k + 1, _, _, _, h => ⟨h.1, fun i hi => wpOp_mono (fun a' w' h' => ⟨hs _ _ h'.1, AnyB.mono hs k _ a' w' h'.2⟩) (h.2 i hi)⟩

theorem AnyB.done {S : Bool → World → Prop} {bs : List Bool} {listed : Array Bool} {a : Act} {w : World} (hr : Region.ready .any ops listed = []) (h : Q .normal a w) : ∀ k, AnyB P ops Q S bs k listed a w
  | 0 => ⟨hr, h⟩
  | _ + 1 => ⟨fun _ => h, by rw [hr]; simp⟩

theorem lastOk_spec {bs : List Bool} (h : lastOk ops bs = true) {i j : Nat} {oi oj : Oper} (hi : ops[i]? = some oi) (hj : ops[j]? = some oj) (bj : bs.getD j false = true) (bi : bs.getD i false = false) :
    ∃ e ∈ oj.after, Region.binds .any e = true ∧ e.on = i := by
  have hil := (Array.getElem?_eq_some_iff.1 hi).1
  have hjl := (Array.getElem?_eq_some_iff.1 hj).1
  simp only [lastOk, List.all_eq_true, List.mem_range, Bool.or_eq_true] at h
  have h1 := h j hjl
  rw [bj] at h1
  rcases h1 with h1 | h1
  · cases h1
  · rcases h1 i hil with h2 | h2
    · rw [bi] at h2; cases h2
    · rw [hj] at h2
      simp only [Option.any_some, waits] at h2
      obtain ⟨e, he, hb⟩ := Array.any_eq_true'.1 h2
      simp only [Bool.and_eq_true, beq_iff_eq] at hb
      exact ⟨e, he, hb.1, hb.2⟩

theorem AnyB.first {S : Bool → World → Prop} {bs : List Bool} {i : Nat} {oi : Oper} {v : Value} (hi : ops[i]? = some oi) (hsel : ∀ (j : Nat) (o : Oper) cs b, ops[j]? = some o → o.op ≠ .select cs b)
    (hQ : ∀ c a w, Q (.panic c) (a.put oi.dst v) w → Q (.panic c) a w) (hlast : lastOk ops bs = true) (hS : ∀ w, S false w → S true w) :
    ∀ (k : Nat) (listed : Array Bool) (a : Act) (w : World),
      (∀ j oj, ops[j]? = some oj → j ≠ i → listed.getD j true = false → (∀ e ∈ oj.after, Region.binds .any e = true → e.on ≠ i) → oi.apart ops oj = true) →
      i ∈ Region.ready .any ops listed → YieldsIf P ops (S (bs.getD i false)) oi v a → S (bs.getD i false) w →
      AnyB P ops Q S bs k (listed.setIfInBounds i true) (a.put oi.dst v) w → AnyB P ops Q S bs (k + 1) listed a w := by
  intro k
  induction k with
  | zero =>
    intro listed a w _ hr hy hSw H
    refine ⟨fun h => (by rw [h] at hr; cases hr), fun j hj => ?_⟩
    by_cases hji : j = i
    · subst hji; exact hy.wpOp hi hSw ⟨hSw, H⟩
    · have := ready_mono hj hji
      rw [H.1] at this
      cases this
  | succ k ih =>
    intro listed a w hfree hr hy hSw H
    refine ⟨fun h => (by rw [h] at hr; cases hr), fun j hj => ?_⟩
    by_cases hji : j = i
    · subst hji; exact hy.wpOp hi hSw ⟨hSw, H⟩
    · have h1 := H.2 j (ready_mono hj hji)
      obtain ⟨hjun, oj, hoj, hall⟩ := mem_ready.1 hj
      have hnot : ∀ e ∈ oj.after, Region.binds .any e = true → e.on ≠ i := fun e he hb heq => by
        have h1 := hall e he hb
        have h0 := (mem_ready.1 hr).1
        rw [heq] at h1
        rcases Nat.lt_or_ge i listed.size with h' | h'
        · simp [h'] at h0 h1; rw [h0] at h1; cases h1
        · simp [Array.getElem?_eq_none h'] at h1
      have hSj : ∀ w', S (bs.getD j false) w' → S (bs.getD i false) w' := by
        intro w' hw'
        cases bi : bs.getD i false with
        | true => cases bj : bs.getD j false with
          | true => rw [bj] at hw'; exact hw'
          | false => rw [bj] at hw'; exact hS _ hw'
        | false => cases bj : bs.getD j false with
          | false => rw [bj] at hw'; exact hw'
          | true =>
            obtain ⟨e, he, hb, hon⟩ := lastOk_spec hlast hi hoj bj bi
            exact absurd hon (hnot e he hb)
      have h2 := wpOp_putIf hoj (hfree j oj hoj hji hjun hnot) (fun cs b => hsel i oi cs b hi) (fun cs b => hsel j oj cs b hoj) hQ hy h1
      have hfree' : ∀ k ok, ops[k]? = some ok → k ≠ i → (listed.setIfInBounds j true).getD k true = false →
          (∀ e ∈ ok.after, Region.binds .any e = true → e.on ≠ i) → oi.apart ops ok = true := fun k ok hk hki hun hno => by
        refine hfree k ok hk hki ?_ hno
        by_cases hjk : j = k
        · subst hjk; exact hjun
        · rw [getD_set_ne true hjk] at hun; exact hun
      refine wpOp_mono (fun a' w' h3 => ⟨h3.2.1, ih (listed.setIfInBounds j true) a' w' hfree' (ready_mono hr (Ne.symm hji)) h3.1 (hSj _ h3.2.1) ?_⟩) h2
      rw [Array.setIfInBounds_comm _ _ hji]
      exact h3.2.2
end

/-- What stays true of the world while some operations may be pending. -/
def St (past : Bool) (d : PHeap) (Ls F : List PHeap) (b : Bool) (w : World) : Prop := Ok (d :: F) w ∧ (b = false → past = false ∧ Ok (d :: (Ls ++ F)) w)

theorem St.le {past : Bool} {d d' : PHeap} {Ls F : List PHeap} {b : Bool} {w : World} (h : St past d Ls F b w) (hl : Le d' d) : St past d' Ls F b w :=
  ⟨h.1.le hl, fun e => ⟨(h.2 e).1, (h.2 e).2.le hl⟩⟩

theorem any_sound {P : Program} {n : Nat} {ds : List Deferred} {ops : Array Oper} {Q : GPost} {F : List PHeap} {W0 : World} {d0 : PHeap} {bs : List Bool} (hsel : Region.noSelect ops = true) (hlast : lastOk ops bs = true) :
    ∀ (si : SI) (top past : Bool) (listed : Array Bool) (s : GS) (ρ : Env) (d : PHeap) (L Ls : List PHeap) (k : Nat) (W : World), chk ops (quietAt P ops) bs top past listed si = true → toGS P n ops si = some s → (past = true → Ls = []) →
      gws P Q.pan Q.n s Ls ρ d L → Ok (d :: (L ++ (Ls ++ F))) W → Le d0 d → Keep W0 W → si.steps ≤ k →
      (top = true → AnyB P ops (lift n ds F W0 d0 Q) (St past d Ls F) bs k listed (act n ρ ds) W) ∧
      (top = false → ∀ i ∈ si.heads, wpOp P ops (lift n ds F W0 d0 Q) i (fun a' w' => St past d Ls F (bs.getD i false) w' ∧ AnyB P ops (lift n ds F W0 d0 Q) (St past d Ls F) bs (k - 1) (listed.setIfInBounds i true) a' w') (act n ρ ds) W) := by
  have okS : ∀ {past : Bool} {d : PHeap} {L Ls F : List PHeap} {W : World} {b : Bool}, Ok (d :: (L ++ (Ls ++ F))) W → past = b → St past d Ls F b W := by
    intro past d L Ls F W b x e
    have x1 : Ok (d :: (Ls ++ F)) W := x.sub (List.Sublist.cons_cons d (List.sublist_append_right L _))
    exact ⟨x1.sub (List.Sublist.cons_cons d (List.sublist_append_right Ls F)), fun hb => ⟨e.trans hb, x1⟩⟩
  have front : ∀ {d : PHeap} {L Ls F : List PHeap} {W : World}, Ok (d :: (L ++ (Ls ++ F))) W → Ok (d :: ((Ls ++ L) ++ F)) W := by
    intro d L Ls F W x
    exact x.perm (List.Perm.cons d (by rw [← List.append_assoc]; exact (List.perm_append_comm).append_right F))
  intro si
  induction si with
  | done =>
    intro top past listed s ρ d L Ls k W hc hs hp h hOk hle hk hst
    simp only [chk, Bool.and_eq_true, beq_iff_eq] at hc
    simp [toGS] at hs; subst hs
    obtain ⟨d1, L1, hv, hq⟩ := h
    exact ⟨fun _ => AnyB.done hc.2 ⟨ρ, d1, L1, rfl, hv.2 F W (front hOk), hle.trans hv.1, hk, hq⟩ k, fun ht => by rw [ht] at hc; simp at hc⟩
  | op tk i si ih =>
    intro top past listed s ρ d L Ls k W hc hs hp h hOk hle hk hst
    simp only [toGS] at hs
    split at hs <;> try cases hs
    rename_i g s' hg hs'
    rw [Option.bind_eq_some_iff] at hg
    obtain ⟨o, ho, hd⟩ := hg
    obtain ⟨hop, hdst, _, hdi, hgd, hgu⟩ := decOp_spec hd
    simp only [SI.steps] at hst
    obtain ⟨k, rfl⟩ : ∃ k', k = k' + 1 := ⟨k - 1, by omega⟩
    cases tk with
    | true =>
      simp only [chk, Bool.and_eq_true, beq_iff_eq] at hc
      obtain ⟨⟨⟨⟨⟨ht, hqi⟩, hpb⟩, hf⟩, hr⟩, hc'⟩ := hc
      have hquiet : g.i.quiet = true := by
        simp only [quietAt, ho, Option.bind_some, hdi, Option.any_some] at hqi
        exact hqi
      refine ⟨fun _ => ?_, fun ht' => by rw [ht'] at ht; cases ht⟩
      have goOn : ∀ v, YieldsIf P ops (St past d Ls F (bs.getD i false)) o v (act n ρ ds) → gws P Q.pan Q.n s' Ls (put ρ g.dst v) d L →
          AnyB P ops (lift n ds F W0 d0 Q) (St past d Ls F) bs (k + 1) listed (act n ρ ds) W := by
        intro v hy hw
        refine AnyB.first ho (Region.noSelect_spec hsel) (fun c a w hh => ?_) hlast (fun w hw => ⟨hw.1, fun e => by cases e⟩) k listed _ W (Region.free_spec ho hf) (by simpa using hr) hy (okS hOk hpb) ?_
        · obtain ⟨h1, h2⟩ := hh
          refine ⟨?_, h2⟩
          cases hdd : o.dst with
          | none => rw [hdd] at h1; exact h1
          | some t => rw [hdd] at h1; exact h1
        · rw [act_put hdst, ← hgd]
          exact ((ih true past _ s' _ d L Ls k W hc' hs' hp hw hOk hle hk (by omega)).1 rfl)
      have look : ∀ w, St past d Ls F (bs.getD i false) w → ∀ a v, HC d Ls a v → w.cell? a = some v := by
        intro w hw a v hc
        refine hc.cell hw.1.head (fun q hq => ?_)
        cases hbi : bs.getD i false with
        | true => rw [hbi] at hpb; rw [hp hpb] at hq; cases hq
        | false => exact (hw.2 hbi).2.2 q (by simp [hq])
      rcases hgu with ⟨hgn, hg'⟩ | ⟨j, want, t, hgn, ht2, htn, hg'⟩
      · simp only [gws, gop, hg'] at h
        rw [gi_quiet hquiet] at h
        obtain ⟨v, hv, hK⟩ := h
        refine goOn v (.inl ⟨by simp [Region.wanted, hgn], fun w hw => ?_⟩) hK
        exact evq_sound hdi hquiet hv (fun x hx => act_eval (hop x hx)) (look w hw)
      · simp only [gws, gop, hg'] at h
        rcases h with ⟨b, hb, h1, h2⟩ | ⟨hb, h2⟩
        case inr => exact goOn undef (.inr ⟨wanted_undef hgn ht2 htn hb, rfl⟩) h2
        by_cases e : b = want
        · have h1 := h1 e
          rw [gi_quiet hquiet] at h1
          obtain ⟨v, hv, hK⟩ := h1
          refine goOn v (.inl ⟨by rw [wanted_act hgn ht2 htn hb]; simp [e], fun w hw => ?_⟩) hK
          exact evq_sound hdi hquiet hv (fun x hx => act_eval (hop x hx)) (look w hw)
        · refine goOn undef (.inr ⟨by rw [wanted_act hgn ht2 htn hb]; simpa using e, rfl⟩) (h2 (by cases b <;> cases want <;> simp_all))
    | false =>
      simp only [chk, Bool.and_eq_true, beq_iff_eq] at hc
      obtain ⟨⟨hr, hpb⟩, hc'⟩ := hc
      obtain ⟨d1, L1, hv, h⟩ := h
      have hOk1 := hv.2 (Ls ++ F) W hOk
      have step : wpOp P ops (lift n ds F W0 d0 Q) i (fun a' w' => St past d Ls F (bs.getD i false) w' ∧ AnyB P ops (lift n ds F W0 d0 Q) (St past d Ls F) bs k (listed.setIfInBounds i true) a' w') (act n ρ ds) W := by
        refine gop_sound ho hd hOk1 (fun q hq => hOk1.2 q (by simp at hq; rcases hq with hq | hq <;> simp [hq])) h ?_ ?_
        · intro ρ' d' L' W' h1 h2 h3 ⟨d2, L2, hv2, h4⟩
          have hdd := hv.1.trans h2
          refine ⟨(okS h1 hpb).le hdd, ?_⟩
          exact AnyB.mono (fun b w hw => hw.le (hdd.trans hv2.1)) _ _ _ _ ((ih true past _ s' ρ' d2 L2 Ls k W' hc' hs' hp h4 (hv2.2 _ W' h1) (hle.trans (hdd.trans hv2.1)) (hk.trans h3) (by omega)).1 rfl)
        · intro c d' L' W' h1 h2 h3 h4
          exact ⟨rfl, d', Ls ++ L', front h1, hle.trans (hv.1.trans h2), hk.trans h3, h4⟩
      refine ⟨fun ht => ?_, fun _ j hj => ?_⟩
      · rw [ht] at hr
        simp only [Bool.not_true, Bool.false_or, beq_iff_eq] at hr
        refine ⟨fun h0 => by rw [h0] at hr; simp at hr, fun j hj => ?_⟩
        rw [hr] at hj
        simp at hj; subst hj
        exact step
      · simp only [SI.heads, List.mem_singleton] at hj
        subst hj
        exact step
  | alt i si ti ih1 ih2 =>
    intro top past listed s ρ d L Ls k W hc hs hp h hOk hle hk hst
    simp only [toGS] at hs
    split at hs <;> try cases hs
    rename_i g s' t' hg hs' ht'
    rw [Option.bind_eq_some_iff] at hg
    obtain ⟨o, ho, hd⟩ := hg
    simp only [SI.steps] at hst
    obtain ⟨k, rfl⟩ : ∃ k', k = k' + 1 := ⟨k - 1, by omega⟩
    simp only [chk, Bool.and_eq_true, beq_iff_eq] at hc
    obtain ⟨⟨⟨hr, hpb⟩, hc1⟩, hc2⟩ := hc
    obtain ⟨⟨d1, L1, hv, h⟩, hrest⟩ := h
    have hOk1 := hv.2 (Ls ++ F) W hOk
    have step : wpOp P ops (lift n ds F W0 d0 Q) i (fun a' w' => St past d Ls F (bs.getD i false) w' ∧ AnyB P ops (lift n ds F W0 d0 Q) (St past d Ls F) bs k (listed.setIfInBounds i true) a' w') (act n ρ ds) W := by
      refine gop_sound ho hd hOk1 (fun q hq => hOk1.2 q (by simp at hq; rcases hq with hq | hq <;> simp [hq])) h ?_ ?_
      · intro ρ' d' L' W' h1 h2 h3 ⟨d2, L2, hv2, h4⟩
        have hdd := hv.1.trans h2
        refine ⟨(okS h1 hpb).le hdd, ?_⟩
        exact AnyB.mono (fun b w hw => hw.le (hdd.trans hv2.1)) _ _ _ _ ((ih1 true past _ s' ρ' d2 L2 Ls k W' hc1 hs' hp h4 (hv2.2 _ W' h1) (hle.trans (hdd.trans hv2.1)) (hk.trans h3) (by omega)).1 rfl)
      · intro c d' L' W' h1 h2 h3 h4
        exact ⟨rfl, d', Ls ++ L', front h1, hle.trans (hv.1.trans h2), hk.trans h3, h4⟩
    have others := (ih2 false past listed t' ρ d L Ls (k + 1) W hc2 ht' hp hrest hOk hle hk (by omega)).2 rfl
    have all : ∀ j ∈ i :: ti.heads, wpOp P ops (lift n ds F W0 d0 Q) j (fun a' w' => St past d Ls F (bs.getD j false) w' ∧ AnyB P ops (lift n ds F W0 d0 Q) (St past d Ls F) bs k (listed.setIfInBounds j true) a' w') (act n ρ ds) W := by
      intro j hj
      rcases List.mem_cons.1 hj with rfl | hj
      · exact step
      · exact others j hj
    refine ⟨fun ht => ?_, fun _ j hj => all j hj⟩
    rw [ht] at hr
    simp only [Bool.not_true, Bool.false_or, beq_iff_eq] at hr
    refine ⟨fun h0 => by rw [h0] at hr; simp at hr, fun j hj => ?_⟩
    rw [hr] at hj
    exact all j hj
  | bar si ih =>
    intro top past listed s ρ d L Ls k W hc hs hp h hOk hle hk hst
    simp only [chk, Bool.and_eq_true, Bool.not_eq_true'] at hc
    obtain ⟨⟨ht, hpf⟩, hc'⟩ := hc
    simp only [toGS, Option.map_eq_some_iff] at hs
    obtain ⟨s', hs', rfl⟩ := hs
    simp only [gws] at h
    refine ⟨fun _ => ?_, fun ht' => by rw [ht'] at ht; cases ht⟩
    have := (ih true true listed s' ρ d (Ls ++ L) [] k W hc' hs' (fun _ => rfl) h (by simpa using front hOk) hle hk hst).1 rfl
    exact AnyB.mono (fun b w hw => ⟨hw.1, fun e => by have := (hw.2 e).1; cases this⟩) _ _ _ _ this

theorem region_drawn {P : Program} {n : Nat} {ds : List Deferred} {ops : Array Oper} {Q : GPost} {F : List PHeap} {W0 : World} {d0 : PHeap} {id : Nat} (hm : P.follows .mixedOrders = true)
    {s : GS} (hs : decR P n ops true = some s) {ρ : Env} {d : PHeap} {L Ls : List PHeap} {W : World} (h : gws P Q.pan Q.n s Ls ρ d L) (hOk : Ok (d :: (L ++ (Ls ++ F))) W) (hle : Le d0 d) (hk : Keep W0 W) :
    (Code.region id ops true).wp P (lift n ds F W0 d0 Q) (act n ρ ds) W := by
  simp only [decR] at hs
  split at hs
  · rename_i hc
    simp only [Bool.and_eq_true, decide_eq_true_eq] at hc
    obtain ⟨⟨⟨h1, h2⟩, h3⟩, h4⟩ := hc
    refine wp_region_any hm (AnyB.any _ _ _ _ ((any_sound h1 h2 _ true false _ s ρ d L Ls ops.size _ h4 hs (fun e => by cases e) h hOk.drew hle ?_ h3).1 rfl))
    exact hk.trans ⟨rfl, rfl, rfl, Nat.le_refl _⟩
  · cases hs

/-! ### Structured code -/
theorem gwp_sound {P : Program} {n : Nat} {ds : List Deferred} {F : List PHeap} {W0 : World} {d0 : PHeap} (hm : P.follows .mixedOrders = true) :
    ∀ (c : Code) (Q : GPost) (ρ : Env) (d : PHeap) (L : List PHeap) (W : World), gwp P (decC P n c) Q ρ d L → Ok (d :: (L ++ F)) W → Le d0 d → Keep W0 W → c.wp P (lift n ds F W0 d0 Q) (act n ρ ds) W := by
  intro c
  induction c with
  | skip =>
    intro Q ρ d L W h hOk hle hk
    exact wp_skip ⟨ρ, d, L, rfl, hOk, hle, hk, h⟩
  | region id ops drawn =>
    intro Q ρ d L W h hOk hle hk
    simp only [decC] at h
    cases hs : decR P n ops drawn with
    | none => rw [hs] at h; exact h.elim
    | some s =>
    rw [hs] at h
    cases drawn with
    | false =>
      simp only [decR] at hs
      exact wp_region (straight_sound _ s hs ρ d L W h hOk hle hk)
    | true =>
      obtain ⟨d1, Ls, L1, hv, h⟩ := h
      have hOk1 := hv.2 F W hOk
      refine region_drawn hm hs h (hOk1.perm (List.Perm.cons d1 ?_)) (hle.trans hv.1) hk
      rw [← List.append_assoc]
      exact (List.perm_append_comm).append_right F
  | seq a b iha ihb =>
    intro Q ρ d L W h hOk hle hk
    refine wp_seq (wp_mono (iha _ ρ d L W h hOk hle hk) ?_)
    intro e a w hq
    cases e with
    | normal =>
      obtain ⟨ρ', d', L', rfl, h1, h2, h3, h4⟩ := hq
      exact ihb Q ρ' d' L' w h4 h1 h2 h3
    | _ => exact hq
  | cond c a b iha ihb =>
    intro Q ρ d L W h hOk hle hk
    simp only [decC] at h
    split at h
    · rename_i hc
      obtain ⟨t, ht, h1, h2⟩ := h
      exact wp_cond_split (by rw [act_eval hc]; exact ht) (fun e => iha Q ρ d L W (h1 e) hOk hle hk) (fun e => ihb Q ρ d L W (h2 e) hOk hle hk)
    · exact h.elim
  | block id a iha =>
    intro Q ρ d L W h hOk hle hk
    refine wp_block (wp_mono (iha _ ρ d L W h hOk hle hk) ?_)
    intro e a w hq
    cases e with
    | exit i =>
      obtain ⟨ρ', d', L', rfl, h1, h2, h3, h4⟩ := hq
      simp only [Exit.inBlock]
      by_cases e : i = id
      · simp only [e, if_true] at h4 ⊢
        exact ⟨ρ', d', L', rfl, h1, h2, h3, h4⟩
      · simp only [if_neg e] at h4 ⊢
        exact ⟨ρ', d', L', rfl, h1, h2, h3, h4⟩
    | _ => exact hq
  | loop a iha =>
    intro Q ρ d L W h hOk hle hk
    obtain ⟨I, ⟨m, hI⟩, round⟩ := h
    refine wp_loop_ghost (fun m a w => ∃ ρ d L, a = act n ρ ds ∧ Ok (d :: (L ++ F)) w ∧ Le d0 d ∧ Keep W0 w ∧ I m ρ d L) m ⟨ρ, d, L, rfl, hOk, hle, hk, hI⟩ ?_
    rintro m a w ⟨ρ', d', L', rfl, h1, h2, h3, h4⟩
    refine wp_mono (iha _ ρ' d' L' w (round m ρ' d' L' h4) h1 h2 h3) ?_
    intro e a w hq
    cases e with
    | normal =>
      obtain ⟨ρ'', d'', L'', rfl, k1, k2, k3, m', k4, k5⟩ := hq
      exact ⟨m', k4, ρ'', d'', L'', rfl, k1, k2, k3, k5⟩
    | _ => exact hq
  | exit id =>
    intro Q ρ d L W h hOk hle hk
    exact wp_exit ⟨ρ, d, L, rfl, hOk, hle, hk, h⟩
  | ret =>
    intro Q ρ d L W h hOk hle hk
    exact wp_ret ⟨ρ, d, L, rfl, hOk, hle, hk, h⟩
  | _ => intro Q ρ d L W h; exact h.elim

/-! ### The contract of a function -/
def resOne (ρ : Env) (C : Addr → Value → Prop) : GRes → Value → Prop
  | .tmp t, v => v = ρ t
  | .cell t n, v => evq ρ C (.ld n (.tmp t)) v

def resAll (ρ : Env) (C : Addr → Value → Prop) : List GRes → List Value → Prop
  | [], [] => True
  | r :: rs, v :: vs => resOne ρ C r v ∧ resAll ρ C rs vs
  | _, _ => False

def resV : List Value → Value
  | [v] => v
  | vs => .tuple vs.toArray

/-- Where the body returns: the results, and what is left of the blocks. -/
def retPost (res : List GRes) (R : Ending → PHeap → List PHeap → Prop) (ρ : Env) (d : PHeap) (L : List PHeap) : Prop :=
  ∃ vs, resAll ρ (HC d L) res vs ∧ ∃ d' L', Vs d L d' L' ∧ R (.returned (resV vs)) d' L'

def mkPost (res : List GRes) (R : Ending → PHeap → List PHeap → Prop) : GPost :=
  { n := retPost res R, ex := fun _ _ _ _ => False, ret := retPost res R, pan := fun c d L => ∃ d' L', Vs d L d' L' ∧ R (.panicked c) d' L' }

def env0 (args : List Value) : Env := fun i => args.getD i undef

def res1 (tmps : Array Value) : ResultVar → Sem Value
  | .tmp t => pure (tmps.getD t undef)
  | .cell a t => do loadVar t (← asAddr (tmps.getD a undef))
theorem results_eq (fn : Func) (tmps : Array Value) : results fn tmps = (do let vs ← fn.results.mapM (res1 tmps); pure (if h : vs.size = 1 then vs[0] else .tuple vs)) := rfl

theorem results_run {P : Program} {n : Nat} {ρ : Env} {ds : List Deferred} {d : PHeap} {L : List PHeap} {W : World} (hl : ∀ a v, HC d L a v → W.cell? a = some v) :
    ∀ (rs : List ResultVar) (gs : List GRes) (vs : List Value), rs.mapM (decRes P n) = some gs → resAll ρ (HC d L) gs vs →
      (rs.mapM (res1 (act n ρ ds).tmps)).run P W = .ok vs W
  | [], gs, vs, hg, h => by
    simp at hg; subst hg
    cases vs with
    | nil => simp
    | cons => simp [resAll] at h
  | r :: rs, gs, vs, hg, h => by
    simp only [List.mapM_cons, Option.bind_eq_bind, Option.bind_eq_some_iff, Option.pure_def, Option.some.injEq] at hg
    obtain ⟨g, hr, gs', hgs, rfl⟩ := hg
    cases vs with
    | nil => simp [resAll] at h
    | cons v vs =>
      obtain ⟨h1, h2⟩ := h
      have ih := results_run (ds := ds) hl rs gs' vs hgs h2
      have get : ∀ t, t < n → (act n ρ ds).tmps.getD t undef = ρ t := by
        intro t ht; simp [act, ht, Array.getD]
      simp only [List.mapM_cons, Sem.run_bind]
      have one : (res1 (act n ρ ds).tmps r).run P W = .ok v W := by
        cases r with
        | tmp t =>
          simp only [decRes] at hr
          split at hr <;> try cases hr
          rename_i ht
          simp only [resOne] at h1; subst h1
          simp only [res1, get t ht, Sem.run_pure]
        | cell t ty =>
          simp only [decRes] at hr
          split at hr <;> try cases hr
          rename_i ht
          simp only [Option.map_eq_some_iff] at hr
          obtain ⟨m, hm, rfl⟩ := hr
          simp only [resOne] at h1
          have ldv : ∀ a, (loadVar ty a).run P W = (Instr.loadAt ty (.pointer (some a))).run P W := by intro a; simp [Instr.loadAt, Instr.sureAddr]
          cases m with
          | none =>
            obtain ⟨b, o, e1, e2⟩ := h1
            have e1 : ρ t = .pointer (some ⟨b, o, none⟩) := e1
            simp only [res1, Sem.run_bind, get t ht, e1, asAddr, Sem.run_pure, Result.andThen, ldv, run_ld1 hm _ _ W (hl _ _ e2)]
          | some m =>
            obtain ⟨b, o, cs, e1, e2, e3, rfl⟩ := h1
            have e1 : ρ t = .pointer (some ⟨b, o, none⟩) := e1
            simp only [res1, Sem.run_bind, get t ht, e1, asAddr, Sem.run_pure, Result.andThen, ldv, run_ldn hm b o cs e2 W (fun i u hu => hl _ _ (e3 i u hu))]
      rw [one]
      simp only [Result.andThen, ih, Sem.run_pure]

theorem GCall_of {P : Program} {f : FuncId} {g : GFun} (hd : dec P f = some g) {args : List Value} (ha : args.length ≤ g.n) {d : PHeap} {L : List PHeap} {R : Ending → PHeap → List PHeap → Prop}
    (h : gwp P g.code (mkPost g.res R) (env0 args) d L) : GCall P f args d L R := by
  simp only [dec] at hd
  split at hd <;> try cases hd
  rename_i fn hf
  split at hd <;> try cases hd
  rename_i hn
  split at hd <;> try cases hd
  rename_i c hb
  rw [Option.map_eq_some_iff] at hd
  obtain ⟨rs, hr, rfl⟩ := hd
  simp only [Bool.or_eq_true, not_or, Bool.not_eq_true, Bool.not_eq_false'] at hn
  refine ⟨⟨fn, hf, by rw [hb]; rfl, hn.1⟩, fun F W hOk => ?_⟩
  refine calls_of_wp hf hb ?_
  have hinit : ({ tmps := args.toArray ++ Array.replicate (fn.ntmps - args.toArray.size) undef, defers := [] } : Act) = act fn.ntmps (env0 args) [] := by
    simp only [act, Act.mk.injEq, and_true]
    apply Array.ext
    · simp at ha ⊢; omega
    · intro i h1 h2
      simp only [Array.getElem_ofFn, env0]
      by_cases hi : i < args.length
      · rw [Array.getElem_append_left (by simpa using hi)]; simp [hi]
      · rw [Array.getElem_append_right (by simpa using hi)]; simp [List.getD, List.getElem?_eq_none (Nat.le_of_not_lt hi)]
  rw [hinit]
  have hs := gwp_sound (ds := []) (F := F) (W0 := W) (d0 := d) (by simpa using hn.2) c _ _ d L W h hOk (Le.refl d) (Keep.refl W)
  refine wp_mono hs ?_
  have fin : ∀ a w, (∃ ρ d' L', a = act fn.ntmps ρ [] ∧ Ok (d' :: (L' ++ F)) w ∧ Le d d' ∧ Keep W w ∧ retPost rs R ρ d' L') →
      a.defers = [] ∧ ∃ v, (results fn a.tmps).run P w = .ok v w ∧ (∃ d' L', Ok (d' :: (L' ++ F)) w ∧ Le d d' ∧ Keep W w ∧ R (.returned v) d' L') := by
    rintro a w ⟨ρ, d', L', rfl, h1, h2, h3, vs, h4, d'', L'', h5, h6⟩
    refine ⟨rfl, resV vs, ?_, d'', L'', h5.2 F w h1, h2.trans h5.1, h3, h6⟩
    have hl : ∀ a v, HC d' L' a v → w.cell? a = some v := fun a v hc => hc.cell h1.head (fun q hq => h1.2 q (by simp [hq]))
    have := results_run (P := P) (n := fn.ntmps) (ρ := ρ) (ds := []) hl fn.results.toList rs vs hr h4
    rw [results_eq, Array.mapM_eq_mapM_toList]
    simp only [Sem.run_bind, Sem.run_map, this, Result.andThen, Sem.run_pure]
    cases vs with
    | nil => rfl
    | cons v vs => cases vs with
      | nil => rfl
      | cons v' vs => rfl
  intro e a w hq
  cases e with
  | normal => exact fin a w hq
  | ret => exact fin a w hq
  | panic c =>
    obtain ⟨h1, d', L', h2, h3, h4, d'', L'', h5, h6⟩ := hq
    exact ⟨h1, d'', L'', h5.2 F w h2, h3.trans h5.1, h4, h6⟩
  | exit i => obtain ⟨_, _, _, _, _, _, _, hh⟩ := hq; exact hh.elim
  | goto l => exact hq.elim
  | outgrown => exact hq.elim

end Go.Gk
