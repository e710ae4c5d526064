/-
  Our own texts, one behind the other: Gk5a Gk6 Gk7 Gk8 Gk9 Gk10 Gk11 Gk32 Gk33 Gk34 Gk35 Gk36 Gk37 Gk38 Gk12 Gk13 Gk14 Gk15 Gk39 Gk16 Gk17 Gk18 Gk23 Gk30 Gk31 Gk24 GkE0 GkE1.
-/
import Derived.Deep.LoopGhost
import Derived.ProofKit
import Derived.OpenShut
import Derived.JoinedCond
import Derived.SizedLaws
import Derived.OrdersIn
import Derived.RangeFuncCalls
import Derived.RangeFuncLeaves
import Derived.RangeFuncRecord
import Derived.Sort.LoopGhostIn
import Derived.Conc.LoneSelect
import Derived.Test.YtpkcbopokjffhaaGreatPkA
section
namespace Go.Gk
open Go

def rest (d d0 : PHeap) : PHeap := fun b o => d0 b o ∧ ∀ o', ¬ d b o'
theorem rest_or {d d0 : PHeap} {W : World} (hl : Le d d0) (hs : Sub d0 W) {b : Nat} {o : Obj} (h : d0 b o) : d b o ∨ rest d d0 b o := by
  by_cases e : ∃ o', d b o'
  · obtain ⟨o', ho⟩ := e
    have h1 := hs b o h
    have h2 := hs b o' (hl b o' ho)
    rw [h1] at h2
    cases h2
    exact .inl ho
  · exact .inr ⟨h, fun o' ho => e ⟨o', ho⟩⟩
theorem Ok.parted {d d0 : PHeap} {L F : List PHeap} {W : World} (hl : Le d d0) (x : Ok (d0 :: (L ++ F)) W) : Ok (d :: (L ++ rest d d0 :: F)) W := by
  have h1 : Ok (join d (rest d d0) :: (L ++ F)) W := by
    rw [Ok.cons_iff] at x ⊢
    obtain ⟨s, dd, ok⟩ := x
    exact ⟨fun b o e => e.elim (fun e => s b o (hl b o e)) (fun e => s b o e.1), fun k hk => (dd k hk).le (fun b o e => e.elim (hl b o) (·.1)), ok⟩
  exact (h1.split (fun b o o' e e' => e'.2 o e)).perm (List.Perm.cons d (List.perm_middle.symm))
theorem Ok.whole {d d0 d' : PHeap} {L F : List PHeap} {W W' : World} (hl : Le d d0) (hs : Sub d0 W) (hd : Le d d') (x : Ok (d' :: (L ++ rest d d0 :: F)) W') : Ok (join d' d0 :: (L ++ F)) W' := by
  have y : Ok (d' :: rest d d0 :: (L ++ F)) W' := x.perm (List.Perm.cons d' List.perm_middle)
  have z := y.freeze
  have sub : Le (join d' d0) (join d' (rest d d0)) := fun b o e => e.elim .inl (fun e => (rest_or hl hs e).elim (fun e => .inl (hd b o e)) .inr)
  rw [Ok.cons_iff] at z ⊢
  exact ⟨z.1.le sub, fun k hk => (z.2.1 k hk).le sub, z.2.2⟩
theorem Vs.up {d d0 d1 : PHeap} {L L1 : List PHeap} (v : Vs d L d1 L1) (hl : Le d d0) : Vs d0 L (Gk.join d1 d0) L1 :=
  ⟨Le.join_right d1 d0, fun F W x => (v.2 (rest d d0 :: F) W (x.parted hl)).whole hl x.head v.1⟩
theorem GCall.up {P : Program} {f : FuncId} {args : List Value} {d d0 : PHeap} {L : List PHeap} {R : Ending → PHeap → List PHeap → Prop} (h : GCall P f args d L R) (hl : Le d d0) :
    GCall P f args d0 L (fun e d' L' => ∃ d1, Le d d1 ∧ Le d1 d' ∧ R e d1 L') :=
  ⟨h.1, fun F W x => (h.2 (rest d d0 :: F) W (x.parted hl)).mono fun _ _ ⟨d', L', a, b, c, r⟩ => ⟨join d' d0, L', a.whole hl x.head b, Le.join_right d' d0, c, d', b, Le.join_left d' d0, r⟩⟩

theorem bytesAt_mono {C C' : Addr → Value → Prop} (hC : ∀ a v, C a v → C' a v) {v : Value} {l : List UInt8} (h : bytesAt C v l) : bytesAt C' v l := by
  rcases h with h | ⟨a, c, h1, h2, h3⟩
  · exact .inl h
  · exact .inr ⟨a, c, h1, h2, fun a' ha i u hu => hC _ _ (h3 a' ha i u hu)⟩
theorem evq_mono {ρ : Env} {C C' : Addr → Value → Prop} (hC : ∀ a v, C a v → C' a v) {g : GI} {v : Value} (h : evq ρ C g v) : evq ρ C' g v := by
  cases g with
  | ld n x =>
    cases n with
    | none => obtain ⟨b, o, h1, h2⟩ := h; exact ⟨b, o, h1, hC _ _ h2⟩
    | some n => obtain ⟨b, o, cs, h1, h2, h3, h4⟩ := h; exact ⟨b, o, cs, h1, h2, fun i u hu => hC _ _ (h3 i u hu), h4⟩
  | b2s x => obtain ⟨a, l, c, h1, h2, h3, h4⟩ := h; exact ⟨a, l, c, h1, h2, fun a' ha i u hu => hC _ _ (h3 a' ha i u hu), h4⟩
  | bcmp x y => obtain ⟨l, m, h1, h2, h3⟩ := h; exact ⟨l, m, bytesAt_mono hC h1, bytesAt_mono hC h2, h3⟩
  | r2s x => obtain ⟨a, rs, c, h1, h2, h3, h4⟩ := h; exact ⟨a, rs, c, h1, h2, fun a' ha i u hu => hC _ _ (h3 a' ha i u hu), h4⟩
  | gf n o x => cases n <;> exact h
  | _ => exact h
theorem map_ev {ρ ρ' : Env} {l : List Operand} (h : ∀ x ∈ l, ev ρ' x = ev ρ x) : l.map (ev ρ') = l.map (ev ρ) := List.map_congr_left h
theorem omap_ev {ρ ρ' : Env} {l : Option Operand} (h : ∀ x ∈ l.toList, ev ρ' x = ev ρ x) : l.map (ev ρ') = l.map (ev ρ) := by
  cases l with
  | none => rfl
  | some x => simp [h x (by simp)]
theorem parts_ev {ρ ρ' : Env} {l : List (Nat × Operand)} (h : ∀ x ∈ l.map (·.2), ev ρ' x = ev ρ x) : (l.map fun p => (p.1, ev ρ' p.2)) = l.map fun p => (p.1, ev ρ p.2) :=
  List.map_congr_left fun p hp => by rw [h p.2 (List.mem_map_of_mem hp)]
theorem mi_env {ρ ρ' : Env} {d : PHeap} {Lk L : List PHeap} {K : Value → Post} {m : MI} (h : ∀ x ∈ m.opnds, ev ρ' x = ev ρ x) : mi ρ' d Lk L K m = mi ρ d Lk L K m := by
  cases m <;> simp only [MI.opnds, List.mem_cons, List.not_mem_nil, or_false] at h
  case mk => rfl
  case lk kd z ok x k => simp only [mi, h x (.inl rfl), h k (.inr rfl)]
  case ln x => simp only [mi, h x rfl]
  case up kd x k v => simp only [mi, h x (.inl rfl), h k (.inr (.inl rfl)), h v (.inr (.inr rfl))]
  case del kd x k => simp only [mi, h x (.inl rfl), h k (.inr rfl)]
  case clr x => simp only [mi, h x rfl]
  case rng x => simp only [mi, h x rfl]
  case nxt x => simp only [mi, h x rfl]
  case ent x => simp only [mi, h x rfl]
  case mkc b x => simp only [mi, h x rfl]
  case cln x => simp only [mi, h x rfl]
  case cpy sz x y => simp only [mi, h x (.inl rfl), h y (.inr rfl)]
  case zap sz by_ z x y => simp only [mi, h x (.inl rfl), h y (.inr rfl)]
  case clz sz z x => simp only [mi, h x rfl]
  case s2b x => simp only [mi, h x rfl]
  case ovl x y => simp only [mi, h x (.inl rfl), h y (.inr rfl)]
theorem HC.up {d d0 : PHeap} {Lk : List PHeap} (hl : Le d d0) (a : Addr) (v : Value) (h : HC d Lk a v) : HC d0 Lk a v := by
  obtain ⟨h1, h, h2, c, T, fr, h3, h4⟩ := h
  rcases h2 with rfl | h2
  · exact ⟨h1, d0, .inl rfl, c, T, fr, hl _ _ h3, h4⟩
  · exact ⟨h1, h, .inr h2, c, T, fr, h3, h4⟩
theorem mi_up {ρ : Env} {d d0 : PHeap} {Lk L : List PHeap} {K K' : Value → Post} {m : MI} (hl : Le d d0) (hK : ∀ v L, K v d L → K' v d0 L) (h : mi ρ d Lk L K m) : mi ρ d0 Lk L K' m := by
  cases m with
  | mk => exact fun b => hK _ _ (h b)
  | lk kd z ok x k => obtain ⟨es, r, h1, h2, h3⟩ := h; exact ⟨es, r, h1.up hl, h2, hK _ _ h3⟩
  | ln x => obtain ⟨es, h1, h2⟩ := h; exact ⟨es, h1.up hl, hK _ _ h2⟩
  | up kd x k v => obtain ⟨i, b, es, c, r, h1, h2, h3, h4⟩ := h; exact ⟨i, b, es, c, r, h1, h2, h3, hK _ _ h4⟩
  | del kd x k => obtain ⟨i, b, es, c, r, h1, h2, h3, h4⟩ := h; exact ⟨i, b, es, c, r, h1, h2, h3, hK _ _ h4⟩
  | clr x => obtain ⟨i, b, es, c, h1, h2, h3⟩ := h; exact ⟨i, b, es, c, h1, h2, hK _ _ h3⟩
  | rng x => obtain ⟨b, es, c, h1, h2, h3⟩ := h; exact ⟨b, es, c, h1, h2.up hl, fun q => hK _ _ (h3 q)⟩
  | nxt x =>
    obtain ⟨i, q, b, since, seen, last, es, c, h1, h2, h3, h4, h5, h6⟩ := h
    exact ⟨i, q, b, since, seen, last, es, c, h1, h2, h3.up hl, h4, fun e he hb => hK _ _ (h5 e he hb), fun ha => hK _ _ (h6 ha)⟩
  | ent x => obtain ⟨q, b, since, seen, last, j, es, e, h1, h2, h3, h4, h5, h6⟩ := h; exact ⟨q, b, since, seen, last, j, es, e, h1, h2.up hl, h3, h4.up hl, h5, hK _ _ h6⟩
  | mkc by_ x => obtain ⟨k, n, h1, h2, h3, h4⟩ := h; exact ⟨k, n, h1, h2, h3, fun b => hK _ _ (h4 b)⟩
  | cln x => obtain ⟨t, b, es, c, h1, h2, h3⟩ := h; exact ⟨t, b, es, c, h1, h2.up hl, fun q => hK _ _ (h3 q)⟩
  | cpy sz x y =>
    obtain ⟨sa, n, c, xa, m, xc, news, h1, h2, h3, h4, h5, h6, h7⟩ := h
    refine ⟨sa, n, c, xa, m, xc, news, h1, h2, h3, h4, h5, fun a' ha i u hu => HC.up hl _ _ (h6 a' ha i u hu), ?_⟩
    rcases h7 with ⟨a1, a2⟩ | ⟨i, b, o, T, l, a1, a2, a3, a4⟩
    · exact .inl ⟨a1, hK _ _ a2⟩
    · exact .inr ⟨i, b, o, T, l, a1, a2, a3, hK _ _ a4⟩
  | zap sz by_ z s x =>
    obtain ⟨sa, n, c, m, olds, h1, h2, h3, h4, h5, h6, h7, h8, h9⟩ := h
    exact ⟨sa, n, c, m, olds, h1, h2, h3, h4, h5, h6, h7, fun a' ha i u hu => HC.up hl _ _ (h8 a' ha i u hu), fun b T c' e1 e2 => hK _ _ (h9 b T c' e1 e2)⟩
  | clz sz z x =>
    obtain ⟨a, n, c, h1, h2⟩ := h
    refine ⟨a, n, c, h1, ?_⟩
    rcases h2 with ⟨a1, a2⟩ | ⟨i, b, o, T, l, a1, a2, a3, a4⟩
    · exact .inl ⟨a1, hK _ _ a2⟩
    · exact .inr ⟨i, b, o, T, l, a1, a2, a3, hK _ _ a4⟩
  | s2b x => obtain ⟨l, h1, h2, h3⟩ := h; exact ⟨l, h1, h2, fun b T fr c e1 e2 => hK _ _ (h3 b T fr c e1 e2)⟩
  | ovl x y => obtain ⟨a, n, c, a', n', c', h1, h2, h3, h4⟩ := h; exact ⟨a, n, c, a', n', c', h1, h2, hK _ _ h3, h4⟩
theorem gi_env {P : Program} {pan : List PanicEntry → Post} {ρ ρ' : Env} {d : PHeap} {Lk L : List PHeap} {K : Value → Post} {g : GI} (h : ∀ x ∈ g.opnds, ev ρ' x = ev ρ x) :
    gi P pan ρ' d Lk L K g = gi P pan ρ d Lk L K g := by
  cases g with
  | sl sz x lo hi mx =>
    simp only [GI.opnds, List.mem_cons, List.mem_append] at h
    simp only [gi, evq, h x (.inl rfl), omap_ev (l := lo) (fun y hy => h y (.inr (.inl hy))), omap_ev (l := hi) (fun y hy => h y (.inr (.inr (.inl hy)))), omap_ev (l := mx) (fun y hy => h y (.inr (.inr (.inr hy))))]
  | sla n sz x lo hi mx =>
    simp only [GI.opnds, List.mem_cons, List.mem_append] at h
    simp only [gi, evq, h x (.inl rfl), omap_ev (l := lo) (fun y hy => h y (.inr (.inl hy))), omap_ev (l := hi) (fun y hy => h y (.inr (.inr (.inl hy)))), omap_ev (l := mx) (fun y hy => h y (.inr (.inr (.inr hy))))]
  | sls x lo hi =>
    simp only [GI.opnds, List.mem_cons, List.mem_append] at h
    simp only [gi, evq, h x (.inl rfl), omap_ev (l := lo) (fun y hy => h y (.inr (.inl hy))), omap_ev (l := hi) (fun y hy => h y (.inr (.inr hy)))]
  | bld pl z ps => simp only [gi, evq, parts_ev (l := ps) h]
  | bsl n sz z ps => simp only [gi, parts_ev (l := ps) h]
  | mkf f a c =>
    simp only [GI.opnds, List.mem_append] at h
    simp only [gi, evq, map_ev (l := a) (fun y hy => h y (.inl hy)), map_ev (l := c) (fun y hy => h y (.inr hy))]
  | call f args => simp only [gi, map_ev (l := args) h]
  | callv f args =>
    simp only [GI.opnds, List.mem_cons] at h
    simp only [gi, h f (.inl rfl), map_ev (l := args) (fun y hy => h y (.inr hy))]
  | ld n x =>
    simp only [GI.opnds, List.mem_singleton] at h
    cases n <;> simp only [gi, evq, h x rfl]
  | gf n o x =>
    simp only [GI.opnds, List.mem_singleton] at h
    cases n <;> simp only [gi, evq, h x rfl]
  | pick c a b =>
    simp only [GI.opnds, List.mem_cons] at h
    simp only [gi, evq, h c (.inl rfl), h a (.inr (.inl rfl)), h b (.inr (.inr (.inl rfl)))]
  | alo z => rfl
  | mop m => exact mi_env (m := m) h
  | _ =>
    simp only [GI.opnds, List.mem_cons, List.not_mem_nil, or_false] at h
    first
      | (simp only [gi, evq, h _ rfl]; done)
      | (simp only [gi, evq, h _ (Or.inl rfl), h _ (Or.inr rfl)]; done)
theorem gi_up {P : Program} {pan pan' : List PanicEntry → Post} {ρ : Env} {d d0 : PHeap} {Lk L : List PHeap} {K K' : Value → Post} {g : GI} (hl : Le d d0) (hp : ∀ c d L, ¬ pan c d L)
    (hK : ∀ v d1 d2 L, Le d d1 → Le d1 d2 → K v d1 L → K' v d2 L) (h : gi P pan ρ d Lk L K g) : gi P pan' ρ d0 Lk L K' g := by
  by_cases hq : g.quiet = true
  · rw [gi_quiet hq] at h ⊢
    obtain ⟨v, h1, h2⟩ := h
    exact ⟨v, evq_mono (HC.up hl) h1, hK _ _ _ _ (Le.refl d) hl h2⟩
  have k0 : ∀ v L, K v d L → K' v d0 L := fun v L h => hK v d d0 L (Le.refl d) hl h
  have calls : ∀ {f : FuncId} {args : List Value} {L1 L2 : List PHeap} {R : Ending → PHeap → List PHeap → Prop}, GCall P f args d L1 R →
      (∀ e d' L', Le d d' → R e d' L' → match e with | .returned v => K v d' (L' ++ L2) | .panicked c => pan c d' (L' ++ L2) | .outgrown => False) →
      ∃ R', GCall P f args d0 L1 R' ∧ ∀ e d' L', Le d0 d' → R' e d' L' → match e with | .returned v => K' v d' (L' ++ L2) | .panicked c => pan' c d' (L' ++ L2) | .outgrown => False := by
    intro f args L1 L2 R hc hR
    refine ⟨_, hc.up hl, fun e d' L' h1 ⟨d1, h2, h3, h4⟩ => ?_⟩
    have h5 := hR e d1 L' h2 h4
    cases e with
    | returned v => exact hK _ _ _ _ h2 h3 h5
    | panicked c => exact absurd h5 (hp _ _ _)
    | outgrown => exact h5
  cases g with
  | box x => exact fun b T => k0 _ _ (h b T)
  | alo z => exact fun b T => k0 _ _ (h b T)
  | st n a x => obtain ⟨i, b, o, T, l, h1, h2, h3, h4, h5, h6⟩ := h; exact ⟨i, b, o, T, l, h1, h2, h3, h4, h5, k0 _ _ h6⟩
  | bsl n sz z ps => obtain ⟨h1, cs, h2, h3⟩ := h; exact ⟨h1, cs, h2, fun b T => k0 _ _ (h3 b T)⟩
  | mks sz by_ z l c => obtain ⟨k, k', n, c', h1, h2, h3, h4, h5, h6⟩ := h; exact ⟨k, k', n, c', h1, h2, h3, h4, h5, fun b T => k0 _ _ (h6 b T)⟩
  | app sz by_ z s x =>
    obtain ⟨sa, n, c, xa, m, xc, news, h1, h2, h3, h4, h5, h6, h7, h8, h9, h10⟩ := h
    refine ⟨sa, n, c, xa, m, xc, news, h1, h2, h3, h4, h5, fun a' ha i u hu => HC.up hl _ _ (h6 a' ha i u hu), h7, h8, fun hh => ?_, fun hh => ?_⟩
    · rcases h9 hh with ⟨e, hk⟩ | ⟨i, b, o, T, l, q1, q2, q3, q4⟩
      · exact .inl ⟨e, k0 _ _ hk⟩
      · exact .inr ⟨i, b, o, T, l, q1, q2, q3, k0 _ _ q4⟩
    · obtain ⟨q1, olds, q2, q3, q4, q5⟩ := h10 hh
      exact ⟨q1, olds, q2, q3, fun a' ha i u hu => HC.up hl _ _ (q4 a' ha i u hu), fun b T c' e1 e2 => k0 _ _ (q5 b T c' e1 e2)⟩
  | call f args =>
    obtain ⟨L1, L2, R, h1, h2, h3⟩ := h
    obtain ⟨R', h4, h5⟩ := calls h2 h3
    exact ⟨L1, L2, R', h1, h4, h5⟩
  | callv f args =>
    obtain ⟨f', first, cap, L1, L2, R, h0, h1, h2, h3⟩ := h
    obtain ⟨R', h4, h5⟩ := calls h2 h3
    exact ⟨f', first, cap, L1, L2, R', h0, h1, h4, h5⟩
  | pan x => obtain ⟨t, v, h1, h2⟩ := h; exact absurd h2 (hp _ _ _)
  | s2r x => obtain ⟨l, h1, h2, h3⟩ := h; exact ⟨l, h1, h2, fun b T c e1 e2 => k0 _ _ (h3 b T c e1 e2)⟩
  | mop m => exact mi_up (m := m) hl k0 h
  | _ => exact absurd rfl hq
theorem gi_mono {P : Program} {pan : List PanicEntry → Post} {ρ : Env} {d : PHeap} {Lk L : List PHeap} {K K' : Value → Post} {i : GI} (hk : ∀ v d' L, Le d d' → K v d' L → K' v d' L) (h : gi P pan ρ d Lk L K i) : gi P pan ρ d Lk L K' i := by
  have hr := Le.refl d
  cases hq : i.quiet with
  | true =>
    rw [gi_quiet hq] at h ⊢
    obtain ⟨v, h1, h2⟩ := h
    exact ⟨v, h1, hk _ _ _ hr h2⟩
  | false =>
    cases i <;> try (simp [GI.quiet] at hq; done)
    · exact fun b T => hk _ _ _ hr (h b T)
    · exact fun b T => hk _ _ _ hr (h b T)
    · obtain ⟨i, b, o, T, l, h1, h2, h3, h4, h5, h6⟩ := h
      exact ⟨i, b, o, T, l, h1, h2, h3, h4, h5, hk _ _ _ hr h6⟩
    · obtain ⟨h1, cs, h2, h3⟩ := h
      exact ⟨h1, cs, h2, fun b T => hk _ _ _ hr (h3 b T)⟩
    · obtain ⟨k, k', n, c, h1, h2, h3, h4, h5, h6⟩ := h
      exact ⟨k, k', n, c, h1, h2, h3, h4, h5, fun b T => hk _ _ _ hr (h6 b T)⟩
    · obtain ⟨sa, n, c, xa, m, xc, news, h1, h2, h3, h4, h5, h6, h7, h8, h9, h10⟩ := h
      refine ⟨sa, n, c, xa, m, xc, news, h1, h2, h3, h4, h5, h6, h7, h8, fun hle => ?_, fun hlt => ?_⟩
      · rcases h9 hle with ⟨a, c⟩ | ⟨i, b, o, T, l, a1, a2, a3, a4⟩
        · exact .inl ⟨a, hk _ _ _ hr c⟩
        · exact .inr ⟨i, b, o, T, l, a1, a2, a3, hk _ _ _ hr a4⟩
      · obtain ⟨k1, olds, k2, k3, k4, k5⟩ := h10 hlt
        exact ⟨k1, olds, k2, k3, k4, fun b T c' e1 e2 => hk _ _ _ hr (k5 b T c' e1 e2)⟩
    · obtain ⟨L1, L2, R, h1, h2, h3⟩ := h
      refine ⟨L1, L2, R, h1, h2, fun e d' L' hl hr => ?_⟩
      have := h3 e d' L' hl hr
      cases e with
      | returned v => exact hk _ _ _ hl this
      | panicked c => exact this
      | outgrown => exact this
    · obtain ⟨g', first, cap, L1, L2, R, h0, h1, h2, h3⟩ := h
      refine ⟨g', first, cap, L1, L2, R, h0, h1, h2, fun e d' L' hl hr => ?_⟩
      have := h3 e d' L' hl hr
      cases e with
      | returned v => exact hk _ _ _ hl this
      | panicked c => exact this
      | outgrown => exact this
    · exact h
    · obtain ⟨l, h1, h2, h3⟩ := h
      exact ⟨l, h1, h2, fun b T c e1 e2 => hk _ _ _ hr (h3 b T c e1 e2)⟩
    · exact mi_up hr (fun v L hv => hk v d L hr hv) h
theorem gop_put {P : Program} {pan : List PanicEntry → Post} {ρ : Env} {d : PHeap} {Lk L : List PHeap} {K : Env → Post} {g : GOp} (h : gop P pan g ρ d Lk L K) : gop P pan g ρ d Lk L (fun ρ' d' L' => (∃ v, ρ' = put ρ g.dst v) ∧ Le d d' ∧ K ρ' d' L') := by
  have run : ∀ i : GI, gi P pan ρ d Lk L (fun v d' L' => K (put ρ g.dst v) d' L') i → gi P pan ρ d Lk L (fun v d' L' => (∃ u, put ρ g.dst v = put ρ g.dst u) ∧ Le d d' ∧ K (put ρ g.dst v) d' L') i :=
    fun i h => gi_mono (fun v d L hl h => ⟨⟨v, rfl⟩, hl, h⟩) h
  obtain ⟨dst, guard, i⟩ := g
  cases guard with
  | none => exact run i h
  | some p =>
    obtain ⟨t, want⟩ := p
    rcases h with ⟨b, hb, h1, h2⟩ | ⟨hb, h2⟩
    · exact .inl ⟨b, hb, fun e => run i (h1 e), fun e => ⟨⟨undef, rfl⟩, Le.refl d, h2 e⟩⟩
    · exact .inr ⟨hb, ⟨undef, rfl⟩, Le.refl d, h2⟩
theorem gop_mono' {P : Program} {pan : List PanicEntry → Post} {ρ : Env} {d : PHeap} {Lk L : List PHeap} {K K' : Env → Post} {g : GOp} (hk : ∀ ρ d L, K ρ d L → K' ρ d L) (h : gop P pan g ρ d Lk L K) : gop P pan g ρ d Lk L K' := by
  obtain ⟨dst, guard, i⟩ := g
  have run : gi P pan ρ d Lk L (fun v d' L' => K (put ρ dst v) d' L') i → gi P pan ρ d Lk L (fun v d' L' => K' (put ρ dst v) d' L') i := fun h => gi_mono (fun v d L _ h => hk _ _ _ h) h
  cases guard with
  | none => exact run h
  | some p =>
    obtain ⟨t, want⟩ := p
    rcases h with ⟨b, hb, h1, h2⟩ | ⟨hb, h2⟩
    · exact .inl ⟨b, hb, fun e => run (h1 e), fun e => hk _ _ _ (h2 e)⟩
    · exact .inr ⟨hb, hk _ _ _ h2⟩
theorem Off.ev {X : List Nat} {ρ ρ' : Env} (ho : Off X ρ ρ') {x : Operand} (h : ∀ t ∈ slotOf x, t ∉ X) : ev ρ' x = ev ρ x := by
  cases x with
  | tmp t => exact ho t (h t (by simp [slotOf]))
  | _ => rfl
theorem Off.put {X : List Nat} {ρ ρ' : Env} (ho : Off X ρ ρ') (dst : Option Nat) (v : Value) : Off X (put ρ dst v) (put ρ' dst v) := by
  cases dst with
  | none => exact ho
  | some d =>
    intro t ht
    show upd ρ' d v t = upd ρ d v t
    unfold upd
    cases Nat.beq t d with
    | true => rfl
    | false => exact ho t ht
def OffO (X : List Nat) (o : Env) (ρ ρ' : Env) : Prop := Off X ρ ρ' ∧ ∀ t ∈ X, ρ t = o t
theorem OffO.put {X : List Nat} {o ρ ρ' : Env} (h : OffO X o ρ ρ') {dst : Option Nat} (hd : ∀ t, dst = some t → t ∉ X) (v : Value) : OffO X o (Gk.put ρ dst v) (Gk.put ρ' dst v) := by
  refine ⟨h.1.put dst v, fun t ht => ?_⟩
  cases dst with
  | none => exact h.2 t ht
  | some d =>
    show upd ρ d v t = o t
    unfold upd
    cases e : Nat.beq t d with
    | true => rw [Nat.eq_of_beq_eq_true e] at ht; exact absurd ht (hd d rfl)
    | false => exact h.2 t ht
theorem gop_up {P : Program} {pan pan' : List PanicEntry → Post} {X : List Nat} {o ρ ρ' : Env} {d d0 : PHeap} {Lk L : List PHeap} {K K' : Env → Post} {g : GOp} (ho : OffO X o ρ ρ') (hr : ∀ t ∈ g.rds, t ∉ X) (hdst : ∀ t, g.dst = some t → t ∉ X) (hl : Le d d0) (hp : ∀ c d L, ¬ pan c d L)
    (hK : ∀ ρ ρ' d1 d2 L, OffO X o ρ ρ' → Le d d1 → Le d1 d2 → K ρ d1 L → K' ρ' d2 L) (h : gop P pan g ρ d Lk L K) : gop P pan' g ρ' d0 Lk L K' := by
  have he : ∀ x ∈ g.i.opnds, Gk.ev ρ' x = Gk.ev ρ x := fun x hx => ho.1.ev fun t ht => hr t (by simp only [GOp.rds, List.mem_append, List.mem_flatMap]; exact .inl ⟨x, hx, ht⟩)
  have run : gi P pan ρ d Lk L (fun v d' L' => K (Gk.put ρ g.dst v) d' L') g.i → gi P pan' ρ' d0 Lk L (fun v d' L' => K' (Gk.put ρ' g.dst v) d' L') g.i := fun h => by
    rw [gi_env he]
    exact gi_up hl hp (fun v d1 d2 L h1 h2 h3 => hK _ _ _ _ _ (ho.put hdst v) h1 h2 h3) h
  obtain ⟨dst, guard, i⟩ := g
  cases guard with
  | none => exact run h
  | some p =>
    obtain ⟨t, want⟩ := p
    have hgt : ρ' t = ρ t := ho.1 t (hr t (by simp [GOp.rds]))
    have skip : K (Gk.put ρ dst undef) d L → K' (Gk.put ρ' dst undef) d0 L := fun h => hK _ _ _ _ _ (ho.put hdst undef) (Le.refl d) hl h
    rcases h with ⟨b, hb, h1, h2⟩ | ⟨hb, h2⟩
    · exact .inl ⟨b, hgt.trans hb, fun e => run (h1 e), fun e => skip (h2 e)⟩
    · exact .inr ⟨hgt.trans hb, skip h2⟩
def Near (X : List Nat) (o : Env) (R : Env → Post) : Env → Post := fun ρ d L => ∃ ρ0 d0, OffO X o ρ0 ρ ∧ Le d0 d ∧ R ρ0 d0 L
theorem Near.stay {X Y : List Nat} {o : Env} {R : Env → Post} (h : Stay Y R) (_ : ∀ t ∈ Y, t ∉ X) : Stay Y (Near X o R) := by
  rintro ρ ρ' d d' L ho hl ⟨ρ0, d0, h1, h2, h3⟩
  refine ⟨fun t => if t ∈ X then o t else ρ' t, d0, ⟨fun t ht => by simp [ht], fun t ht => by simp [ht]⟩, h2.trans hl, h _ _ _ _ _ (fun t ht => ?_) (Le.refl d0) h3⟩
  by_cases hx : t ∈ X
  · simp only [if_pos hx]; exact (h1.2 t hx).symm
  · simp only [if_neg hx]; exact (ho t ht).trans (h1.1 t hx)
theorem gws_up' {P : Program} {X : List Nat} {o : Env} : ∀ (s : GS) (Qn Qn' : Env → Post), (∀ ρ ρ' d d' L, OffO X o ρ ρ' → Le d d' → Qn ρ d L → Qn' ρ' d' L) → s.plain = true → (∀ t ∈ s.rds, t ∉ X) → (∀ t ∈ s.dsts, t ∉ X) → ∀ (Ls : List PHeap) (ρ ρ' : Env) (d d0 : PHeap) (L : List PHeap),
    OffO X o ρ ρ' → Le d d0 → gws P noPan Qn s Ls ρ d L → gws P noPan Qn' s Ls ρ' d0 L := by
  intro s
  have step : ∀ (Qn Qn' : Env → Post) (g : GOp) (s : GS), (∀ t ∈ g.rds, t ∉ X) → (∀ t, g.dst = some t → t ∉ X) → (∀ (Ls : List PHeap) (ρ ρ' : Env) (d d0 : PHeap) (L : List PHeap), OffO X o ρ ρ' → Le d d0 → gws P noPan Qn s Ls ρ d L → gws P noPan Qn' s Ls ρ' d0 L) →
      ∀ (Ls : List PHeap) (ρ ρ' : Env) (d d0 : PHeap) (L : List PHeap), OffO X o ρ ρ' → Le d d0 →
      (∃ d1 L1, Vs d L d1 L1 ∧ gop P (fun c d' L' => noPan c d' (Ls ++ L')) g ρ d1 (Ls ++ L1) L1 (fun ρ' d' L' => ∃ d2 L2, Vs d' L' d2 L2 ∧ gws P noPan Qn s Ls ρ' d2 L2)) →
      (∃ d1 L1, Vs d0 L d1 L1 ∧ gop P (fun c d' L' => noPan c d' (Ls ++ L')) g ρ' d1 (Ls ++ L1) L1 (fun ρ' d' L' => ∃ d2 L2, Vs d' L' d2 L2 ∧ gws P noPan Qn' s Ls ρ' d2 L2)) := by
    intro Qn Qn' g s hr hd ih Ls ρ ρ' d d0 L ho hl ⟨d1, L1, hv, h⟩
    refine ⟨join d1 d0, L1, hv.up hl, gop_up ho hr hd (Le.join_left d1 d0) (fun c d L h => h) ?_ h⟩
    intro ρ1 ρ2 e1 e2 M ho2 h1 h2 ⟨d2, L2, hv2, h3⟩
    exact ⟨join d2 e2, L2, hv2.up h2, ih Ls ρ1 ρ2 d2 (join d2 e2) L2 ho2 (Le.join_left _ _) h3⟩
  induction s with
  | done =>
    intro Qn Qn' hQ _ _ _ Ls ρ ρ' d d0 L ho hl ⟨d1, L1, hv, h⟩
    exact ⟨join d1 d0, L1, hv.up hl, hQ _ _ _ _ _ ho (Le.join_left _ _) h⟩
  | op tk g s ih =>
    intro Qn Qn' hQ hpl hr hd Ls ρ ρ' d d0 L ho hl h
    simp only [GS.plain] at hpl
    cases tk with
    | true =>
      exact gop_up ho (fun t ht => hr t (by simp [GS.rds, ht])) (fun t ht => hd t (by simp [GS.dsts, ht])) hl (fun c d L h => h)
        (fun ρ1 ρ2 e1 e2 M ho2 _ h2 h3 => ih Qn Qn' hQ hpl (fun t ht => hr t (by simp [GS.rds, ht])) (fun t ht => hd t (by simp [GS.dsts, ht])) Ls ρ1 ρ2 e1 e2 M ho2 h2 h3) h
    | false =>
    exact step Qn Qn' g s (fun t ht => hr t (by simp [GS.rds, ht])) (fun t ht => hd t (by simp [GS.dsts, ht])) (ih Qn Qn' hQ hpl (fun t ht => hr t (by simp [GS.rds, ht])) fun t ht => hd t (by simp [GS.dsts, ht])) Ls ρ ρ' d d0 L ho hl h
  | alt g s t ih1 ih2 =>
    intro Qn Qn' hQ hpl hr hd Ls ρ ρ' d d0 L ho hl h
    simp only [GS.plain, Bool.and_eq_true] at hpl
    exact ⟨step Qn Qn' g s (fun t ht => hr t (by simp [GS.rds, ht])) (fun t ht => hd t (by simp [GS.dsts, ht])) (ih1 Qn Qn' hQ hpl.1 (fun t ht => hr t (by simp [GS.rds, ht])) fun t ht => hd t (by simp [GS.dsts, ht])) Ls ρ ρ' d d0 L ho hl h.1,
      ih2 Qn Qn' hQ hpl.2 (fun t ht => hr t (by simp [GS.rds, ht])) (fun t ht => hd t (by simp [GS.dsts, ht])) Ls ρ ρ' d d0 L ho hl h.2⟩
  | bar s ih => intro Qn Qn' _ hpl; cases hpl
  | par a b s iha ihb ihs =>
    intro Qn Qn' hQ hpl hr hd Ls ρ ρ' d d0 L ho hl ⟨Ra, Rb, d1, L1, L2, hv, sa, sb, h1, h2, h3⟩
    simp only [GS.plain, Bool.and_eq_true] at hpl
    have hda : ∀ t ∈ a.dsts, t ∉ X := fun t ht => hd t (by simp [GS.dsts, ht])
    have hdb : ∀ t ∈ b.dsts, t ∉ X := fun t ht => hd t (by simp [GS.dsts, ht])
    have hp1 : ∀ R : Env → Post, ∀ ρ ρ' d d' L, OffO X o ρ ρ' → Le d d' → part1 Ls R ρ d L → part1 Ls (Near X o R) ρ' d' L :=
      fun R ρ ρ' d d' L ho hl ⟨M, hM, hR⟩ => ⟨M, hM, ρ, d, ho, hl, hR⟩
    refine ⟨Near X o Ra, Near X o Rb, join d1 d0, L1, L2, hv.up hl, Near.stay sa hdb, Near.stay sb hda, iha _ _ (hp1 Ra) hpl.1.1 (fun t ht => hr t (by simp [GS.rds, ht])) hda Ls ρ ρ' d1 _ L1 ho (Le.join_left _ _) h1,
      ihb _ _ (hp1 Rb) hpl.1.2 (fun t ht => hr t (by simp [GS.rds, ht])) hdb Ls ρ ρ' d1 _ L2 ho (Le.join_left _ _) h2, ?_⟩
    rintro ρ2 d' M1 M2 hl2 ho2 ⟨ρa, da, oa, la, ra⟩ ⟨ρb, db, ob, lb, rb⟩
    have ea : ρa = fun t => if t ∈ X then o t else ρ2 t := by
      funext t
      by_cases hx : t ∈ X
      · simp only [if_pos hx]; exact oa.2 t hx
      · simp only [if_neg hx]; exact (oa.1 t hx).symm
    have eb : ρb = ρa := by
      rw [ea]; funext t
      by_cases hx : t ∈ X
      · simp only [if_pos hx]; exact ob.2 t hx
      · simp only [if_neg hx]; exact (ob.1 t hx).symm
    subst eb
    have hoff : Off (a.dsts ++ b.dsts) ρ ρb := by
      intro t ht
      by_cases hx : t ∈ X
      · exact (oa.2 t hx).trans (ho.2 t hx).symm
      · exact (oa.1 t hx).symm.trans ((ho2 t ht).trans (ho.1 t hx))
    have h4 := h3 ρb d' M1 M2 ((Le.join_left _ _).trans hl2) hoff (sa _ _ _ _ _ (fun _ _ => rfl) la ra) (sb _ _ _ _ _ (fun _ _ => rfl) lb rb)
    exact ihs Qn Qn' hQ hpl.2 (fun t ht => hr t (by simp [GS.rds, ht])) (fun t ht => hd t (by simp [GS.dsts, ht])) Ls ρb ρ2 d' d' _ oa (Le.refl d') h4
theorem gws_up {P : Program} {Qn : Env → Post} {X : List Nat} (hQ : ∀ ρ ρ' d d' L, Off X ρ ρ' → Le d d' → Qn ρ d L → Qn ρ' d' L) (s : GS) (hp : s.plain = true) (hr : ∀ t ∈ s.rds, t ∉ X) (hd : ∀ t ∈ s.dsts, t ∉ X) (Ls : List PHeap) (ρ ρ' : Env) (d d0 : PHeap) (L : List PHeap)
    (ho : Off X ρ ρ') (hl : Le d d0) (h : gws P noPan Qn s Ls ρ d L) : gws P noPan Qn s Ls ρ' d0 L :=
  gws_up' (o := ρ) s Qn Qn (fun ρ ρ' d d' L h => hQ ρ ρ' d d' L h.1) hp hr hd Ls ρ ρ' d d0 L ⟨ho, fun _ _ => rfl⟩ hl h
theorem part1_stay {X : List Nat} {Ls : List PHeap} {R : Env → Post} (h : Stay X R) : ∀ ρ ρ' d d' L, Off X ρ ρ' → Le d d' → part1 Ls R ρ d L → part1 Ls R ρ' d' L :=
  fun _ _ _ _ _ ho hl ⟨M, hM, hR⟩ => ⟨M, hM, h _ _ _ _ _ ho hl hR⟩
end Go.Gk
end

section
namespace Go.Gk
open Go

theorem Ok.le {d d' : PHeap} {hs : List PHeap} {W : World} (x : Ok (d :: hs) W) (h : Le d' d) : Ok (d' :: hs) W := by
  rw [Ok.cons_iff] at *
  exact ⟨x.1.le h, fun k hk => (x.2.1 k hk).le h, x.2.2⟩

def lift (n : Nat) (ds : List Deferred) (F : List PHeap) (W0 : World) (d0 : PHeap) (Q : GPost) : Exit → Act → World → Prop
  | .normal, a, W => ∃ ρ d L, a = act n ρ ds ∧ Ok (d :: (L ++ F)) W ∧ Le d0 d ∧ Keep W0 W ∧ Q.n ρ d L
  | .exit i, a, W => ∃ ρ d L, a = act n ρ ds ∧ Ok (d :: (L ++ F)) W ∧ Le d0 d ∧ Keep W0 W ∧ Q.ex i ρ d L
  | .ret, a, W => ∃ ρ d L, a = act n ρ ds ∧ Ok (d :: (L ++ F)) W ∧ Le d0 d ∧ Keep W0 W ∧ Q.ret ρ d L
  | .panic c, a, W => a.defers = ds ∧ ∃ d L, Ok (d :: (L ++ F)) W ∧ Le d0 d ∧ Keep W0 W ∧ Q.pan c d L
  | _, _, _ => False

theorem decOp_spec {P : Program} {n : Nat} {ops : Array Oper} {o : Oper} {g : GOp} (h : decOp P n ops o = some g) :
    (∀ x ∈ o.op.operands, opndOk n x = true) ∧ (∀ t, o.dst = some t → t < n) ∧ (∀ cs b, o.op ≠ .select cs b) ∧ decI P o = some g.i ∧ g.dst = o.dst ∧
    ((o.guard = none ∧ g.guard = none) ∨ ∃ j want t, o.guard = some (j, want) ∧ (ops[j]?).bind (·.dst) = some t ∧ t < n ∧ g.guard = some (t, want)) := by
  unfold decOp at h
  split at h
  · rename_i hc
    simp only [Bool.and_eq_true] at hc
    obtain ⟨⟨h1, h2⟩, h3⟩ := hc
    have h1' : ∀ x ∈ o.op.operands, opndOk n x = true := by
      intro x hx
      exact (List.all_eq_true.1 h1) x (by simpa using hx)
    have h2' : ∀ t, o.dst = some t → t < n := by
      intro t ht; rw [ht] at h2; simpa [dstOk] using h2
    have h3' : ∀ cs b, o.op ≠ .select cs b := by
      intro cs b e; rw [e] at h3; simp [noSel] at h3
    split at h
    · cases h
    · rename_i i hi
      split at h
      · rename_i hg; cases h; exact ⟨h1', h2', h3', hi, rfl, .inl ⟨hg, rfl⟩⟩
      · rename_i j want hg
        split at h
        · rename_i t ht
          split at h
          · rename_i htn; cases h; exact ⟨h1', h2', h3', hi, rfl, .inr ⟨j, want, t, hg, ht, htn, rfl⟩⟩
          · cases h
        · cases h
  · cases h

theorem wanted_act {n : Nat} {ρ : Env} {ds : List Deferred} {ops : Array Oper} {o : Oper} {j t : Nat} {want b : Bool} (hg : o.guard = some (j, want)) (ht : (ops[j]?).bind (·.dst) = some t) (htn : t < n)
    (hb : ρ t = .bool b) : Region.wanted o (yielded ops (act n ρ ds).tmps) = (b == want) := by
  have : yielded ops (act n ρ ds).tmps j = some b := by
    unfold yielded
    have h2 : (act n ρ ds).tmps[t]? = some (.bool b) := by simp [act, htn, hb]
    simp only [ht, Option.bind_some, h2]
  simp [Region.wanted, hg, this]

theorem wanted_undef {n : Nat} {ρ : Env} {ds : List Deferred} {ops : Array Oper} {o : Oper} {j t : Nat} {want : Bool} (hg : o.guard = some (j, want)) (ht : (ops[j]?).bind (·.dst) = some t) (htn : t < n)
    (hb : ρ t = undef) : Region.wanted o (yielded ops (act n ρ ds).tmps) = false := by
  have : yielded ops (act n ρ ds).tmps j = none := by
    unfold yielded
    have h2 : (act n ρ ds).tmps[t]? = some undef := by simp [act, htn, hb]
    simp only [ht, Option.bind_some, h2, undef]
  simp [Region.wanted, hg, this]

theorem gop_sound {P : Program} {n : Nat} {ds : List Deferred} {ops : Array Oper} {i : Nat} {o : Oper} {g : GOp} (hi : ops[i]? = some o) (hd : decOp P n ops o = some g)
    {pan : List PanicEntry → Post} {ρ : Env} {d : PHeap} {Lk L F : List PHeap} {K : Env → Post} {W : World} (hOk : Ok (d :: (L ++ F)) W) (hl : ∀ k ∈ Lk, Sub k W)
    (h : gop P pan g ρ d Lk L K) {Q : Exit → Act → World → Prop} {nxt : Act → World → Prop}
    (hK : ∀ ρ' d' L' W', Ok (d' :: (L' ++ F)) W' → Le d d' → Keep W W' → K ρ' d' L' → nxt (act n ρ' ds) W')
    (hP : ∀ c d' L' W', Ok (d' :: (L' ++ F)) W' → Le d d' → Keep W W' → pan c d' L' → Q (.panic c) (act n ρ ds) W') : wpOp P ops Q i nxt (act n ρ ds) W := by
  obtain ⟨hop, hdst, _, hdi, hgd, hgu⟩ := decOp_spec hd
  unfold wpOp
  simp only [hi]
  have run : gi P pan ρ d Lk L (fun v d' L' => K (put ρ g.dst v) d' L') g.i → o.wp P (act n ρ ds) W nxt Q := by
    intro h'
    refine gi_sound hdi hop hOk hl h' ?_ hP
    intro v d' L' W' h1 h2 h3 h4
    rw [act_put hdst, ← hgd]
    exact hK _ _ _ _ h1 h2 h3 h4
  rcases hgu with ⟨hg, hg'⟩ | ⟨j, want, t, hg, ht, htn, hg'⟩
  · have : Region.wanted o (yielded ops (act n ρ ds).tmps) = true := by simp [Region.wanted, hg]
    simp only [this, if_true]
    simp only [gop, hg'] at h
    exact .inl (run h)
  · simp only [gop, hg'] at h
    rcases h with ⟨b, hb, h1, h2⟩ | ⟨hb, h2⟩
    case inr =>
      rw [wanted_undef hg ht htn hb]
      simp only [Bool.false_eq_true, if_false]
      rw [act_put hdst, ← hgd]
      exact hK _ _ _ _ hOk (Le.refl d) (Keep.refl W) h2
    rw [wanted_act hg ht htn hb]
    by_cases e : b = want
    · subst e
      simp only [beq_self_eq_true, if_true]
      exact .inl (run (h1 rfl))
    · have e' : (b == want) = false := by simpa using e
      simp only [e', Bool.false_eq_true, if_false]
      rw [act_put hdst, ← hgd]
      exact hK _ _ _ _ hOk (Le.refl d) (Keep.refl W) (h2 (by cases b <;> cases want <;> simp_all))

theorem straight_sound {P : Program} {n : Nat} {ds : List Deferred} {ops : Array Oper} {Q : GPost} {F : List PHeap} {W0 : World} {d0 : PHeap} : ∀ (l : List Nat) (s : GS), toGS P n ops (straight l) = some s →
    ∀ (ρ : Env) (d : PHeap) (L : List PHeap) (W : World), gws P Q.pan Q.n s [] ρ d L → Ok (d :: (L ++ F)) W → Le d0 d → Keep W0 W → wpOps P ops (lift n ds F W0 d0 Q) l (act n ρ ds) W
  | [], s, hs, ρ, d, L, W, h, hOk, hle, hk => by
    simp [straight, toGS] at hs; subst hs
    obtain ⟨d1, L1, hv, hq⟩ := h
    exact ⟨ρ, d1, L1, rfl, hv.2 F W (by simpa using hOk), hle.trans hv.1, hk, hq⟩
  | i :: l, s, hs, ρ, d, L, W, h, hOk, hle, hk => by
    simp only [straight, toGS] at hs
    split at hs <;> try cases hs
    rename_i g s' hg hs'
    rw [Option.bind_eq_some_iff] at hg
    obtain ⟨o, ho, hd⟩ := hg
    obtain ⟨d1, L1, hv, h⟩ := h
    rw [wpOps_cons]
    have hOk1 := hv.2 F W hOk
    refine gop_sound ho hd hOk1 (fun k hk => hOk1.2 k (by simp at hk; simp [hk])) h ?_ ?_
    · intro ρ' d' L' W' h1 h2 h3 ⟨d2, L2, hv2, h4⟩
      exact straight_sound l s' hs' ρ' d2 L2 W' h4 (hv2.2 F W' h1) (hle.trans ((hv.1.trans h2).trans hv2.1)) (hk.trans h3)
    · intro c d' L' W' h1 h2 h3 h4
      exact ⟨rfl, d', L', h1, hle.trans (hv.1.trans h2), hk.trans h3, h4⟩

section
variable {P : Program} {ops : Array Oper} {Q : Exit → Act → World → Prop}

def AnyB (P : Program) (ops : Array Oper) (Q : Exit → Act → World → Prop) (S : Bool → World → Prop) (bs : List Bool) : Nat → Array Bool → Act → World → Prop
  | 0, listed, a, w => Region.ready .any ops listed = [] ∧ Q .normal a w
  | k + 1, listed, a, w => (Region.ready .any ops listed = [] → Q .normal a w) ∧
    ∀ i ∈ Region.ready .any ops listed, wpOp P ops Q i (fun a' w' => S (bs.getD i false) w' ∧ AnyB P ops Q S bs k (listed.setIfInBounds i true) a' w') a w

theorem AnyB.any {S : Bool → World → Prop} {bs : List Bool} : ∀ (k : Nat) (listed : Array Bool) (a : Act) (w : World), AnyB P ops Q S bs k listed a w → wpAny P .any ops Q k listed a w
  | 0, _, _, _, h => h
  | k + 1, _, _, _, h => ⟨h.1, fun i hi => wpOp_mono (fun a' w' h' => AnyB.any k _ a' w' h'.2) (h.2 i hi)⟩

theorem AnyB.mono {S S' : Bool → World → Prop} {bs : List Bool} (hs : ∀ b w, S' b w → S b w) : ∀ (k : Nat) (listed : Array Bool) (a : Act) (w : World), AnyB P ops Q S' bs k listed a w → AnyB P ops Q S bs k listed a w
  | 0, _, _, _, h => h
  | k + 1, _, _, _, h => ⟨h.1, fun i hi => wpOp_mono (fun a' w' h' => ⟨hs _ _ h'.1, AnyB.mono hs k _ a' w' h'.2⟩) (h.2 i hi)⟩

theorem AnyB.done {S : Bool → World → Prop} {bs : List Bool} {listed : Array Bool} {a : Act} {w : World} (hr : Region.ready .any ops listed = []) (h : Q .normal a w) : ∀ k, AnyB P ops Q S bs k listed a w
  | 0 => ⟨hr, h⟩
  | _ + 1 => ⟨fun _ => h, by rw [hr]; simp⟩

theorem lastOk_spec {bs : List Bool} (h : lastOk ops bs = true) {i j : Nat} {oi oj : Oper} (hi : ops[i]? = some oi) (hj : ops[j]? = some oj) (bj : bs.getD j false = true) (bi : bs.getD i false = false) :
    ∃ e ∈ oj.after, Region.binds .any e = true ∧ e.on = i := by
  have hil := (Array.getElem?_eq_some_iff.1 hi).1
  have hjl := (Array.getElem?_eq_some_iff.1 hj).1
  simp only [lastOk, List.all_eq_true, List.mem_range, Bool.or_eq_true] at h
  have h1 := h j hjl
  rw [bj] at h1
  rcases h1 with h1 | h1
  · cases h1
  · rcases h1 i hil with h2 | h2
    · rw [bi] at h2; cases h2
    · rw [hj] at h2
      simp only [Option.any_some, waits] at h2
      obtain ⟨e, he, hb⟩ := Array.any_eq_true'.1 h2
      simp only [Bool.and_eq_true, beq_iff_eq] at hb
      exact ⟨e, he, hb.1, hb.2⟩

theorem AnyB.first {S : Bool → World → Prop} {bs : List Bool} {i : Nat} {oi : Oper} {v : Value} (hi : ops[i]? = some oi) (hsel : ∀ (j : Nat) (o : Oper) cs b, ops[j]? = some o → o.op ≠ .select cs b)
    (hQ : ∀ c a w, Q (.panic c) (a.put oi.dst v) w → Q (.panic c) a w) (hlast : lastOk ops bs = true) (hS : ∀ w, S false w → S true w) :
    ∀ (k : Nat) (listed : Array Bool) (a : Act) (w : World),
      (∀ j oj, ops[j]? = some oj → j ≠ i → listed.getD j true = false → (∀ e ∈ oj.after, Region.binds .any e = true → e.on ≠ i) → oi.apart ops oj = true) →
      i ∈ Region.ready .any ops listed → YieldsIf P ops (S (bs.getD i false)) oi v a → S (bs.getD i false) w →
      AnyB P ops Q S bs k (listed.setIfInBounds i true) (a.put oi.dst v) w → AnyB P ops Q S bs (k + 1) listed a w := by
  intro k
  induction k with
  | zero =>
    intro listed a w _ hr hy hSw H
    refine ⟨fun h => (by rw [h] at hr; cases hr), fun j hj => ?_⟩
    by_cases hji : j = i
    · subst hji; exact hy.wpOp hi hSw ⟨hSw, H⟩
    · have := ready_mono hj hji
      rw [H.1] at this
      cases this
  | succ k ih =>
    intro listed a w hfree hr hy hSw H
    refine ⟨fun h => (by rw [h] at hr; cases hr), fun j hj => ?_⟩
    by_cases hji : j = i
    · subst hji; exact hy.wpOp hi hSw ⟨hSw, H⟩
    · have h1 := H.2 j (ready_mono hj hji)
      obtain ⟨hjun, oj, hoj, hall⟩ := mem_ready.1 hj
      have hnot : ∀ e ∈ oj.after, Region.binds .any e = true → e.on ≠ i := fun e he hb heq => by
        have h1 := hall e he hb
        have h0 := (mem_ready.1 hr).1
        rw [heq] at h1
        rcases Nat.lt_or_ge i listed.size with h' | h'
        · simp [h'] at h0 h1; rw [h0] at h1; cases h1
        · simp [Array.getElem?_eq_none h'] at h1
      have hSj : ∀ w', S (bs.getD j false) w' → S (bs.getD i false) w' := by
        intro w' hw'
        cases bi : bs.getD i false with
        | true => cases bj : bs.getD j false with
          | true => rw [bj] at hw'; exact hw'
          | false => rw [bj] at hw'; exact hS _ hw'
        | false => cases bj : bs.getD j false with
          | false => rw [bj] at hw'; exact hw'
          | true =>
            obtain ⟨e, he, hb, hon⟩ := lastOk_spec hlast hi hoj bj bi
            exact absurd hon (hnot e he hb)
      have h2 := wpOp_putIf hoj (hfree j oj hoj hji hjun hnot) (fun cs b => hsel i oi cs b hi) (fun cs b => hsel j oj cs b hoj) hQ hy h1
      have hfree' : ∀ k ok, ops[k]? = some ok → k ≠ i → (listed.setIfInBounds j true).getD k true = false →
          (∀ e ∈ ok.after, Region.binds .any e = true → e.on ≠ i) → oi.apart ops ok = true := fun k ok hk hki hun hno => by
        refine hfree k ok hk hki ?_ hno
        by_cases hjk : j = k
        · subst hjk; exact hjun
        · rw [getD_set_ne true hjk] at hun; exact hun
      refine wpOp_mono (fun a' w' h3 => ⟨h3.2.1, ih (listed.setIfInBounds j true) a' w' hfree' (ready_mono hr (Ne.symm hji)) h3.1 (hSj _ h3.2.1) ?_⟩) h2
      rw [Array.setIfInBounds_comm _ _ hji]
      exact h3.2.2
end

def St (past : Bool) (d : PHeap) (Ls F : List PHeap) (b : Bool) (w : World) : Prop := Ok (d :: F) w ∧ (b = false → past = false ∧ Ok (d :: (Ls ++ F)) w)

theorem St.le {past : Bool} {d d' : PHeap} {Ls F : List PHeap} {b : Bool} {w : World} (h : St past d Ls F b w) (hl : Le d' d) : St past d' Ls F b w :=
  ⟨h.1.le hl, fun e => ⟨(h.2 e).1, (h.2 e).2.le hl⟩⟩

theorem set_get (l : Array Bool) (i j : Nat) : (l.setIfInBounds i true)[j]? = if i = j then (l[j]?).map (fun _ => true) else l[j]? := by
  rw [Array.getElem?_setIfInBounds]
  by_cases e : i = j
  · subst e
    rw [if_pos rfl, if_pos rfl]
    rcases Nat.lt_or_ge i l.size with h | h
    · rw [if_pos h]; simp [h]
    · rw [if_neg (by omega)]; simp [h]
  · rw [if_neg e, if_neg e]
theorem marked_get : ∀ (xs : List Nat) (l : Array Bool) (j : Nat), (marked l xs)[j]? = if j ∈ xs then (l[j]?).map (fun _ => true) else l[j]?
  | [], l, j => by simp [marked]
  | x :: xs, l, j => by
    have := marked_get xs (l.setIfInBounds x true) j
    show (marked (l.setIfInBounds x true) xs)[j]? = _
    rw [this, set_get]
    by_cases h1 : j ∈ xs <;> by_cases h2 : x = j <;> simp [h1, h2, eq_comm]
theorem marked_set (xs : List Nat) (l : Array Bool) (i : Nat) : marked (l.setIfInBounds i true) xs = (marked l xs).setIfInBounds i true := by
  apply Array.ext_getElem?
  intro j
  rw [set_get, marked_get, marked_get, set_get]
  by_cases h1 : j ∈ xs <;> by_cases h2 : i = j <;> simp [h1, h2]
theorem marked_in {xs : List Nat} {i : Nat} (h : i ∈ xs) (l : Array Bool) : marked (l.setIfInBounds i true) xs = marked l xs := by
  apply Array.ext_getElem?
  intro j
  rw [marked_get, marked_get, set_get]
  by_cases h2 : i = j
  · subst h2
    rw [if_pos h, if_pos h, if_pos rfl]
    cases l[i]? <;> simp
  · rw [if_neg h2]
theorem getD_true {l : Array Bool} {i : Nat} : l.getD i true = false ↔ l[i]? = some false := by
  rw [Array.getD_eq_getD_getElem?]
  cases l[i]? <;> simp
theorem getD_false {l : Array Bool} {i : Nat} : l.getD i false = true ↔ l[i]? = some true := by
  rw [Array.getD_eq_getD_getElem?]
  cases l[i]? <;> simp
theorem apartOk_spec {ops : Array Oper} {bs : List Bool} {la lb : List Nat} (h : apartOk ops bs la lb = true) : (∀ i ∈ la, bs.getD i false = false) ∧ (∀ i ∈ lb, bs.getD i false = false) ∧ (∀ i ∈ la, i ∉ lb) ∧
    (∀ i ∈ la, ∀ o, ops[i]? = some o → ∀ e ∈ o.after, Region.binds .any e = true → e.on ∉ lb) ∧ (∀ i ∈ lb, ∀ o, ops[i]? = some o → ∀ e ∈ o.after, Region.binds .any e = true → e.on ∉ la) := by
  simp only [apartOk, Bool.and_eq_true, List.all_eq_true, Bool.not_eq_true', decide_eq_true_eq] at h
  obtain ⟨⟨⟨h1, h2⟩, h3⟩, h4⟩ := h
  have key : ∀ {la lb : List Nat}, (∀ i ∈ la, (ops[i]?.all fun o => lb.all fun j => !waits o j) = true) → ∀ i ∈ la, ∀ o, ops[i]? = some o → ∀ e ∈ o.after, Region.binds .any e = true → e.on ∉ lb := by
    intro la lb h i hi o ho e he hb hm
    have h5 := h i hi
    rw [ho] at h5
    simp only [Option.all_some, List.all_eq_true, Bool.not_eq_true'] at h5
    have h6 := h5 e.on hm
    have : waits o e.on = true := by
      unfold waits
      rw [Array.any_eq_true']
      exact ⟨e, he, by simp [hb]⟩
    rw [this] at h6; cases h6
  exact ⟨fun i hi => (h1 i (by simp [hi])).1, fun i hi => (h1 i (by simp [hi])).1, fun i hi hm => by have := h2 i hi; simp [hm] at this, key h3, key h4⟩
theorem Off.trans {X : List Nat} {a b c : Env} (h : Off X a b) (k : Off X b c) : Off X a c := fun t ht => (k t ht).trans (h t ht)
theorem Off.of_put {X : List Nat} {ρ : Env} {dst : Option Nat} (h : ∀ t, dst = some t → t ∈ X) (v : Value) : Off X ρ (Gk.put ρ dst v) := by
  cases dst with
  | none => exact fun _ _ => rfl
  | some d =>
    intro t ht
    show upd ρ d v t = ρ t
    unfold upd
    cases e : Nat.beq t d with
    | true => rw [Nat.eq_of_beq_eq_true e] at ht; exact absurd (h d rfl) ht
    | false => rfl
theorem swap3 (A B X : List PHeap) : (A ++ (B ++ X)).Perm (B ++ (A ++ X)) := by
  rw [← List.append_assoc, ← List.append_assoc]; exact (List.perm_append_comm).append_right X
theorem Vs.front {d d1 : PHeap} {L L1 : List PHeap} (Ls : List PHeap) (h : Vs d L d1 L1) : Vs d (Ls ++ L) d1 (Ls ++ L1) :=
  ⟨h.1, fun F W x => (h.2 (Ls ++ F) W (x.perm (List.Perm.cons d (by rw [List.append_assoc]; exact Gk.swap3 Ls L F)))).perm (List.Perm.cons d1 (by rw [List.append_assoc]; exact Gk.swap3 L1 Ls F))⟩
theorem Vs.behind {d d1 : PHeap} {L L1 : List PHeap} (M : List PHeap) (h : Vs d L d1 L1) : Vs d (L ++ M) d1 (L1 ++ M) :=
  ⟨h.1, fun F W x => by rw [List.append_assoc]; exact h.2 (M ++ F) W (by rw [← List.append_assoc]; exact x)⟩
theorem Vs.two {d e1 e2 : PHeap} {Ls L1 L2 M1 M2 : List PHeap} (h1 : Vs d (Ls ++ L1) e1 (Ls ++ M1)) (h2 : Vs d (Ls ++ L2) e2 (Ls ++ M2)) : Vs d (Ls ++ (L1 ++ L2)) (Gk.join e2 e1) (Ls ++ (M1 ++ M2)) := by
  refine ⟨h1.1.trans (Le.join_right _ _), fun F W x => ?_⟩
  have x1 : Ok (d :: ((Ls ++ L1) ++ (L2 ++ F))) W := by simpa [List.append_assoc] using x
  have x2 := h1.2 (L2 ++ F) W x1
  have x3 : Ok (e1 :: ((Ls ++ L2) ++ (M1 ++ F))) W := x2.perm (List.Perm.cons e1 (by
    rw [List.append_assoc, List.append_assoc]
    exact (Gk.swap3 M1 L2 F).append_left Ls))
  have x4 := (h2.up h1.1).2 (M1 ++ F) W x3
  exact x4.perm (List.Perm.cons _ (by
    rw [List.append_assoc, List.append_assoc, List.append_assoc]
    exact (Gk.swap3 M2 M1 F).append_left Ls))
section
variable {ops : Array Oper}
theorem ready_up {l : Array Bool} (xs : List Nat) (i : Nat) (hx : i ∉ xs) (hi : i ∈ Region.ready .any ops l) : i ∈ Region.ready .any ops (marked l xs) := by
  obtain ⟨e1, o, e2, e3⟩ := mem_ready.1 hi
  refine mem_ready.2 ⟨?_, o, e2, fun e he hb => ?_⟩
  · rw [getD_true] at e1 ⊢; rw [marked_get, if_neg hx]; exact e1
  · have := e3 e he hb
    rw [getD_false] at this ⊢
    rw [marked_get, this]; split <;> rfl
theorem ready_down {l : Array Bool} {xs ys : List Nat} (hd : ∀ i ∈ xs, i ∉ ys) (hw : ∀ i ∈ xs, ∀ o, ops[i]? = some o → ∀ e ∈ o.after, Region.binds .any e = true → e.on ∉ ys) {i : Nat} (hx : i ∈ xs) (hi : i ∈ Region.ready .any ops (marked l ys)) : i ∈ Region.ready .any ops l := by
  obtain ⟨e1, o, e2, e3⟩ := mem_ready.1 hi
  refine mem_ready.2 ⟨?_, o, e2, fun e he hb => ?_⟩
  · rw [getD_true] at e1 ⊢; rw [marked_get, if_neg (hd i hx)] at e1; exact e1
  · have h3 := e3 e he hb
    rw [getD_false] at h3 ⊢
    rw [marked_get, if_neg (hw i hx o e2 e he hb)] at h3
    exact h3
theorem marked_not (xs : List Nat) (l : Array Bool) (i : Nat) (hi : i ∈ xs) : (marked l xs)[i]? ≠ some false := by
  intro h
  rw [marked_get, if_pos hi] at h
  cases e : l[i]? <;> rw [e] at h <;> simp at h
theorem two_end {l tgt : Array Bool} {xa xb : List Nat} (hdis : ∀ i ∈ xa, i ∉ xb) (ea : marked l xb = tgt) (eb : marked l xa = tgt) : l = tgt := by
  apply Array.ext_getElem?
  intro j
  by_cases hj : j ∈ xa
  · rw [← ea, marked_get, if_neg (hdis j hj)]
  · rw [← eb, marked_get, if_neg hj]
theorem two_ready {bs : List Bool} {xa xb ha hb : List Nat} {fa fb : Bool} {l l0 l1 tgt : Array Bool} (hap : apartOk ops bs xa xb = true) (ht1 : tgt = marked l0 xa) (ht2 : tgt = marked l1 xb)
    (ina : ∀ i ∈ ha, i ∈ xa) (inb : ∀ i ∈ hb, i ∈ xb) (ra : fa = false → ∀ i, i ∈ Region.ready .any ops (marked l xb) ↔ i ∈ ha) (rb : fb = false → ∀ i, i ∈ Region.ready .any ops (marked l xa) ↔ i ∈ hb)
    (ea : fa = true → marked l xb = tgt) (eb : fb = true → marked l xa = tgt) (na : fa = true → ha = []) (nb : fb = true → hb = []) (hne : ¬ (fa = true ∧ fb = true)) (i : Nat) : i ∈ Region.ready .any ops l ↔ i ∈ ha ∨ i ∈ hb := by
  obtain ⟨hb1, hb2, hdis, hw1, hw2⟩ := apartOk_spec hap
  constructor
  · intro hi
    by_cases hil : i ∈ xa
    · have h3 := ready_up xb i (hdis i hil) hi
      cases h : fa with
      | true =>
        have h4 := getD_true.1 (mem_ready.1 h3).1
        rw [ea h, ht1] at h4
        exact absurd h4 (marked_not xa l0 i hil)
      | false => exact .inl ((ra h i).1 h3)
    · have h3 := ready_up xa i hil hi
      cases h : fb with
      | true =>
        have h4 := getD_true.1 (mem_ready.1 h3).1
        rw [eb h] at h4
        have hilb : i ∉ xb := fun hm => by rw [ht2] at h4; exact marked_not xb l1 i hm h4
        have hne' : fa = false := by cases e : fa with | true => exact absurd ⟨e, h⟩ hne | false => rfl
        exact absurd (ina i ((ra hne' i).1 (ready_up xb i hilb hi))) hil
      | false => exact .inr ((rb h i).1 h3)
  · rintro (hi | hi)
    · have h : fa = false := by cases e : fa with | true => rw [na e] at hi; cases hi | false => rfl
      exact ready_down hdis hw1 (ina i hi) ((ra h i).2 hi)
    · have h : fb = false := by cases e : fb with | true => rw [nb e] at hi; cases hi | false => rfl
      exact ready_down (fun i hi hm => hdis i hm hi) hw2 (inb i hi) ((rb h i).2 hi)
end
theorem fin_heads : ∀ (s : SI), s.fin = true → s.heads = [] := by
  intro s
  induction s with
  | done => intro _; rfl
  | op tk j s => intro h; cases h
  | alt j s t => intro h; cases h
  | bar s => intro h; cases h
  | par xa xb a b s iha ihb ihs =>
    intro h
    simp only [SI.fin, Bool.and_eq_true] at h
    simp only [SI.heads, h.1.1, h.1.2, Bool.and_self, if_true]
    exact ihs h.2
theorem front_par {la lb : List Nat} {a b s : SI} (h : (SI.par la lb a b s).front = none) : a.front = none ∧ b.front = none ∧ (a.fin = true ∧ b.fin = true → s.front = none) := by
  simp only [SI.front] at h
  cases ha : a.front with
  | some i => rw [ha] at h; cases h
  | none =>
    rw [ha] at h
    cases hb : b.front with
    | some i => rw [hb] at h; cases h
    | none =>
      rw [hb] at h
      exact ⟨rfl, rfl, fun ⟨h1, h2⟩ => by simpa [h1, h2] using h⟩
section
variable {ops : Array Oper} {q : Nat → Bool} {bs : List Bool}
theorem front_low {la : List Nat} {tgt l lm : Array Bool} {s : SI} (hc : chkT ops q bs la tgt false l lm s = true) : s.front = none := by
  cases s with
  | done => rfl
  | op tk j s =>
    cases tk with
    | true => simp [chkT] at hc
    | false => rfl
  | alt j s t => rfl
  | bar s => rfl
  | par xa xb a b s => simp [chkT] at hc
theorem heads_in : ∀ (s : SI) {la : List Nat} {tgt l lm : Array Bool} {top : Bool}, chkT ops q bs la tgt top l lm s = true → ∀ i ∈ s.heads, i ∈ la := by
  intro s
  induction s with
  | done => intro la tgt l lm top _ i hi; cases hi
  | op tk j s ih =>
    intro la tgt l lm top hc i hi
    simp only [SI.heads, List.mem_singleton] at hi
    subst hi
    cases tk with
    | true => simp only [chkT, Bool.and_eq_true] at hc; simpa using hc.1.2
    | false => simp only [chkT, Bool.and_eq_true] at hc; simpa using hc.1.2
  | alt j s t ih1 ih2 =>
    intro la tgt l lm top hc i hi
    simp only [chkT, Bool.and_eq_true] at hc
    rcases List.mem_cons.1 hi with rfl | hi
    · simpa using hc.1.1.2
    · exact ih2 hc.2 i hi
  | bar s ih => intro la tgt l lm top hc; cases hc
  | par xa xb a b s iha ihb ihs =>
    intro la tgt l lm top hc i hi
    simp only [chkT, Bool.and_eq_true, List.all_eq_true] at hc
    obtain ⟨⟨⟨⟨⟨_, hin⟩, _⟩, hca⟩, hcb⟩, hcs⟩ := hc
    simp only [SI.heads] at hi
    split at hi
    · exact ihs hcs i hi
    · rcases List.mem_append.1 hi with hi | hi
      · simpa using hin i (by simp [iha hca i hi])
      · simpa using hin i (by simp [ihb hcb i hi])
theorem fin_end : ∀ (s : SI) {la : List Nat} {tgt l lm : Array Bool}, chkT ops q bs la tgt true l lm s = true → s.fin = true → l = tgt := by
  intro s
  induction s with
  | done => intro la tgt l lm hc _; simpa [chkT] using hc
  | op tk j s => intro la tgt l lm hc h; cases h
  | alt j s t => intro la tgt l lm hc h; cases h
  | bar s => intro la tgt l lm hc h; cases h
  | par xa xb a b s iha ihb ihs =>
    intro la tgt l lm hc h
    simp only [chkT, Bool.and_eq_true, List.all_eq_true, beq_iff_eq] at hc
    obtain ⟨⟨⟨⟨⟨⟨_, hap⟩, hin⟩, hmm⟩, hca⟩, hcb⟩, hcs⟩ := hc
    simp only [SI.fin, Bool.and_eq_true] at h
    exact (two_end (apartOk_spec hap).2.2.1 (iha hca h.1.1) (ihb hcb h.1.2)).trans (ihs hcs h.2)
theorem heads_ready : ∀ (s : SI) {la : List Nat} {tgt l lm : Array Bool}, chkT ops q bs la tgt true l lm s = true → s.front = none → s.fin = false → (∀ i, i ∈ Region.ready .any ops l ↔ i ∈ s.heads) ∧ s.heads ≠ [] ∧ 1 ≤ s.steps := by
  intro s
  induction s with
  | done => intro la tgt l lm hc _ h; cases h
  | op tk j s =>
    intro la tgt l lm hc hf _
    cases tk with
    | true => cases hf
    | false =>
      simp only [chkT, Bool.and_eq_true, Bool.not_true, Bool.false_or, beq_iff_eq] at hc
      exact ⟨fun i => by rw [hc.1.1]; rfl, by simp [SI.heads], by simp only [SI.steps]; omega⟩
  | alt j s t =>
    intro la tgt l lm hc _ _
    simp only [chkT, Bool.and_eq_true, Bool.not_true, Bool.false_or, beq_iff_eq] at hc
    exact ⟨fun i => by rw [hc.1.1.1]; rfl, by simp [SI.heads], by simp only [SI.steps]; omega⟩
  | bar s => intro la tgt l lm hc; cases hc
  | par xa xb a b s iha ihb ihs =>
    intro la tgt l lm hc hf h
    simp only [chkT, Bool.and_eq_true, List.all_eq_true, beq_iff_eq] at hc
    obtain ⟨⟨⟨⟨⟨⟨_, hap⟩, hin⟩, hmm⟩, hca⟩, hcb⟩, hcs⟩ := hc
    obtain ⟨fa, fb, fs⟩ := front_par hf
    by_cases h0 : a.fin = true ∧ b.fin = true
    · have e := two_end (apartOk_spec hap).2.2.1 (fin_end a hca h0.1) (fin_end b hcb h0.2)
      rw [← e] at hcs
      have hs : s.fin = false := by simpa [SI.fin, h0.1, h0.2] using h
      obtain ⟨h1, h2, h3⟩ := ihs hcs (fs h0) hs
      simp only [SI.heads, h0.1, h0.2, Bool.and_self, if_true, SI.steps]
      exact ⟨h1, h2, by omega⟩
    · have hh : (SI.par xa xb a b s).heads = a.heads ++ b.heads := by
        simp only [SI.heads]; rw [if_neg (by simpa using h0)]
      rw [hh]
      refine ⟨fun i => ?_, ?_, ?_⟩
      · rw [List.mem_append]
        exact two_ready hap rfl hmm (heads_in a hca) (heads_in b hcb) (fun e => (iha hca fa e).1) (fun e => (ihb hcb fb e).1) (fin_end a hca) (fin_end b hcb) (fin_heads a) (fin_heads b) h0 i
      · cases ea : a.fin with
        | false => have := (iha hca fa ea).2.1; simp [this]
        | true => cases eb : b.fin with
          | false => have := (ihb hcb fb eb).2.1; simp [this]
          | true => exact absurd ⟨ea, eb⟩ h0
      · simp only [SI.steps]
        cases ea : a.fin with
        | false => have := (iha hca fa ea).2.2; omega
        | true => cases eb : b.fin with
          | false => have := (ihb hcb fb eb).2.2; omega
          | true => exact absurd ⟨ea, eb⟩ h0
end
theorem fin_gws {P : Program} {n : Nat} {ops : Array Oper} {Ls : List PHeap} : ∀ (s : SI) {Qn : Env → Post} {g : GS} {ρ : Env} {d : PHeap} {L : List PHeap}, s.fin = true → toGS P n ops s = some g →
    gws P noPan Qn g Ls ρ d L → ∃ d1 L1, Vs d (Ls ++ L) d1 L1 ∧ Qn ρ d1 L1 := by
  intro s
  induction s with
  | done =>
    intro Qn g ρ d L _ hs h
    simp [toGS] at hs; subst hs
    exact h
  | op tk j s => intro Qn g ρ d L h; cases h
  | alt j s t => intro Qn g ρ d L h; cases h
  | bar s => intro Qn g ρ d L h; cases h
  | par xa xb a b s iha ihb ihs =>
    intro Qn g ρ d L hh hs h
    simp only [SI.fin, Bool.and_eq_true] at hh
    simp only [toGS] at hs
    split at hs <;> try cases hs
    rename_i a' b' s' ha hb hs'
    split at hs <;> try cases hs
    obtain ⟨Ra, Rb, d1, L1, L2, hv, sa, sb, h1, h2, h3⟩ := h
    obtain ⟨e1, N1, v1, M1, rfl, r1⟩ := iha hh.1.1 ha h1
    obtain ⟨e2, N2, v2, M2, rfl, r2⟩ := ihb hh.1.2 hb h2
    have v3 := Vs.two v1 v2
    have h4 := h3 ρ (Gk.join e2 e1) M1 M2 v3.1 (fun _ _ => rfl) (sa _ _ _ _ _ (fun _ _ => rfl) (Le.join_right _ _) r1) (sb _ _ _ _ _ (fun _ _ => rfl) (Le.join_left _ _) r2)
    obtain ⟨d3, L3, v4, q⟩ := ihs hh.2 hs' h4
    exact ⟨d3, L3, ((hv.front Ls).trans v3).trans v4, q⟩
def Sb (l l' : Array Bool) : Prop := ∀ j, l'.getD j true = false → l.getD j true = false
theorem Sb.set {l l' : Array Bool} (h : Sb l l') (i : Nat) : Sb (l.setIfInBounds i true) (l'.setIfInBounds i true) := by
  intro j hj
  have h0 := h j
  rw [getD_true] at hj h0 ⊢
  rw [set_get] at hj ⊢
  split at hj
  · exfalso; cases e : l'[j]? <;> rw [e] at hj <;> simp at hj
  · rename_i hne
    rw [if_neg hne]
    exact getD_true.1 (h0 hj)
theorem Sb.self (l : Array Bool) (i : Nat) : Sb l (l.setIfInBounds i true) := by
  intro j hj
  rw [getD_true] at hj ⊢
  rw [set_get] at hj
  split at hj
  · exfalso; cases e : l[j]? <;> rw [e] at hj <;> simp at hj
  · exact hj
theorem Sb.trans {a b c : Array Bool} (h : Sb a b) (k : Sb b c) : Sb a c := fun j hj => h j (k j hj)
theorem marked_done {l lm lx : Array Bool} {la xa xb : List Nat} (hin : ∀ i ∈ xa ++ xb, i ∈ la) (hsb : Sb lm lx) (hcov : ∀ x ∈ la, l.getD x true = true → lx.getD x true = true) (el : l = Gk.marked (Gk.marked l xb) xa) : Sb (Gk.marked (Gk.marked lm xb) xa) lx := by
  have done : ∀ j, j ∈ xa ++ xb → l.getD j true = true := by
    intro j hj
    rw [el]
    cases e : (Gk.marked (Gk.marked l xb) xa).getD j true with
    | true => rfl
    | false =>
      rw [getD_true, marked_get, marked_get] at e
      rcases List.mem_append.1 hj with h | h
      · rw [if_pos h] at e
        split at e <;> cases e2 : l[j]? <;> rw [e2] at e <;> simp at e
      · rw [if_pos h] at e
        split at e <;> cases e2 : l[j]? <;> rw [e2] at e <;> simp at e
  intro j hj
  have h0 := hsb j hj
  have hn : j ∉ xa ++ xb := fun hm => by rw [hcov j (hin j hm) (done j hm)] at hj; cases hj
  rw [List.mem_append, not_or] at hn
  rw [getD_true] at h0 ⊢
  rw [marked_get, if_neg hn.1, marked_get, if_neg hn.2]
  exact h0
theorem Sb.marked {l l' : Array Bool} (h : Sb l l') (xs : List Nat) : Sb (Gk.marked l xs) (Gk.marked l' xs) := by
  intro j hj
  have h0 := h j
  rw [getD_true] at hj h0 ⊢
  rw [marked_get] at hj ⊢
  split at hj
  · exfalso; cases e : l'[j]? <;> rw [e] at hj <;> simp at hj
  · rename_i hne
    rw [if_neg hne]
    exact getD_true.1 (h0 hj)
theorem free_up {ops : Array Oper} {l l' : Array Bool} (h : Sb l l') {i : Nat} (hf : Region.free .any ops l i = true) : Region.free .any ops l' i = true := by
  unfold Region.free at hf ⊢
  split at hf
  · cases hf
  · simp only [List.all_eq_true] at hf ⊢
    intro j hj
    have := hf j hj
    cases e : l'.getD j true with
    | true => simp
    | false => rw [h j e] at this; simpa using this
theorem chkT_up {ops : Array Oper} {q : Nat → Bool} {bs : List Bool} : ∀ (s : SI) {la : List Nat} {tgt l lm lm' : Array Bool} {top : Bool}, Sb lm lm' → chkT ops q bs la tgt top l lm s = true → chkT ops q bs la tgt top l lm' s = true := by
  intro s
  induction s with
  | done => intro la tgt l lm lm' top _ h; exact h
  | op tk j s ih =>
    intro la tgt l lm lm' top hs h
    cases tk with
    | true =>
      simp only [chkT, Bool.and_eq_true] at h ⊢
      obtain ⟨⟨⟨⟨⟨h1, h2⟩, h3⟩, h4⟩, h5⟩, h6⟩ := h
      exact ⟨⟨⟨⟨⟨h1, h2⟩, free_up hs h3⟩, h4⟩, h5⟩, ih (hs.set j) h6⟩
    | false =>
      simp only [chkT, Bool.and_eq_true] at h ⊢
      exact ⟨h.1, ih (hs.set j) h.2⟩
  | alt j s t ih1 ih2 =>
    intro la tgt l lm lm' top hs h
    simp only [chkT, Bool.and_eq_true] at h ⊢
    exact ⟨⟨h.1.1, ih1 (hs.set j) h.1.2⟩, ih2 hs h.2⟩
  | bar s ih => intro la tgt l lm lm' top _ h; cases h
  | par xa xb a b s iha ihb ihs =>
    intro la tgt l lm lm' top hs h
    simp only [chkT, Bool.and_eq_true] at h ⊢
    obtain ⟨⟨⟨⟨⟨⟨h1, h2⟩, h3⟩, h4⟩, h5⟩, h6⟩, h7⟩ := h
    exact ⟨⟨⟨⟨⟨⟨h1, h2⟩, h3⟩, h4⟩, iha hs h5⟩, ihb hs h6⟩, ihs ((hs.marked xb).marked xa) h7⟩
theorem gop_frame {P : Program} {ρ : Env} {d : PHeap} {Ls L M : List PHeap} {K K' : Env → Post} {g : GOp} (hq : g.i.quiet = true) (hK : ∀ v, K (put ρ g.dst v) d L → K' (put ρ g.dst v) d (L ++ M)) (h : gop P noPan g ρ d Ls L K) : gop P noPan g ρ d Ls (L ++ M) K' := by
  obtain ⟨dst, guard, i⟩ := g
  have run : gi P noPan ρ d Ls L (fun v d' L' => K (put ρ dst v) d' L') i → gi P noPan ρ d Ls (L ++ M) (fun v d' L' => K' (put ρ dst v) d' L') i := fun h => by
    rw [gi_quiet hq] at h ⊢
    obtain ⟨v, h1, h2⟩ := h
    exact ⟨v, h1, hK v h2⟩
  cases guard with
  | none => exact run h
  | some p =>
    obtain ⟨t, want⟩ := p
    rcases h with ⟨b, hb, h1, h2⟩ | ⟨hb, h2⟩
    · exact .inl ⟨b, hb, fun e => run (h1 e), fun e => hK _ (h2 e)⟩
    · exact .inr ⟨hb, hK _ h2⟩
theorem gop_front {P : Program} {ρ : Env} {d : PHeap} {Ls L M : List PHeap} {K K' : Env → Post} {g : GOp} (hq : g.i.quiet = true) (hK : ∀ v, K (put ρ g.dst v) d L → K' (put ρ g.dst v) d (M ++ L)) (h : gop P noPan g ρ d Ls L K) : gop P noPan g ρ d Ls (M ++ L) K' := by
  obtain ⟨dst, guard, i⟩ := g
  have run : gi P noPan ρ d Ls L (fun v d' L' => K (put ρ dst v) d' L') i → gi P noPan ρ d Ls (M ++ L) (fun v d' L' => K' (put ρ dst v) d' L') i := fun h => by
    rw [gi_quiet hq] at h ⊢
    obtain ⟨v, h1, h2⟩ := h
    exact ⟨v, h1, hK v h2⟩
  cases guard with
  | none => exact run h
  | some p =>
    obtain ⟨t, want⟩ := p
    rcases h with ⟨b, hb, h1, h2⟩ | ⟨hb, h2⟩
    · exact .inl ⟨b, hb, fun e => run (h1 e), fun e => hK _ (h2 e)⟩
    · exact .inr ⟨hb, hK _ h2⟩
theorem thread {P : Program} {n : Nat} {ops : Array Oper} {q : Nat → Bool} {bs : List Bool} {Ls : List PHeap} : ∀ (s : SI) {la : List Nat} {tgt : Array Bool} {Qn : Env → Post} (top : Bool) (l lm lx : Array Bool) (g : GS) (ρ : Env) (d : PHeap) (L : List PHeap), Sb lm lx → (∀ x ∈ la, l.getD x true = true → lx.getD x true = true) → s.front = none → chkT ops q bs la tgt top l lm s = true → toGS P n ops s = some g → g.plain = true →
    gws P noPan Qn g Ls ρ d L → ∀ i ∈ s.heads, ∃ o op gs s', ops[i]? = some o ∧ decOp P n ops o = some op ∧ toGS P n ops s' = some gs ∧ chkT ops q bs la tgt true (l.setIfInBounds i true) (lx.setIfInBounds i true) s' = true ∧ s'.steps + 1 ≤ s.steps ∧ gs.plain = true ∧ (∀ t ∈ gs.rds, t ∈ g.rds) ∧ (∀ t ∈ gs.dsts, t ∈ g.dsts) ∧
      (∀ t, op.dst = some t → t ∈ g.dsts) ∧ ∃ d1 La M, Vs d (Ls ++ L) d1 (Ls ++ (La ++ M)) ∧ gop P noPan op ρ d1 (Ls ++ La) La (fun ρ' d' L' => ∃ d2 L2, Vs d' (L' ++ M) d2 L2 ∧ gws P noPan Qn gs Ls ρ' d2 L2) := by
  intro s
  have one : ∀ {Qn : Env → Post} {op : GOp} {gs : GS} {ρ : Env} {d : PHeap} {L : List PHeap}, (∃ d1 L1, Vs d L d1 L1 ∧ gop P (fun c d' L' => noPan c d' (Ls ++ L')) op ρ d1 (Ls ++ L1) L1 (fun ρ' d' L' => ∃ d2 L2, Vs d' L' d2 L2 ∧ gws P noPan Qn gs Ls ρ' d2 L2)) →
      ∃ d1 La M, Vs d (Ls ++ L) d1 (Ls ++ (La ++ M)) ∧ gop P noPan op ρ d1 (Ls ++ La) La (fun ρ' d' L' => ∃ d2 L2, Vs d' (L' ++ M) d2 L2 ∧ gws P noPan Qn gs Ls ρ' d2 L2) := by
    intro Qn op gs ρ d L ⟨d1, L1, hv, h⟩
    exact ⟨d1, L1, [], by rw [List.append_nil]; exact hv.front Ls, gop_mono' (fun ρ d L h => by rw [List.append_nil]; exact h) h⟩
  induction s with
  | done => intro la tgt Qn top l lm lx g ρ d L _ _ _ _ _ _ _ i hi; cases hi
  | op tk j s ih =>
    intro la tgt Qn top l lm lx g ρ d L hsb hcov hf hc hs hp h i hi
    simp only [SI.heads, List.mem_singleton] at hi
    subst hi
    cases tk with
    | true => cases hf
    | false =>
    simp only [chkT, Bool.and_eq_true] at hc
    obtain ⟨⟨_, hla⟩, hc'⟩ := hc
    simp only [toGS] at hs
    split at hs <;> try cases hs
    rename_i g' s' hg hs'
    rw [Option.bind_eq_some_iff] at hg
    obtain ⟨o, ho, hd⟩ := hg
    simp only [GS.plain] at hp
    exact ⟨o, g', s', s, ho, hd, hs', chkT_up s (hsb.set i) hc', by simp [SI.steps], hp, fun t ht => by simp [GS.rds, ht], fun t ht => by simp [GS.dsts, ht], fun t ht => by simp [GS.dsts, ht], one h⟩
  | alt j s t ih1 ih2 =>
    intro la tgt Qn top l lm lx g ρ d L hsb hcov hf hc hs hp h i hi
    simp only [chkT, Bool.and_eq_true] at hc
    obtain ⟨⟨⟨_, hla⟩, hc1⟩, hc2⟩ := hc
    simp only [toGS] at hs
    split at hs <;> try cases hs
    rename_i g' s' t' hg hs' ht'
    rw [Option.bind_eq_some_iff] at hg
    obtain ⟨o, ho, hd⟩ := hg
    simp only [GS.plain, Bool.and_eq_true] at hp
    rcases List.mem_cons.1 hi with rfl | hi
    · exact ⟨o, g', s', s, ho, hd, hs', chkT_up s (hsb.set i) hc1, by simp only [SI.steps]; omega, hp.1, fun t ht => by simp [GS.rds, ht], fun t ht => by simp [GS.dsts, ht], fun t ht => by simp [GS.dsts, ht], one h.1⟩
    · obtain ⟨o, op, gs, s'', q1, q2, q3, q4, q5, q6, q7, q8, q9, q10⟩ := ih2 false l lm lx t' ρ d L hsb hcov (front_low hc2) hc2 ht' hp.2 h.2 i hi
      exact ⟨o, op, gs, s'', q1, q2, q3, q4, by simp only [SI.steps]; omega, q6, fun t ht => by simp [GS.rds, q7 t ht], fun t ht => by simp [GS.dsts, q8 t ht], fun t ht => by simp [GS.dsts, q9 t ht], q10⟩
  | bar s ih => intro la tgt Qn top l lm lx g ρ d L _ _ _ hc; cases hc
  | par xa xb a b s iha ihb ihs =>
    intro la tgt Qn top l lm lx g ρ d L hsb hcov hf hc hs hp h i hi
    have hcc := hc
    simp only [chkT, Bool.and_eq_true, List.all_eq_true, beq_iff_eq] at hc
    obtain ⟨⟨⟨⟨⟨⟨htop, hap⟩, hin⟩, hmm⟩, hca⟩, hcb⟩, hcs⟩ := hc
    subst htop
    have hss := hs
    simp only [toGS] at hs
    split at hs <;> try cases hs
    rename_i a' b' s' ha hb hs'
    split at hs <;> try cases hs
    rename_i hsep
    simp only [Bool.and_eq_true, List.all_eq_true, Bool.not_eq_true'] at hsep
    obtain ⟨⟨⟨hpa, hpb⟩, hs1⟩, hs2⟩ := hsep
    simp only [GS.plain, Bool.and_eq_true] at hp
    have hs1' : ∀ t ∈ a'.dsts, t ∉ b'.rds ∧ t ∉ b'.dsts := fun t ht => ⟨fun hm => by have := (hs1 t ht).1; simp [hm] at this, fun hm => by have := (hs1 t ht).2; simp [hm] at this⟩
    have hs2' : ∀ t ∈ b'.dsts, t ∉ a'.rds := fun t ht hm => by have := hs2 t ht; simp [hm] at this
    obtain ⟨hb1, hb2, hdis, hw1, hw2⟩ := apartOk_spec hap
    obtain ⟨ffa, ffb, ffs⟩ := front_par hf
    have cov : ∀ (xs ys : List Nat), (∀ x ∈ xs, x ∈ xa ++ xb) → (∀ x ∈ xs, x ∉ ys) → ∀ x ∈ xs, (marked l ys).getD x true = true → lx.getD x true = true := by
      intro xs ys h1 h2 x hx h3
      refine hcov x (by simpa using hin x (h1 x hx)) ?_
      cases e : l.getD x true with
      | true => rfl
      | false =>
        rw [getD_true] at e
        have : (marked l ys).getD x true = false := by rw [getD_true, marked_get, if_neg (h2 x hx)]; exact e
        rw [this] at h3; cases h3
    have cova := cov xa xb (fun x hx => by simp [hx]) hdis
    have covb := cov xb xa (fun x hx => by simp [hx]) (fun x hx hm => hdis x hm hx)
    by_cases h0 : a.fin = true ∧ b.fin = true
    · simp only [SI.heads, h0.1, h0.2, Bool.and_self, if_true] at hi
      obtain ⟨Ra, Rb, d1, L1, L2, hv, sa, sb, h1, h2, h3⟩ := h
      obtain ⟨e1, N1, v1, M1, rfl, r1⟩ := fin_gws a h0.1 ha h1
      obtain ⟨e2, N2, v2, M2, rfl, r2⟩ := fin_gws b h0.2 hb h2
      have v3 := Vs.two v1 v2
      have h4 := h3 ρ (Gk.join e2 e1) M1 M2 v3.1 (fun _ _ => rfl) (sa _ _ _ _ _ (fun _ _ => rfl) (Le.join_right _ _) r1) (sb _ _ _ _ _ (fun _ _ => rfl) (Le.join_left _ _) r2)
      have el := two_end hdis (fin_end a hca h0.1) (fin_end b hcb h0.2)
      have hcs := chkT_up s (marked_done (fun x hx => by simpa using hin x hx) hsb hcov el) hcs
      rw [← el] at hcs
      obtain ⟨o, op, gs, s'', q1, q2, q3, q4, q5, q6, q7, q8, q9, d4, La, M, q10, q11⟩ := ihs true l lx lx s' ρ _ _ (fun _ h => h) hcov (ffs h0) hcs hs' hp.2 h4 i hi
      exact ⟨o, op, gs, s'', q1, q2, q3, q4, by simp only [SI.steps]; omega, q6, fun t ht => by simp [GS.rds, q7 t ht], fun t ht => by simp [GS.dsts, q8 t ht], fun t ht => by simp [GS.dsts, q9 t ht], d4, La, M, ((hv.front Ls).trans v3).trans q10, q11⟩
    · have hh : (SI.par xa xb a b s).heads = a.heads ++ b.heads := by
        simp only [SI.heads]; rw [if_neg (by simpa using h0)]
      rw [hh] at hi
      obtain ⟨Ra, Rb, d1, L1, L2, hv, sa, sb, h1, h2, h3⟩ := h
      rcases List.mem_append.1 hi with hi | hi
      · have hix := heads_in a hca i hi
        obtain ⟨o, op, gs, sn, q1, q2, q3, q4, q5, q6, q7, q8, q9, d4, La, M, q10, q11⟩ := iha true (marked l xb) lm lx a' ρ d1 L1 hsb cova ffa hca ha hp.1.1 h1 i hi
        have e1 : marked (marked (l.setIfInBounds i true) xb) xa = marked (marked l xb) xa := by rw [marked_set, marked_in hix]
        have e2 : marked (l.setIfInBounds i true) xa = marked l xa := marked_in hix l
        refine ⟨o, op, .par gs b' s', .par xa xb sn b s, q1, q2, ?_, ?_, by simp only [SI.steps]; omega, ?_, ?_, ?_, fun t ht => by simp [GS.dsts, q9 t ht], d4, La, M ++ L2, ?_, ?_⟩
        · simp only [toGS, q3, hb, hs']
          rw [if_pos]
          simp only [Bool.and_eq_true, List.all_eq_true, Bool.not_eq_true']
          exact ⟨⟨⟨q6, hpb⟩, fun t ht => hs1 t (q8 t ht)⟩, fun t ht => by have := hs2' t ht; simpa using fun hm => this (q7 t hm)⟩
        · simp only [chkT, Bool.and_eq_true, List.all_eq_true, beq_iff_eq, Bool.true_and]
          rw [e1, e2, marked_set]
          exact ⟨⟨⟨⟨⟨hap, hin⟩, hmm⟩, q4⟩, chkT_up b (hsb.trans (Sb.self lx i)) hcb⟩, chkT_up s (((hsb.trans (Sb.self lx i)).marked xb).marked xa) hcs⟩
        · simp only [GS.plain, Bool.and_eq_true]; exact ⟨⟨q6, hpb⟩, hp.2⟩
        · intro t ht
          simp only [GS.rds, List.mem_append] at ht ⊢
          exact ht.imp (q7 t) id
        · intro t ht
          simp only [GS.dsts, List.mem_append] at ht ⊢
          exact ht.imp (q8 t) id
        · have v1 : Vs d (Ls ++ L) d1 (Ls ++ (L1 ++ L2)) := hv.front Ls
          have v2 : Vs d1 ((Ls ++ L1) ++ L2) d4 ((Ls ++ (La ++ M)) ++ L2) := q10.behind L2
          have := v1.trans (by rw [← List.append_assoc]; exact v2)
          simpa [List.append_assoc] using this
        · refine gop_mono' ?_ (gop_put q11)
          intro ρ' d' L' ⟨⟨v, hρ⟩, hle, d5, L5, hv5, h5⟩
          have hoff : Off a'.dsts ρ ρ' := by rw [hρ]; exact Off.of_put (fun t ht => q9 t ht) v
          have hle5 : Le d1 d5 := q10.1.trans (hle.trans hv5.1)
          refine ⟨d5, L5 ++ L2, by rw [← List.append_assoc]; exact hv5.behind L2, Ra, Rb, d5, L5, L2, Vs.refl _ _, sa, ?_, h5, gws_up (part1_stay sb) b' hpb (fun t ht hm => (hs1' t hm).1 ht) (fun t ht hm => (hs1' t hm).2 ht) Ls ρ ρ' d1 d5 L2 hoff hle5 h2, ?_⟩
          · exact fun ρ ρ' d d' L ho hl hr => sb ρ ρ' d d' L (fun t ht => ho t fun hm => ht (q8 t hm)) hl hr
          · intro ρ2 d6 M1 M2 hl ho r1 r2
            refine h3 ρ2 d6 M1 M2 (hle5.trans hl) (fun t ht => ?_) r1 r2
            rw [List.mem_append, not_or] at ht
            exact (ho t (by rw [List.mem_append, not_or]; exact ⟨fun hm => ht.1 (q8 t hm), ht.2⟩)).trans (hoff t ht.1)
      · have hix := heads_in b hcb i hi
        obtain ⟨o, op, gs, sn, q1, q2, q3, q4, q5, q6, q7, q8, q9, d4, La, M, q10, q11⟩ := ihb true (marked l xa) lm lx b' ρ d1 L2 hsb covb ffb hcb hb hp.1.2 h2 i hi
        have e1 : marked (marked (l.setIfInBounds i true) xa) xb = marked (marked l xa) xb := by rw [marked_set, marked_in hix]
        have e2 : marked (l.setIfInBounds i true) xb = marked l xb := marked_in hix l
        have e3 : marked (marked l xb) xa = marked (marked l xa) xb := hmm
        refine ⟨o, op, .par a' gs s', .par xa xb a sn s, q1, q2, ?_, ?_, by simp only [SI.steps]; omega, ?_, ?_, ?_, fun t ht => by simp [GS.dsts, q9 t ht], d4, La, M ++ L1, ?_, ?_⟩
        · simp only [toGS, q3, ha, hs']
          rw [if_pos]
          simp only [Bool.and_eq_true, List.all_eq_true, Bool.not_eq_true']
          exact ⟨⟨⟨hpa, q6⟩, fun t ht => ⟨by have := (hs1' t ht).1; simpa using fun hm => this (q7 t hm), by have := (hs1' t ht).2; simpa using fun hm => this (q8 t hm)⟩⟩, fun t ht => hs2 t (q8 t ht)⟩
        · simp only [chkT, Bool.and_eq_true, List.all_eq_true, beq_iff_eq, Bool.true_and]
          rw [e1, e2, marked_set]
          exact ⟨⟨⟨⟨⟨hap, hin⟩, hmm⟩, chkT_up a (hsb.trans (Sb.self lx i)) hca⟩, q4⟩, chkT_up s (((hsb.trans (Sb.self lx i)).marked xb).marked xa) hcs⟩
        · simp only [GS.plain, Bool.and_eq_true]; exact ⟨⟨hpa, q6⟩, hp.2⟩
        · intro t ht
          simp only [GS.rds, List.mem_append] at ht ⊢
          exact ht.imp id (Or.imp (q7 t) id)
        · intro t ht
          simp only [GS.dsts, List.mem_append] at ht ⊢
          exact ht.imp id (Or.imp (q8 t) id)
        · have v1 : Vs d (Ls ++ L) d1 (Ls ++ (L1 ++ L2)) := hv.front Ls
          have v0 : Vs d1 (Ls ++ (L1 ++ L2)) d1 ((Ls ++ L2) ++ L1) := Vs.perm (by rw [List.append_assoc]; exact (List.perm_append_comm).append_left Ls)
          have v2 : Vs d1 ((Ls ++ L2) ++ L1) d4 ((Ls ++ (La ++ M)) ++ L1) := q10.behind L1
          have := (v1.trans v0).trans v2
          simpa [List.append_assoc] using this
        · refine gop_mono' ?_ (gop_put q11)
          intro ρ' d' L' ⟨⟨v, hρ⟩, hle, d5, L5, hv5, h5⟩
          have hoff : Off b'.dsts ρ ρ' := by rw [hρ]; exact Off.of_put (fun t ht => q9 t ht) v
          have hle5 : Le d1 d5 := q10.1.trans (hle.trans hv5.1)
          refine ⟨d5, L1 ++ L5, (by rw [← List.append_assoc]; exact hv5.behind L1 : Vs d' (L' ++ (M ++ L1)) d5 (L5 ++ L1)).trans (Vs.perm List.perm_append_comm), Ra, Rb, d5, L1, L5, Vs.refl _ _, ?_, sb, gws_up (part1_stay sa) a' hpa (fun t ht hm => hs2' t hm ht) (fun t ht hm => (hs1' t ht).2 hm) Ls ρ ρ' d1 d5 L1 hoff hle5 h1, h5, ?_⟩
          · exact fun ρ ρ' d d' L ho hl hr => sa ρ ρ' d d' L (fun t ht => ho t fun hm => ht (q8 t hm)) hl hr
          · intro ρ2 d6 M1 M2 hl ho r1 r2
            refine h3 ρ2 d6 M1 M2 (hle5.trans hl) (fun t ht => ?_) r1 r2
            rw [List.mem_append, not_or] at ht
            exact (ho t (by rw [List.mem_append, not_or]; exact ⟨ht.1, fun hm => ht.2 (q8 t hm)⟩)).trans (hoff t ht.2)
theorem thread_take {P : Program} {n : Nat} {ops : Array Oper} {q : Nat → Bool} {bs : List Bool} {Ls : List PHeap} (hq : ∀ i o op, q i = true → ops[i]? = some o → decOp P n ops o = some op → op.i.quiet = true) :
    ∀ (s : SI) {la : List Nat} {tgt : Array Bool} {Qn : Env → Post} (l lm lx : Array Bool) (g : GS) (ρ : Env) (d : PHeap) (L : List PHeap) (i : Nat), Sb lm lx → (∀ x ∈ la, l.getD x true = true → lx.getD x true = true) → s.front = some i → chkT ops q bs la tgt true l lm s = true → toGS P n ops s = some g → g.plain = true →
    gws P noPan Qn g Ls ρ d L → q i = true ∧ Region.free .any ops lx i = true ∧ i ∈ Region.ready .any ops l ∧ i ∈ la ∧ ∃ o op gs s', ops[i]? = some o ∧ decOp P n ops o = some op ∧ toGS P n ops s' = some gs ∧ chkT ops q bs la tgt true (l.setIfInBounds i true) (lx.setIfInBounds i true) s' = true ∧ s'.steps + 1 ≤ s.steps ∧ gs.plain = true ∧ (∀ t ∈ gs.rds, t ∈ g.rds) ∧ (∀ t ∈ gs.dsts, t ∈ g.dsts) ∧
      (∀ t, op.dst = some t → t ∈ g.dsts) ∧ ∃ d1 L1, Vs d (Ls ++ L) d1 (Ls ++ L1) ∧ gop P noPan op ρ d1 Ls L1 (fun ρ' d' L' => gws P noPan Qn gs Ls ρ' d' L') := by
  intro s
  induction s with
  | done => intro la tgt Qn l lm lx g ρ d L i _ _ h; cases h
  | alt j s t => intro la tgt Qn l lm lx g ρ d L i _ _ h; cases h
  | bar s => intro la tgt Qn l lm lx g ρ d L i _ _ h; cases h
  | op tk j s ih =>
    intro la tgt Qn l lm lx g ρ d L i hsb hcov hf hc hs hp h
    cases tk with
    | false => cases hf
    | true =>
    simp only [SI.front, Option.some.injEq] at hf
    subst hf
    simp only [chkT, Bool.and_eq_true] at hc
    obtain ⟨⟨⟨⟨⟨_, hqi⟩, hfr⟩, hrd⟩, hla⟩, hc'⟩ := hc
    simp only [toGS] at hs
    split at hs <;> try cases hs
    rename_i g' s' hg hs'
    rw [Option.bind_eq_some_iff] at hg
    obtain ⟨o, ho, hd⟩ := hg
    simp only [GS.plain] at hp
    exact ⟨hqi, free_up hsb hfr, by simpa using hrd, by simpa using hla, o, g', s', s, ho, hd, hs', chkT_up s (hsb.set j) hc', by simp [SI.steps], hp, fun t ht => by simp [GS.rds, ht], fun t ht => by simp [GS.dsts, ht], fun t ht => by simp [GS.dsts, ht], d, L, Vs.refl _ _, h⟩
  | par xa xb a b s iha ihb ihs =>
    intro la tgt Qn l lm lx g ρ d L i hsb hcov hf hc hs hp h
    simp only [chkT, Bool.and_eq_true, List.all_eq_true, beq_iff_eq] at hc
    obtain ⟨⟨⟨⟨⟨⟨_, hap⟩, hin⟩, hmm⟩, hca⟩, hcb⟩, hcs⟩ := hc
    simp only [toGS] at hs
    split at hs <;> try cases hs
    rename_i a' b' s' ha hb hs'
    split at hs <;> try cases hs
    rename_i hsep
    simp only [Bool.and_eq_true, List.all_eq_true, Bool.not_eq_true'] at hsep
    obtain ⟨⟨⟨hpa, hpb⟩, hs1⟩, hs2⟩ := hsep
    simp only [GS.plain, Bool.and_eq_true] at hp
    have hs1' : ∀ t ∈ a'.dsts, t ∉ b'.rds ∧ t ∉ b'.dsts := fun t ht => ⟨fun hm => by have := (hs1 t ht).1; simp [hm] at this, fun hm => by have := (hs1 t ht).2; simp [hm] at this⟩
    have hs2' : ∀ t ∈ b'.dsts, t ∉ a'.rds := fun t ht hm => by have := hs2 t ht; simp [hm] at this
    obtain ⟨hb1, hb2, hdis, hw1, hw2⟩ := apartOk_spec hap
    have cov : ∀ (xs ys : List Nat), (∀ x ∈ xs, x ∈ xa ++ xb) → (∀ x ∈ xs, x ∉ ys) → ∀ x ∈ xs, (marked l ys).getD x true = true → lx.getD x true = true := by
      intro xs ys h1 h2 x hx h3
      refine hcov x (by simpa using hin x (h1 x hx)) ?_
      cases e : l.getD x true with
      | true => rfl
      | false =>
        rw [getD_true] at e
        have : (marked l ys).getD x true = false := by rw [getD_true, marked_get, if_neg (h2 x hx)]; exact e
        rw [this] at h3; cases h3
    have cova := cov xa xb (fun x hx => by simp [hx]) hdis
    have covb := cov xb xa (fun x hx => by simp [hx]) (fun x hx hm => hdis x hm hx)
    obtain ⟨Ra, Rb, d1, L1, L2, hv, sa, sb, h1, h2, h3⟩ := h
    simp only [SI.front] at hf
    cases hfa : a.front with
    | some j =>
      rw [hfa] at hf
      simp only [Option.some.injEq] at hf
      subst hf
      obtain ⟨r1, r2, r3, hix, o, op, gs, sn, q1, q2, q3, q4, q5, q6, q7, q8, q9, d4, L4, q10, q11⟩ := iha (marked l xb) lm lx a' ρ d1 L1 j hsb cova hfa hca ha hpa h1
      have e1 : marked (marked (l.setIfInBounds j true) xb) xa = marked (marked l xb) xa := by rw [marked_set, marked_in hix]
      have e2 : marked (l.setIfInBounds j true) xa = marked l xa := marked_in hix l
      refine ⟨r1, r2, ready_down hdis hw1 hix r3, by simpa using hin j (by simp [hix]), o, op, .par gs b' s', .par xa xb sn b s, q1, q2, ?_, ?_, by simp only [SI.steps]; omega, ?_, ?_, ?_, fun t ht => by simp [GS.dsts, q9 t ht], d4, L4 ++ L2, ?_, ?_⟩
      · simp only [toGS, q3, hb, hs']
        rw [if_pos]
        simp only [Bool.and_eq_true, List.all_eq_true, Bool.not_eq_true']
        exact ⟨⟨⟨q6, hpb⟩, fun t ht => hs1 t (q8 t ht)⟩, fun t ht => by have := hs2' t ht; simpa using fun hm => this (q7 t hm)⟩
      · simp only [chkT, Bool.and_eq_true, List.all_eq_true, beq_iff_eq, Bool.true_and]
        rw [e1, e2, marked_set]
        exact ⟨⟨⟨⟨⟨hap, hin⟩, hmm⟩, q4⟩, chkT_up b (hsb.trans (Sb.self lx j)) hcb⟩, chkT_up s (((hsb.trans (Sb.self lx j)).marked xb).marked xa) hcs⟩
      · simp only [GS.plain, Bool.and_eq_true]; exact ⟨⟨q6, hpb⟩, hp.2⟩
      · intro t ht
        simp only [GS.rds, List.mem_append] at ht ⊢
        exact ht.imp (q7 t) id
      · intro t ht
        simp only [GS.dsts, List.mem_append] at ht ⊢
        exact ht.imp (q8 t) id
      · have v1 : Vs d (Ls ++ L) d1 (Ls ++ (L1 ++ L2)) := hv.front Ls
        have v2 : Vs d1 ((Ls ++ L1) ++ L2) d4 ((Ls ++ L4) ++ L2) := q10.behind L2
        have := v1.trans (by rw [← List.append_assoc]; exact v2)
        simpa [List.append_assoc] using this
      · refine gop_frame (hq j o op r1 q1 q2) (fun v h5 => ?_) q11
        have hoff : Off a'.dsts ρ (put ρ op.dst v) := Off.of_put (fun t ht => q9 t ht) v
        refine ⟨Ra, Rb, d4, L4, L2, Vs.refl _ _, sa, ?_, h5, gws_up (part1_stay sb) b' hpb (fun t ht hm => (hs1' t hm).1 ht) (fun t ht hm => (hs1' t hm).2 ht) Ls ρ _ d1 d4 L2 hoff q10.1 h2, ?_⟩
        · exact fun ρ ρ' d d' L ho hl hr => sb ρ ρ' d d' L (fun t ht => ho t fun hm => ht (q8 t hm)) hl hr
        · intro ρ2 d6 M1 M2 hl ho r1 r2
          refine h3 ρ2 d6 M1 M2 (q10.1.trans hl) (fun t ht => ?_) r1 r2
          rw [List.mem_append, not_or] at ht
          exact (ho t (by rw [List.mem_append, not_or]; exact ⟨fun hm => ht.1 (q8 t hm), ht.2⟩)).trans (hoff t ht.1)
    | none =>
    rw [hfa] at hf
    cases hfb : b.front with
    | some j =>
      rw [hfb] at hf
      simp only [Option.some.injEq] at hf
      subst hf
      obtain ⟨r1, r2, r3, hix, o, op, gs, sn, q1, q2, q3, q4, q5, q6, q7, q8, q9, d4, L4, q10, q11⟩ := ihb (marked l xa) lm lx b' ρ d1 L2 j hsb covb hfb hcb hb hpb h2
      have e1 : marked (marked (l.setIfInBounds j true) xa) xb = marked (marked l xa) xb := by rw [marked_set, marked_in hix]
      have e2 : marked (l.setIfInBounds j true) xb = marked l xb := marked_in hix l
      have e3 : marked (marked l xb) xa = marked (marked l xa) xb := hmm
      refine ⟨r1, r2, ready_down (fun i hi hm => hdis i hm hi) hw2 hix r3, by simpa using hin j (by simp [hix]), o, op, .par a' gs s', .par xa xb a sn s, q1, q2, ?_, ?_, by simp only [SI.steps]; omega, ?_, ?_, ?_, fun t ht => by simp [GS.dsts, q9 t ht], d4, L1 ++ L4, ?_, ?_⟩
      · simp only [toGS, q3, ha, hs']
        rw [if_pos]
        simp only [Bool.and_eq_true, List.all_eq_true, Bool.not_eq_true']
        exact ⟨⟨⟨hpa, q6⟩, fun t ht => ⟨by have := (hs1' t ht).1; simpa using fun hm => this (q7 t hm), by have := (hs1' t ht).2; simpa using fun hm => this (q8 t hm)⟩⟩, fun t ht => hs2 t (q8 t ht)⟩
      · simp only [chkT, Bool.and_eq_true, List.all_eq_true, beq_iff_eq, Bool.true_and]
        rw [e1, e2, marked_set]
        exact ⟨⟨⟨⟨⟨hap, hin⟩, hmm⟩, chkT_up a (hsb.trans (Sb.self lx j)) hca⟩, q4⟩, chkT_up s (((hsb.trans (Sb.self lx j)).marked xb).marked xa) hcs⟩
      · simp only [GS.plain, Bool.and_eq_true]; exact ⟨⟨hpa, q6⟩, hp.2⟩
      · intro t ht
        simp only [GS.rds, List.mem_append] at ht ⊢
        exact ht.imp id (Or.imp (q7 t) id)
      · intro t ht
        simp only [GS.dsts, List.mem_append] at ht ⊢
        exact ht.imp id (Or.imp (q8 t) id)
      · have v1 : Vs d (Ls ++ L) d1 (Ls ++ (L1 ++ L2)) := hv.front Ls
        have v0 : Vs d1 (Ls ++ (L1 ++ L2)) d1 ((Ls ++ L2) ++ L1) := Vs.perm (by rw [List.append_assoc]; exact (List.perm_append_comm).append_left Ls)
        have v2 : Vs d1 ((Ls ++ L2) ++ L1) d4 ((Ls ++ L4) ++ L1) := q10.behind L1
        have v3 : Vs d4 ((Ls ++ L4) ++ L1) d4 (Ls ++ (L1 ++ L4)) := Vs.perm (by rw [List.append_assoc]; exact (List.perm_append_comm).append_left Ls)
        exact ((v1.trans v0).trans v2).trans v3
      · refine gop_front (hq j o op r1 q1 q2) (fun v h5 => ?_) q11
        have hoff : Off b'.dsts ρ (put ρ op.dst v) := Off.of_put (fun t ht => q9 t ht) v
        refine ⟨Ra, Rb, d4, L1, L4, Vs.refl _ _, ?_, sb, gws_up (part1_stay sa) a' hpa (fun t ht hm => hs2' t hm ht) (fun t ht hm => (hs1' t ht).2 hm) Ls ρ _ d1 d4 L1 hoff q10.1 h1, h5, ?_⟩
        · exact fun ρ ρ' d d' L ho hl hr => sa ρ ρ' d d' L (fun t ht => ho t fun hm => ht (q8 t hm)) hl hr
        · intro ρ2 d6 M1 M2 hl ho r1 r2
          refine h3 ρ2 d6 M1 M2 (q10.1.trans hl) (fun t ht => ?_) r1 r2
          rw [List.mem_append, not_or] at ht
          exact (ho t (by rw [List.mem_append, not_or]; exact ⟨ht.1, fun hm => ht.2 (q8 t hm)⟩)).trans (hoff t ht.2)
    | none =>
    rw [hfb] at hf
    simp only at hf
    split at hf
    · rename_i h0
      simp only [Bool.and_eq_true] at h0
      obtain ⟨e1, N1, v1, M1, rfl, r1⟩ := fin_gws a h0.1 ha h1
      obtain ⟨e2, N2, v2, M2, rfl, r2⟩ := fin_gws b h0.2 hb h2
      have v3 := Vs.two v1 v2
      have h4 := h3 ρ (Gk.join e2 e1) M1 M2 v3.1 (fun _ _ => rfl) (sa _ _ _ _ _ (fun _ _ => rfl) (Le.join_right _ _) r1) (sb _ _ _ _ _ (fun _ _ => rfl) (Le.join_left _ _) r2)
      have el := two_end hdis (fin_end a hca h0.1) (fin_end b hcb h0.2)
      have hcs := chkT_up s (marked_done (fun x hx => by simpa using hin x hx) hsb hcov el) hcs
      rw [← el] at hcs
      obtain ⟨r1, r2, r3, hix, o, op, gs, s'', q1, q2, q3, q4, q5, q6, q7, q8, q9, d4, L4, q10, q11⟩ := ihs l lx lx s' ρ _ _ i (fun _ h => h) hcov hf hcs hs' hp.2 h4
      exact ⟨r1, r2, r3, hix, o, op, gs, s'', q1, q2, q3, q4, by simp only [SI.steps]; omega, q6, fun t ht => by simp [GS.rds, q7 t ht], fun t ht => by simp [GS.dsts, q8 t ht], fun t ht => by simp [GS.dsts, q9 t ht], d4, L4, ((hv.front Ls).trans v3).trans q10, q11⟩
    · cases hf
theorem steps0 {ops : Array Oper} {q : Nat → Bool} {bs : List Bool} : ∀ (s : SI) {la : List Nat} {tgt l lm : Array Bool}, chkT ops q bs la tgt true l lm s = true → s.steps = 0 → s.fin = true := by
  intro s
  induction s with
  | done => intro la tgt l lm _ _; rfl
  | op tk i s ih => intro la tgt l lm _ h; simp only [SI.steps] at h; omega
  | alt i s t ih1 ih2 => intro la tgt l lm _ h; simp only [SI.steps] at h; omega
  | bar s ih => intro la tgt l lm h; cases h
  | par xa xb a b s iha ihb ihs =>
    intro la tgt l lm hc h
    simp only [chkT, Bool.and_eq_true] at hc
    simp only [SI.steps] at h
    simp only [SI.fin, Bool.and_eq_true]
    exact ⟨⟨iha hc.1.1.2 (by omega), ihb hc.1.2 (by omega)⟩, ihs hc.2 (by omega)⟩
theorem par_sound {P : Program} {n : Nat} {ds : List Deferred} {ops : Array Oper} {Q : GPost} {F : List PHeap} {W0 : World} {d0 : PHeap} {q : Nat → Bool} {bs : List Bool} {la lb : List Nat} {tgt l0 l1 : Array Bool} {Ra Rb : Env → Post} {Ls : List PHeap} {ρ0 : Env} {dd : PHeap} {DA DB : List Nat} {m : Nat}
    (hsel : Region.noSelect ops = true) (hlast : lastOk ops bs = true) (hq : ∀ i o op, q i = true → ops[i]? = some o → decOp P n ops o = some op → op.i.quiet = true) (hap : apartOk ops bs la lb = true) (ht1 : tgt = marked l0 la) (ht2 : tgt = marked l1 lb) (sa : Stay DB Ra) (sb : Stay DA Rb)
    (Hs : ∀ (k : Nat) ρ' d' M1 M2 W', m ≤ k → Ra ρ' d' M1 → Rb ρ' d' M2 → Off (DA ++ DB) ρ0 ρ' → Le dd d' → Ok (d' :: ((M1 ++ M2) ++ (Ls ++ F))) W' → Le d0 d' → Keep W0 W' → AnyB P ops (lift n ds F W0 d0 Q) (St false d' Ls F) bs k tgt (act n ρ' ds) W') :
    ∀ (N : Nat) (a b : SI) (ga gb : GS) (l : Array Bool) (ρ : Env) (d : PHeap) (L1 L2 : List PHeap) (k : Nat) (W : World), a.steps + b.steps ≤ N → chkT ops q bs la tgt true (marked l lb) l a = true → chkT ops q bs lb tgt true (marked l la) l b = true →
      toGS P n ops a = some ga → toGS P n ops b = some gb → ga.plain = true → gb.plain = true → (∀ t ∈ ga.dsts, t ∈ DA) → (∀ t ∈ gb.dsts, t ∈ DB) → (∀ t ∈ ga.rds, t ∉ DB) → (∀ t ∈ gb.rds, t ∉ DA) → (∀ t ∈ DA, t ∉ DB) →
      gws P noPan (part1 Ls Ra) ga Ls ρ d L1 → gws P noPan (part1 Ls Rb) gb Ls ρ d L2 → Ok (d :: ((L1 ++ L2) ++ (Ls ++ F))) W → Le d0 d → Le dd d → Keep W0 W → Off (DA ++ DB) ρ0 ρ → a.steps + b.steps + m ≤ k →
      AnyB P ops (lift n ds F W0 d0 Q) (St false d Ls F) bs k l (act n ρ ds) W := by
  obtain ⟨hb1, hb2, hdis, hw1, hw2⟩ := apartOk_spec hap
  have okS : ∀ {d : PHeap} {L Ls F : List PHeap} {W : World} {b : Bool}, Ok (d :: (L ++ (Ls ++ F))) W → St false d Ls F b W := by
    intro d L Ls F W b x
    have x1 : Ok (d :: (Ls ++ F)) W := x.sub (List.Sublist.cons_cons d (List.sublist_append_right L _))
    exact ⟨x1.sub (List.Sublist.cons_cons d (List.sublist_append_right Ls F)), fun hb => ⟨rfl, x1⟩⟩
  have fin : ∀ (a b : SI) (ga gb : GS) (l : Array Bool) (ρ : Env) (d : PHeap) (L1 L2 : List PHeap) (k : Nat) (W : World), a.fin = true → b.fin = true → chkT ops q bs la tgt true (marked l lb) l a = true → chkT ops q bs lb tgt true (marked l la) l b = true →
      toGS P n ops a = some ga → toGS P n ops b = some gb → gws P noPan (part1 Ls Ra) ga Ls ρ d L1 → gws P noPan (part1 Ls Rb) gb Ls ρ d L2 → Ok (d :: ((L1 ++ L2) ++ (Ls ++ F))) W → Le d0 d → Le dd d → Keep W0 W → Off (DA ++ DB) ρ0 ρ → m ≤ k →
      AnyB P ops (lift n ds F W0 d0 Q) (St false d Ls F) bs k l (act n ρ ds) W := by
    intro a b ga gb l ρ d L1 L2 k W ha hb hca hcb hga hgb h1 h2 hOk hle hld hk ho hm
    obtain ⟨d1, N1, hv1, M1, rfl, hr1⟩ := fin_gws a ha hga h1
    obtain ⟨d2, N2, hv2, M2, rfl, hr2⟩ := fin_gws b hb hgb h2
    rw [two_end hdis (fin_end a hca ha) (fin_end b hcb hb)]
    have x1 : Ok (d :: ((Ls ++ (L1 ++ L2)) ++ F)) W := hOk.perm (List.Perm.cons d (by
      rw [List.append_assoc Ls]
      exact swap3 (L1 ++ L2) Ls F))
    have v3 := Vs.two hv1 hv2
    have x5 : Ok (join d2 d1 :: ((M1 ++ M2) ++ (Ls ++ F))) W := (v3.2 F W x1).perm (List.Perm.cons _ (by
      rw [List.append_assoc Ls]
      exact swap3 Ls (M1 ++ M2) F))
    exact AnyB.mono (fun b w hw => hw.le v3.1) _ _ _ _ (Hs k ρ _ M1 M2 W hm (sa _ _ _ _ _ (fun _ _ => rfl) (Le.join_right d2 d1) hr1) (sb _ _ _ _ _ (fun _ _ => rfl) (Le.join_left d2 d1) hr2) ho (hld.trans v3.1) x5 (hle.trans v3.1) hk)
  have cov : ∀ (xs ys : List Nat) (l : Array Bool), (∀ x ∈ xs, x ∉ ys) → ∀ x ∈ xs, (marked l ys).getD x true = true → l.getD x true = true := by
    intro xs ys l h2 x hx h3
    cases e : l.getD x true with
    | true => rfl
    | false =>
      rw [getD_true] at e
      have : (marked l ys).getD x true = false := by rw [getD_true, marked_get, if_neg (h2 x hx)]; exact e
      rw [this] at h3; cases h3
  have hdis' : ∀ i ∈ lb, i ∉ la := fun i hi hm => hdis i hm hi
  have look : ∀ {d : PHeap} {w : World} {b : Bool}, b = false → St false d Ls F b w → ∀ a v, HC d Ls a v → w.cell? a = some v := by
    intro d w b hb hw a v hc
    subst hb
    exact hc.cell hw.1.head (fun q hq => (hw.2 rfl).2.2 q (by simp [hq]))
  -- one operation that is taken
  have taken : ∀ {i : Nat} {o : Oper} {op : GOp} {ρ : Env} {d : PHeap} {M : List PHeap} {l : Array Bool} {W : World} {k : Nat} {K : Env → Post} , q i = true → bs.getD i false = false → ops[i]? = some o → decOp P n ops o = some op → Region.free .any ops l i = true → i ∈ Region.ready .any ops l → St false d Ls F false W →
      gop P noPan op ρ d Ls M K → (∀ v, K (put ρ op.dst v) d M → AnyB P ops (lift n ds F W0 d0 Q) (St false d Ls F) bs k (l.setIfInBounds i true) (act n (put ρ op.dst v) ds) W) →
      AnyB P ops (lift n ds F W0 d0 Q) (St false d Ls F) bs (k + 1) l (act n ρ ds) W := by
    intro i o op ρ d M l W k K hqi hbi ho hd hf hr hS hop hK
    have hquiet := hq i o op hqi ho hd
    obtain ⟨hopn, hdst, _, hdi, hgd, hgu⟩ := decOp_spec hd
    have goOn : ∀ v, YieldsIf P ops (St false d Ls F (bs.getD i false)) o v (act n ρ ds) → K (put ρ op.dst v) d M → AnyB P ops (lift n ds F W0 d0 Q) (St false d Ls F) bs (k + 1) l (act n ρ ds) W := by
      intro v hy hw
      refine AnyB.first ho (Region.noSelect_spec hsel) (fun c a w hh => ?_) hlast (fun w hw => ⟨hw.1, fun e => by cases e⟩) k l _ W (Region.free_spec ho hf) hr hy (by rw [hbi]; exact hS) ?_
      · obtain ⟨h1, h2⟩ := hh
        refine ⟨?_, h2⟩
        cases hdd : o.dst with
        | none => rw [hdd] at h1; exact h1
        | some t => rw [hdd] at h1; exact h1
      · rw [act_put hdst, ← hgd]
        exact hK v hw
    rcases hgu with ⟨hgn, hg'⟩ | ⟨j, want, t, hgn, ht2, htn, hg'⟩
    · simp only [gop, hg'] at hop
      rw [gi_quiet hquiet] at hop
      obtain ⟨v, hv, hK'⟩ := hop
      refine goOn v (.inl ⟨by simp [Region.wanted, hgn], fun w hw => ?_⟩) hK'
      exact evq_sound hdi hquiet hv (fun x hx => act_eval (hopn x hx)) (look hbi hw)
    · simp only [gop, hg'] at hop
      rcases hop with ⟨b, hb, h1, h2⟩ | ⟨hb, h2⟩
      case inr => exact goOn undef (.inr ⟨wanted_undef hgn ht2 htn hb, rfl⟩) h2
      by_cases e : b = want
      · have h1 := h1 e
        rw [gi_quiet hquiet] at h1
        obtain ⟨v, hv, hK'⟩ := h1
        refine goOn v (.inl ⟨by rw [wanted_act hgn ht2 htn hb]; simp [e], fun w hw => ?_⟩) hK'
        exact evq_sound hdi hquiet hv (fun x hx => act_eval (hopn x hx)) (look hbi hw)
      · exact goOn undef (.inr ⟨by rw [wanted_act hgn ht2 htn hb]; simpa using e, rfl⟩) (h2 (by cases b <;> cases want <;> simp_all))
  intro N
  induction N with
  | zero =>
    intro a b ga gb l ρ d L1 L2 k W hN hca hcb hga hgb hpa hpb hda hdb hra hrb hdd h1 h2 hOk hle hld hk ho hkk
    have ha : a.fin = true := steps0 a hca (by omega)
    have hb : b.fin = true := steps0 b hcb (by omega)
    exact fin a b ga gb l ρ d L1 L2 k W ha hb hca hcb hga hgb h1 h2 hOk hle hld hk ho (by omega)
  | succ N ih =>
    intro a b ga gb l ρ d L1 L2 k W hN hca hcb hga hgb hpa hpb hda hdb hra hrb hdd h1 h2 hOk hle hld hk ho hkk
    by_cases hab : a.fin = true ∧ b.fin = true
    · exact fin a b ga gb l ρ d L1 L2 k W hab.1 hab.2 hca hcb hga hgb h1 h2 hOk hle hld hk ho (by omega)
    have okA0 : Ok (d :: ((Ls ++ L1) ++ (L2 ++ F))) W := hOk.perm (List.Perm.cons d (by
      rw [List.append_assoc, List.append_assoc]
      exact ((swap3 L2 Ls F).append_left L1).trans (swap3 L1 Ls _)))
    cases hfa : a.front with
    | some i =>
      obtain ⟨r1, r2, r3, hil, o, op, gs, s', ho', hdec, hgs, hck, hst, hpl, hrd, hds, hdst, d1, L1', hv, hop⟩ := thread_take hq a (marked l lb) l l ga ρ d L1 i (fun _ h => h) (cov la lb l hdis) hfa hca hga hpa h1
      obtain ⟨k, rfl⟩ : ∃ k', k = k' + 1 := ⟨k - 1, by omega⟩
      have x1 := hv.2 (L2 ++ F) W okA0
      have x2 : Ok (d1 :: ((L1' ++ L2) ++ (Ls ++ F))) W := x1.perm (List.Perm.cons d1 (by
        rw [List.append_assoc, List.append_assoc]
        exact (swap3 Ls L1' _).trans ((swap3 Ls L2 F).append_left L1')))
      refine AnyB.mono (fun b w hw => hw.le hv.1) _ _ _ _ (taken (d := d1) r1 (hb1 i hil) ho' hdec r2 (ready_down hdis hw1 hil r3) (okS x2) hop fun v h4 => ?_)
      have hoff : Off DA ρ (put ρ op.dst v) := Off.of_put (fun t ht => hda t (hdst t ht)) v
      exact ih s' b gs gb (l.setIfInBounds i true) _ d1 L1' L2 k W (by omega) (by rw [marked_set]; exact hck) (by rw [marked_in hil]; exact chkT_up b (Sb.self l i) hcb) hgs hgb hpl hpb (fun t ht => hda t (hds t ht)) hdb
          (fun t ht => hra t (hrd t ht)) hrb hdd h4 (gws_up (part1_stay sb) gb hpb hrb (fun t ht hm => hdd t hm (hdb t ht)) Ls ρ _ d d1 L2 hoff hv.1 h2) x2 (hle.trans hv.1) (hld.trans hv.1) hk (ho.trans fun t ht => hoff t fun hm => ht (by simp [hm])) (by omega)
    | none =>
    cases hfb : b.front with
    | some i =>
      obtain ⟨r1, r2, r3, hil, o, op, gs, s', ho', hdec, hgs, hck, hst, hpl, hrd, hds, hdst, d1, L2', hv, hop⟩ := thread_take hq b (marked l la) l l gb ρ d L2 i (fun _ h => h) (cov lb la l hdis') hfb hcb hgb hpb h2
      obtain ⟨k, rfl⟩ : ∃ k', k = k' + 1 := ⟨k - 1, by omega⟩
      have okB0 : Ok (d :: ((Ls ++ L2) ++ (L1 ++ F))) W := okA0.perm (List.Perm.cons d (by
        rw [List.append_assoc, List.append_assoc]
        exact (swap3 L1 L2 F).append_left Ls))
      have x1 := hv.2 (L1 ++ F) W okB0
      have x2 : Ok (d1 :: ((L1 ++ L2') ++ (Ls ++ F))) W := x1.perm (List.Perm.cons d1 (by
        rw [List.append_assoc, List.append_assoc]
        exact ((swap3 L2' L1 F).append_left Ls).trans ((swap3 Ls L1 _).trans ((swap3 Ls L2' F).append_left L1))))
      refine AnyB.mono (fun b w hw => hw.le hv.1) _ _ _ _ (taken (d := d1) r1 (hb2 i hil) ho' hdec r2 (ready_down hdis' hw2 hil r3) (okS x2) hop fun v h4 => ?_)
      have hoff : Off DB ρ (put ρ op.dst v) := Off.of_put (fun t ht => hdb t (hdst t ht)) v
      exact ih a s' ga gs (l.setIfInBounds i true) _ d1 L1 L2' k W (by omega) (by rw [marked_in hil]; exact chkT_up a (Sb.self l i) hca) (by rw [marked_set]; exact hck) hga hgs hpa hpl hda (fun t ht => hdb t (hds t ht))
          hra (fun t ht => hrb t (hrd t ht)) hdd (gws_up (part1_stay sa) ga hpa hra (fun t ht hm => hdd t (hda t ht) hm) Ls ρ _ d d1 L1 hoff hv.1 h1) h4 x2 (hle.trans hv.1) (hld.trans hv.1) hk (ho.trans fun t ht => hoff t fun hm => ht (by simp [hm])) (by omega)
    | none =>
    have hsteps : 1 ≤ a.steps + b.steps := by
      cases ea : a.fin with
      | false => have := (heads_ready a hca hfa ea).2.2; omega
      | true => cases eb : b.fin with
        | false => have := (heads_ready b hcb hfb eb).2.2; omega
        | true => exact absurd ⟨ea, eb⟩ hab
    obtain ⟨k, rfl⟩ : ∃ k', k = k' + 1 := ⟨k - 1, by omega⟩
    have okA : Ok (d :: ((Ls ++ L1) ++ (L2 ++ F))) W := hOk.perm (List.Perm.cons d (by
      rw [List.append_assoc, List.append_assoc]
      exact ((swap3 L2 Ls F).append_left L1).trans (swap3 L1 Ls _)))
    have okB : Ok (d :: ((Ls ++ L2) ++ (L1 ++ F))) W := okA.perm (List.Perm.cons d (by
      rw [List.append_assoc, List.append_assoc]
      exact (swap3 L1 L2 F).append_left Ls))
    have outA : ∀ {e : PHeap} {X M Y : List PHeap} {W' : World}, Ok (e :: ((Ls ++ (X ++ M)) ++ (Y ++ F))) W' → Ok (e :: (X ++ (M ++ (Y ++ (Ls ++ F))))) W' := by
      intro e X M Y W' x
      refine x.perm (List.Perm.cons e ?_)
      rw [List.append_assoc, List.append_assoc]
      exact (swap3 Ls X _).trans (((swap3 Ls M _).trans ((swap3 Ls Y F).append_left M)).append_left X)
    have stepA : ∀ i ∈ a.heads, wpOp P ops (lift n ds F W0 d0 Q) i (fun a' w' => St false d Ls F (bs.getD i false) w' ∧ AnyB P ops (lift n ds F W0 d0 Q) (St false d Ls F) bs k (l.setIfInBounds i true) a' w') (act n ρ ds) W := by
      intro i hi
      have hil := heads_in a hca i hi
      obtain ⟨o, op, gs, s', ho', hdec, hgs, hck, hst, hpl, hrd, hds, hdst, d1, La, M, hv, hop⟩ := thread a true (marked l lb) l l ga ρ d L1 (fun _ h => h) (cov la lb l hdis) hfa hca hga hpa h1 i hi
      have hOk1 := outA (hv.2 (L2 ++ F) W okA)
      refine gop_sound (F := M ++ (L2 ++ (Ls ++ F))) ho' hdec hOk1 (fun q hq => hOk1.2 q (by simp at hq; rcases hq with hq | hq <;> simp [hq])) (gop_put hop) ?_ ?_
      · intro ρ' d' L' W' g1 g2 g3 ⟨⟨v, hρ⟩, _, d2, L2', hv2, h4⟩
        have h5 := hv2.2 (L2 ++ (Ls ++ F)) W' (by rw [List.append_assoc]; exact g1)
        have hle2 : Le d d2 := hv.1.trans (g2.trans hv2.1)
        have hoff : Off DA ρ ρ' := by rw [hρ]; exact Off.of_put (fun t ht => hda t (hdst t ht)) v
        have g1' : Ok (d' :: ((L' ++ (M ++ L2)) ++ (Ls ++ F))) W' := by simpa [List.append_assoc] using g1
        have h5' : Ok (d2 :: ((L2' ++ L2) ++ (Ls ++ F))) W' := by rw [List.append_assoc]; exact h5
        refine ⟨(okS g1').le (hv.1.trans g2), AnyB.mono (fun b w hw => hw.le hle2) _ _ _ _ (ih s' b gs gb (l.setIfInBounds i true) ρ' d2 L2' L2 k W' (by omega) (by rw [marked_set]; exact hck) (by rw [marked_in hil]; exact chkT_up b (Sb.self l i) hcb) hgs hgb hpl hpb (fun t ht => hda t (hds t ht)) hdb
          (fun t ht => hra t (hrd t ht)) hrb hdd h4 (gws_up (part1_stay sb) gb hpb hrb (fun t ht hm => hdd t hm (hdb t ht)) Ls ρ ρ' d d2 L2 hoff hle2 h2) h5' (hle.trans hle2) (hld.trans hle2) (hk.trans g3) (ho.trans fun t ht => hoff t fun hm => ht (by simp [hm])) (by omega))⟩
      · intro c d' L' W' _ _ _ h; exact h.elim
    have stepB : ∀ i ∈ b.heads, wpOp P ops (lift n ds F W0 d0 Q) i (fun a' w' => St false d Ls F (bs.getD i false) w' ∧ AnyB P ops (lift n ds F W0 d0 Q) (St false d Ls F) bs k (l.setIfInBounds i true) a' w') (act n ρ ds) W := by
      intro i hi
      have hil := heads_in b hcb i hi
      obtain ⟨o, op, gs, s', ho', hdec, hgs, hck, hst, hpl, hrd, hds, hdst, d1, La, M, hv, hop⟩ := thread b true (marked l la) l l gb ρ d L2 (fun _ h => h) (cov lb la l hdis') hfb hcb hgb hpb h2 i hi
      have hOk1 := outA (hv.2 (L1 ++ F) W okB)
      refine gop_sound (F := M ++ (L1 ++ (Ls ++ F))) ho' hdec hOk1 (fun q hq => hOk1.2 q (by simp at hq; rcases hq with hq | hq <;> simp [hq])) (gop_put hop) ?_ ?_
      · intro ρ' d' L' W' g1 g2 g3 ⟨⟨v, hρ⟩, _, d2, L2', hv2, h4⟩
        have h5 := hv2.2 (L1 ++ (Ls ++ F)) W' (by rw [List.append_assoc]; exact g1)
        have hle2 : Le d d2 := hv.1.trans (g2.trans hv2.1)
        have hoff : Off DB ρ ρ' := by rw [hρ]; exact Off.of_put (fun t ht => hdb t (hdst t ht)) v
        have g1' : Ok (d' :: ((L' ++ (M ++ L1)) ++ (Ls ++ F))) W' := by simpa [List.append_assoc] using g1
        have h5' : Ok (d2 :: ((L1 ++ L2') ++ (Ls ++ F))) W' := by rw [List.append_assoc]; exact h5.perm (List.Perm.cons d2 (swap3 L2' L1 _))
        refine ⟨(okS g1').le (hv.1.trans g2), AnyB.mono (fun b w hw => hw.le hle2) _ _ _ _ (ih a s' ga gs (l.setIfInBounds i true) ρ' d2 L1 L2' k W' (by omega) (by rw [marked_in hil]; exact chkT_up a (Sb.self l i) hca) (by rw [marked_set]; exact hck) hga hgs hpa hpl hda (fun t ht => hdb t (hds t ht))
          hra (fun t ht => hrb t (hrd t ht)) hdd (gws_up (part1_stay sa) ga hpa hra (fun t ht hm => hdd t (hda t ht) hm) Ls ρ ρ' d d2 L1 hoff hle2 h1) h4 h5' (hle.trans hle2) (hld.trans hle2) (hk.trans g3) (ho.trans fun t ht => hoff t fun hm => ht (by simp [hm])) (by omega))⟩
      · intro c d' L' W' _ _ _ h; exact h.elim
    have hr := two_ready (l := l) hap ht1 ht2 (heads_in a hca) (heads_in b hcb) (fun e => (heads_ready a hca hfa e).1) (fun e => (heads_ready b hcb hfb e).1) (fin_end a hca) (fin_end b hcb) (fin_heads a) (fin_heads b) hab
    refine ⟨fun h0 => ?_, fun i hi => ?_⟩
    · exfalso
      have none : ∀ i, ¬ (i ∈ a.heads ∨ i ∈ b.heads) := fun i h => by have := (hr i).2 h; rw [h0] at this; cases this
      cases ea : a.fin with
      | false => exact (heads_ready a hca hfa ea).2.1 (List.eq_nil_iff_forall_not_mem.2 fun i h => none i (.inl h))
      | true => cases eb : b.fin with
        | false => exact (heads_ready b hcb hfb eb).2.1 (List.eq_nil_iff_forall_not_mem.2 fun i h => none i (.inr h))
        | true => exact hab ⟨ea, eb⟩
    · rcases (hr i).1 hi with h | h
      · exact stepA i h
      · exact stepB i h

theorem any_sound {P : Program} {n : Nat} {ds : List Deferred} {ops : Array Oper} {Q : GPost} {F : List PHeap} {W0 : World} {d0 : PHeap} {bs : List Bool} (hsel : Region.noSelect ops = true) (hlast : lastOk ops bs = true) :
    ∀ (si : SI) (top past : Bool) (listed : Array Bool) (s : GS) (ρ : Env) (d : PHeap) (L Ls : List PHeap) (k : Nat) (W : World), chk ops (quietAt P ops) bs top past listed si = true → toGS P n ops si = some s → (past = true → Ls = []) →
      gws P Q.pan Q.n s Ls ρ d L → Ok (d :: (L ++ (Ls ++ F))) W → Le d0 d → Keep W0 W → si.steps ≤ k →
      (top = true → AnyB P ops (lift n ds F W0 d0 Q) (St past d Ls F) bs k listed (act n ρ ds) W) ∧
      (top = false → ∀ i ∈ si.heads, wpOp P ops (lift n ds F W0 d0 Q) i (fun a' w' => St past d Ls F (bs.getD i false) w' ∧ AnyB P ops (lift n ds F W0 d0 Q) (St past d Ls F) bs (k - 1) (listed.setIfInBounds i true) a' w') (act n ρ ds) W) := by
  have okS : ∀ {past : Bool} {d : PHeap} {L Ls F : List PHeap} {W : World} {b : Bool}, Ok (d :: (L ++ (Ls ++ F))) W → past = b → St past d Ls F b W := by
    intro past d L Ls F W b x e
    have x1 : Ok (d :: (Ls ++ F)) W := x.sub (List.Sublist.cons_cons d (List.sublist_append_right L _))
    exact ⟨x1.sub (List.Sublist.cons_cons d (List.sublist_append_right Ls F)), fun hb => ⟨e.trans hb, x1⟩⟩
  have front : ∀ {d : PHeap} {L Ls F : List PHeap} {W : World}, Ok (d :: (L ++ (Ls ++ F))) W → Ok (d :: ((Ls ++ L) ++ F)) W := by
    intro d L Ls F W x
    exact x.perm (List.Perm.cons d (by rw [← List.append_assoc]; exact (List.perm_append_comm).append_right F))
  intro si
  induction si with
  | done =>
    intro top past listed s ρ d L Ls k W hc hs hp h hOk hle hk hst
    simp only [chk, Bool.and_eq_true, beq_iff_eq] at hc
    simp [toGS] at hs; subst hs
    obtain ⟨d1, L1, hv, hq⟩ := h
    exact ⟨fun _ => AnyB.done hc.2 ⟨ρ, d1, L1, rfl, hv.2 F W (front hOk), hle.trans hv.1, hk, hq⟩ k, fun ht => by rw [ht] at hc; simp at hc⟩
  | op tk i si ih =>
    intro top past listed s ρ d L Ls k W hc hs hp h hOk hle hk hst
    simp only [toGS] at hs
    split at hs <;> try cases hs
    rename_i g s' hg hs'
    rw [Option.bind_eq_some_iff] at hg
    obtain ⟨o, ho, hd⟩ := hg
    obtain ⟨hop, hdst, _, hdi, hgd, hgu⟩ := decOp_spec hd
    simp only [SI.steps] at hst
    obtain ⟨k, rfl⟩ : ∃ k', k = k' + 1 := ⟨k - 1, by omega⟩
    cases tk with
    | true =>
      simp only [chk, Bool.and_eq_true, beq_iff_eq] at hc
      obtain ⟨⟨⟨⟨⟨ht, hqi⟩, hpb⟩, hf⟩, hr⟩, hc'⟩ := hc
      have hquiet : g.i.quiet = true := by
        simp only [quietAt, ho, Option.bind_some, hdi, Option.any_some] at hqi
        exact hqi
      refine ⟨fun _ => ?_, fun ht' => by rw [ht'] at ht; cases ht⟩
      have goOn : ∀ v, YieldsIf P ops (St past d Ls F (bs.getD i false)) o v (act n ρ ds) → gws P Q.pan Q.n s' Ls (put ρ g.dst v) d L →
          AnyB P ops (lift n ds F W0 d0 Q) (St past d Ls F) bs (k + 1) listed (act n ρ ds) W := by
        intro v hy hw
        refine AnyB.first ho (Region.noSelect_spec hsel) (fun c a w hh => ?_) hlast (fun w hw => ⟨hw.1, fun e => by cases e⟩) k listed _ W (Region.free_spec ho hf) (by simpa using hr) hy (okS hOk hpb) ?_
        · obtain ⟨h1, h2⟩ := hh
          refine ⟨?_, h2⟩
          cases hdd : o.dst with
          | none => rw [hdd] at h1; exact h1
          | some t => rw [hdd] at h1; exact h1
        · rw [act_put hdst, ← hgd]
          exact ((ih true past _ s' _ d L Ls k W hc' hs' hp hw hOk hle hk (by omega)).1 rfl)
      have look : ∀ w, St past d Ls F (bs.getD i false) w → ∀ a v, HC d Ls a v → w.cell? a = some v := by
        intro w hw a v hc
        refine hc.cell hw.1.head (fun q hq => ?_)
        cases hbi : bs.getD i false with
        | true => rw [hbi] at hpb; rw [hp hpb] at hq; cases hq
        | false => exact (hw.2 hbi).2.2 q (by simp [hq])
      rcases hgu with ⟨hgn, hg'⟩ | ⟨j, want, t, hgn, ht2, htn, hg'⟩
      · simp only [gws, gop, hg'] at h
        rw [gi_quiet hquiet] at h
        obtain ⟨v, hv, hK⟩ := h
        refine goOn v (.inl ⟨by simp [Region.wanted, hgn], fun w hw => ?_⟩) hK
        exact evq_sound hdi hquiet hv (fun x hx => act_eval (hop x hx)) (look w hw)
      · simp only [gws, gop, hg'] at h
        rcases h with ⟨b, hb, h1, h2⟩ | ⟨hb, h2⟩
        case inr => exact goOn undef (.inr ⟨wanted_undef hgn ht2 htn hb, rfl⟩) h2
        by_cases e : b = want
        · have h1 := h1 e
          rw [gi_quiet hquiet] at h1
          obtain ⟨v, hv, hK⟩ := h1
          refine goOn v (.inl ⟨by rw [wanted_act hgn ht2 htn hb]; simp [e], fun w hw => ?_⟩) hK
          exact evq_sound hdi hquiet hv (fun x hx => act_eval (hop x hx)) (look w hw)
        · refine goOn undef (.inr ⟨by rw [wanted_act hgn ht2 htn hb]; simpa using e, rfl⟩) (h2 (by cases b <;> cases want <;> simp_all))
    | false =>
      simp only [chk, Bool.and_eq_true, beq_iff_eq] at hc
      obtain ⟨⟨hr, hpb⟩, hc'⟩ := hc
      obtain ⟨d1, L1, hv, h⟩ := h
      have hOk1 := hv.2 (Ls ++ F) W hOk
      have step : wpOp P ops (lift n ds F W0 d0 Q) i (fun a' w' => St past d Ls F (bs.getD i false) w' ∧ AnyB P ops (lift n ds F W0 d0 Q) (St past d Ls F) bs k (listed.setIfInBounds i true) a' w') (act n ρ ds) W := by
        refine gop_sound ho hd hOk1 (fun q hq => hOk1.2 q (by simp at hq; rcases hq with hq | hq <;> simp [hq])) h ?_ ?_
        · intro ρ' d' L' W' h1 h2 h3 ⟨d2, L2, hv2, h4⟩
          have hdd := hv.1.trans h2
          refine ⟨(okS h1 hpb).le hdd, ?_⟩
          exact AnyB.mono (fun b w hw => hw.le (hdd.trans hv2.1)) _ _ _ _ ((ih true past _ s' ρ' d2 L2 Ls k W' hc' hs' hp h4 (hv2.2 _ W' h1) (hle.trans (hdd.trans hv2.1)) (hk.trans h3) (by omega)).1 rfl)
        · intro c d' L' W' h1 h2 h3 h4
          exact ⟨rfl, d', Ls ++ L', front h1, hle.trans (hv.1.trans h2), hk.trans h3, h4⟩
      refine ⟨fun ht => ?_, fun _ j hj => ?_⟩
      · rw [ht] at hr
        simp only [Bool.not_true, Bool.false_or, beq_iff_eq] at hr
        refine ⟨fun h0 => by rw [h0] at hr; simp at hr, fun j hj => ?_⟩
        rw [hr] at hj
        simp at hj; subst hj
        exact step
      · simp only [SI.heads, List.mem_singleton] at hj
        subst hj
        exact step
  | alt i si ti ih1 ih2 =>
    intro top past listed s ρ d L Ls k W hc hs hp h hOk hle hk hst
    simp only [toGS] at hs
    split at hs <;> try cases hs
    rename_i g s' t' hg hs' ht'
    rw [Option.bind_eq_some_iff] at hg
    obtain ⟨o, ho, hd⟩ := hg
    simp only [SI.steps] at hst
    obtain ⟨k, rfl⟩ : ∃ k', k = k' + 1 := ⟨k - 1, by omega⟩
    simp only [chk, Bool.and_eq_true, beq_iff_eq] at hc
    obtain ⟨⟨⟨hr, hpb⟩, hc1⟩, hc2⟩ := hc
    obtain ⟨⟨d1, L1, hv, h⟩, hrest⟩ := h
    have hOk1 := hv.2 (Ls ++ F) W hOk
    have step : wpOp P ops (lift n ds F W0 d0 Q) i (fun a' w' => St past d Ls F (bs.getD i false) w' ∧ AnyB P ops (lift n ds F W0 d0 Q) (St past d Ls F) bs k (listed.setIfInBounds i true) a' w') (act n ρ ds) W := by
      refine gop_sound ho hd hOk1 (fun q hq => hOk1.2 q (by simp at hq; rcases hq with hq | hq <;> simp [hq])) h ?_ ?_
      · intro ρ' d' L' W' h1 h2 h3 ⟨d2, L2, hv2, h4⟩
        have hdd := hv.1.trans h2
        refine ⟨(okS h1 hpb).le hdd, ?_⟩
        exact AnyB.mono (fun b w hw => hw.le (hdd.trans hv2.1)) _ _ _ _ ((ih1 true past _ s' ρ' d2 L2 Ls k W' hc1 hs' hp h4 (hv2.2 _ W' h1) (hle.trans (hdd.trans hv2.1)) (hk.trans h3) (by omega)).1 rfl)
      · intro c d' L' W' h1 h2 h3 h4
        exact ⟨rfl, d', Ls ++ L', front h1, hle.trans (hv.1.trans h2), hk.trans h3, h4⟩
    have others := (ih2 false past listed t' ρ d L Ls (k + 1) W hc2 ht' hp hrest hOk hle hk (by omega)).2 rfl
    have all : ∀ j ∈ i :: ti.heads, wpOp P ops (lift n ds F W0 d0 Q) j (fun a' w' => St past d Ls F (bs.getD j false) w' ∧ AnyB P ops (lift n ds F W0 d0 Q) (St past d Ls F) bs k (listed.setIfInBounds j true) a' w') (act n ρ ds) W := by
      intro j hj
      rcases List.mem_cons.1 hj with rfl | hj
      · exact step
      · exact others j hj
    refine ⟨fun ht => ?_, fun _ j hj => all j hj⟩
    rw [ht] at hr
    simp only [Bool.not_true, Bool.false_or, beq_iff_eq] at hr
    refine ⟨fun h0 => by rw [h0] at hr; simp at hr, fun j hj => ?_⟩
    rw [hr] at hj
    exact all j hj
  | bar si ih =>
    intro top past listed s ρ d L Ls k W hc hs hp h hOk hle hk hst
    simp only [chk, Bool.and_eq_true, Bool.not_eq_true'] at hc
    obtain ⟨⟨ht, hpf⟩, hc'⟩ := hc
    simp only [toGS, Option.map_eq_some_iff] at hs
    obtain ⟨s', hs', rfl⟩ := hs
    simp only [gws] at h
    refine ⟨fun _ => ?_, fun ht' => by rw [ht'] at ht; cases ht⟩
    have := (ih true true listed s' ρ d (Ls ++ L) [] k W hc' hs' (fun _ => rfl) h (by simpa using front hOk) hle hk hst).1 rfl
    exact AnyB.mono (fun b w hw => ⟨hw.1, fun e => by have := (hw.2 e).1; cases this⟩) _ _ _ _ this

  | par la lb a b si iha ihb ih =>
    intro top past listed s ρ d L Ls k W hc hs hp h hOk hle hk hst
    simp only [chk, Bool.and_eq_true, Bool.not_eq_true', beq_iff_eq] at hc
    obtain ⟨⟨⟨⟨⟨⟨ht, hpf⟩, hap⟩, hmm⟩, hca⟩, hcb⟩, hc'⟩ := hc
    subst hpf
    rw [← hmm] at hcb
    simp only [toGS] at hs
    split at hs <;> try cases hs
    rename_i a' b' s' ha hb hs'
    split at hs <;> try cases hs
    rename_i hsep
    simp only [Bool.and_eq_true, List.all_eq_true, Bool.not_eq_true'] at hsep
    obtain ⟨⟨⟨hpa, hpb⟩, hs1⟩, hs2⟩ := hsep
    refine ⟨fun _ => ?_, fun ht' => by rw [ht'] at ht; cases ht⟩
    obtain ⟨Ra, Rb, d1, L1, L2, hv, sa, sb, h1, h2, hrest⟩ := h
    simp only [SI.steps] at hst
    have := par_sound (m := si.steps) (q := quietAt P ops) (Q := Q) (F := F) (W0 := W0) (d0 := d0) (ds := ds) (P := P) (n := n) (ρ0 := ρ) (dd := d1) (l0 := marked listed lb) (l1 := marked listed la) hsel hlast (fun i o op h1 h2 h3 => by
        obtain ⟨_, _, _, hdi, _, _⟩ := decOp_spec h3
        simp only [quietAt, h2, Option.bind_some, hdi, Option.any_some] at h1
        exact h1) hap rfl hmm sa sb
      (fun k ρ' d' M1 M2 W' hkm hr1 hr2 ho hl hok hle' hk' => (ih true false _ s' ρ' d' (M1 ++ M2) Ls k W' hc' hs' hp (hrest ρ' d' M1 M2 hl ho hr1 hr2) hok hle' hk' hkm).1 rfl)
      (a.steps + b.steps) a b a' b' listed ρ d1 L1 L2 k W (Nat.le_refl _) hca hcb ha hb hpa hpb (fun _ h => h) (fun _ h => h)
      (fun t ht hm => by have := hs2 t hm; simp [ht] at this) (fun t ht hm => by have := (hs1 t hm).1; simp [ht] at this) (fun t ht hm => by have := (hs1 t ht).2; simp [hm] at this) h1 h2 (hv.2 _ W hOk) (hle.trans hv.1) (Le.refl d1) hk (fun _ _ => rfl) hst
    exact AnyB.mono (fun b w hw => hw.le hv.1) _ _ _ _ this

theorem region_drawn {pr : Bool} {P : Program} {n : Nat} {ds : List Deferred} {ops : Array Oper} {Q : GPost} {F : List PHeap} {W0 : World} {d0 : PHeap} {id : Nat} (hm : P.follows .mixedOrders = true)
    {s : GS} (hs : decR pr P n ops true = some s) {ρ : Env} {d : PHeap} {L Ls : List PHeap} {W : World} (h : gws P Q.pan Q.n s Ls ρ d L) (hOk : Ok (d :: (L ++ (Ls ++ F))) W) (hle : Le d0 d) (hk : Keep W0 W) :
    (Code.region id ops true).wp P (lift n ds F W0 d0 Q) (act n ρ ds) W := by
  simp only [decR] at hs
  split at hs
  · rename_i hc
    simp only [Bool.and_eq_true, decide_eq_true_eq] at hc
    obtain ⟨⟨⟨h1, h2⟩, h3⟩, h4⟩ := hc
    refine wp_region_any hm (AnyB.any _ _ _ _ ((any_sound h1 h2 _ true false _ s ρ d L Ls ops.size _ h4 hs (fun e => by cases e) h hOk.drew hle ?_ h3).1 rfl))
    exact hk.trans ⟨rfl, rfl, rfl, Nat.le_refl _⟩
  · cases hs

theorem gwp_sound {pr : Bool} {P : Program} {n : Nat} {ds : List Deferred} {F : List PHeap} {W0 : World} {d0 : PHeap} (hm : P.follows .mixedOrders = true) :
    ∀ (c : Code) (Q : GPost) (ρ : Env) (d : PHeap) (L : List PHeap) (W : World), gwp P (decC pr P n c) Q ρ d L → Ok (d :: (L ++ F)) W → Le d0 d → Keep W0 W → c.wp P (lift n ds F W0 d0 Q) (act n ρ ds) W := by
  intro c
  induction c with
  | skip =>
    intro Q ρ d L W h hOk hle hk
    exact wp_skip ⟨ρ, d, L, rfl, hOk, hle, hk, h⟩
  | region id ops drawn =>
    intro Q ρ d L W h hOk hle hk
    simp only [decC] at h
    cases hs : decR pr P n ops drawn with
    | none => rw [hs] at h; exact h.elim
    | some s =>
    rw [hs] at h
    cases drawn with
    | false =>
      simp only [decR] at hs
      exact wp_region (straight_sound _ s hs ρ d L W h hOk hle hk)
    | true =>
      obtain ⟨d1, Ls, L1, hv, h⟩ := h
      have hOk1 := hv.2 F W hOk
      refine region_drawn hm hs h (hOk1.perm (List.Perm.cons d1 ?_)) (hle.trans hv.1) hk
      rw [← List.append_assoc]
      exact (List.perm_append_comm).append_right F
  | seq a b iha ihb =>
    intro Q ρ d L W h hOk hle hk
    refine wp_seq (wp_mono (iha _ ρ d L W h hOk hle hk) ?_)
    intro e a w hq
    cases e with
    | normal =>
      obtain ⟨ρ', d', L', rfl, h1, h2, h3, h4⟩ := hq
      exact ihb Q ρ' d' L' w h4 h1 h2 h3
    | _ => exact hq
  | cond c a b iha ihb =>
    intro Q ρ d L W h hOk hle hk
    simp only [decC] at h
    split at h
    · rename_i hc
      obtain ⟨t, ht, h1, h2⟩ := h
      exact wp_cond_split (by rw [act_eval hc]; exact ht) (fun e => iha Q ρ d L W (h1 e) hOk hle hk) (fun e => ihb Q ρ d L W (h2 e) hOk hle hk)
    · exact h.elim
  | block id a iha =>
    intro Q ρ d L W h hOk hle hk
    refine wp_block (wp_mono (iha _ ρ d L W h hOk hle hk) ?_)
    intro e a w hq
    cases e with
    | exit i =>
      obtain ⟨ρ', d', L', rfl, h1, h2, h3, h4⟩ := hq
      simp only [Exit.inBlock]
      by_cases e : i = id
      · simp only [e, if_true] at h4 ⊢
        exact ⟨ρ', d', L', rfl, h1, h2, h3, h4⟩
      · simp only [if_neg e] at h4 ⊢
        exact ⟨ρ', d', L', rfl, h1, h2, h3, h4⟩
    | _ => exact hq
  | loop a iha =>
    intro Q ρ d L W h hOk hle hk
    obtain ⟨I, ⟨m, hI⟩, round⟩ := h
    refine wp_loop_ghost (fun m a w => ∃ ρ d L, a = act n ρ ds ∧ Ok (d :: (L ++ F)) w ∧ Le d0 d ∧ Keep W0 w ∧ I m ρ d L) m ⟨ρ, d, L, rfl, hOk, hle, hk, hI⟩ ?_
    rintro m a w ⟨ρ', d', L', rfl, h1, h2, h3, h4⟩
    refine wp_mono (iha _ ρ' d' L' w (round m ρ' d' L' h4) h1 h2 h3) ?_
    intro e a w hq
    cases e with
    | normal =>
      obtain ⟨ρ'', d'', L'', rfl, k1, k2, k3, m', k4, k5⟩ := hq
      exact ⟨m', k4, ρ'', d'', L'', rfl, k1, k2, k3, k5⟩
    | _ => exact hq
  | exit id =>
    intro Q ρ d L W h hOk hle hk
    exact wp_exit ⟨ρ, d, L, rfl, hOk, hle, hk, h⟩
  | ret =>
    intro Q ρ d L W h hOk hle hk
    exact wp_ret ⟨ρ, d, L, rfl, hOk, hle, hk, h⟩
  | _ => intro Q ρ d L W h; exact h.elim

def resOne (ρ : Env) (C : Addr → Value → Prop) : GRes → Value → Prop
  | .tmp t, v => v = ρ t
  | .cell t n, v => evq ρ C (.ld n (.tmp t)) v

def resAll (ρ : Env) (C : Addr → Value → Prop) : List GRes → List Value → Prop
  | [], [] => True
  | r :: rs, v :: vs => resOne ρ C r v ∧ resAll ρ C rs vs
  | _, _ => False

def resV : List Value → Value
  | [v] => v
  | vs => .tuple vs.toArray

def retPost (res : List GRes) (R : Ending → PHeap → List PHeap → Prop) (ρ : Env) (d : PHeap) (L : List PHeap) : Prop :=
  ∃ vs, resAll ρ (HC d L) res vs ∧ ∃ d' L', Vs d L d' L' ∧ R (.returned (resV vs)) d' L'

def mkPost (res : List GRes) (R : Ending → PHeap → List PHeap → Prop) : GPost :=
  { n := retPost res R, ex := fun _ _ _ _ => False, ret := retPost res R, pan := fun c d L => ∃ d' L', Vs d L d' L' ∧ R (.panicked c) d' L' }

def env0 (args : List Value) : Env := fun i => args.getD i undef

def res1 (tmps : Array Value) : ResultVar → Sem Value
  | .tmp t => pure (tmps.getD t undef)
  | .cell a t => do loadVar t (← asAddr (tmps.getD a undef))
theorem results_eq (fn : Func) (tmps : Array Value) : results fn tmps = (do let vs ← fn.results.mapM (res1 tmps); pure (if h : vs.size = 1 then vs[0] else .tuple vs)) := rfl

theorem results_run {P : Program} {n : Nat} {ρ : Env} {ds : List Deferred} {d : PHeap} {L : List PHeap} {W : World} (hl : ∀ a v, HC d L a v → W.cell? a = some v) :
    ∀ (rs : List ResultVar) (gs : List GRes) (vs : List Value), rs.mapM (decRes P n) = some gs → resAll ρ (HC d L) gs vs →
      (rs.mapM (res1 (act n ρ ds).tmps)).run P W = .ok vs W
  | [], gs, vs, hg, h => by
    simp at hg; subst hg
    cases vs with
    | nil => simp
    | cons => simp [resAll] at h
  | r :: rs, gs, vs, hg, h => by
    simp only [List.mapM_cons, Option.bind_eq_bind, Option.bind_eq_some_iff, Option.pure_def, Option.some.injEq] at hg
    obtain ⟨g, hr, gs', hgs, rfl⟩ := hg
    cases vs with
    | nil => simp [resAll] at h
    | cons v vs =>
      obtain ⟨h1, h2⟩ := h
      have ih := results_run (ds := ds) hl rs gs' vs hgs h2
      have get : ∀ t, t < n → (act n ρ ds).tmps.getD t undef = ρ t := by
        intro t ht; simp [act, ht, Array.getD]
      simp only [List.mapM_cons, Sem.run_bind]
      have one : (res1 (act n ρ ds).tmps r).run P W = .ok v W := by
        cases r with
        | tmp t =>
          simp only [decRes] at hr
          split at hr <;> try cases hr
          rename_i ht
          simp only [resOne] at h1; subst h1
          simp only [res1, get t ht, Sem.run_pure]
        | cell t ty =>
          simp only [decRes] at hr
          split at hr <;> try cases hr
          rename_i ht
          simp only [Option.map_eq_some_iff] at hr
          obtain ⟨m, hm, rfl⟩ := hr
          simp only [resOne] at h1
          have ldv : ∀ a, (loadVar ty a).run P W = (Instr.loadAt ty (.pointer (some a))).run P W := by intro a; simp [Instr.loadAt, Instr.sureAddr]
          cases m with
          | none =>
            obtain ⟨b, o, e1, e2⟩ := h1
            have e1 : ρ t = .pointer (some ⟨b, o, none⟩) := e1
            simp only [res1, Sem.run_bind, get t ht, e1, asAddr, Sem.run_pure, Result.andThen, ldv, run_ld1 hm _ _ W (hl _ _ e2)]
          | some m =>
            obtain ⟨b, o, cs, e1, e2, e3, rfl⟩ := h1
            have e1 : ρ t = .pointer (some ⟨b, o, none⟩) := e1
            simp only [res1, Sem.run_bind, get t ht, e1, asAddr, Sem.run_pure, Result.andThen, ldv, run_ldn hm b o cs e2 W (fun i u hu => hl _ _ (e3 i u hu))]
      rw [one]
      simp only [Result.andThen, ih, Sem.run_pure]

theorem GCall_of {pr : Bool} {P : Program} {f : FuncId} {g : GFun} (hd : decG pr P f = some g) {args : List Value} (ha : args.length ≤ g.n) {d : PHeap} {L : List PHeap} {R : Ending → PHeap → List PHeap → Prop}
    (h : gwp P g.code (mkPost g.res R) (env0 args) d L) : GCall P f args d L R := by
  simp only [decG] at hd
  split at hd <;> try cases hd
  rename_i fn hf
  split at hd <;> try cases hd
  rename_i hn
  split at hd <;> try cases hd
  rename_i c hb
  rw [Option.map_eq_some_iff] at hd
  obtain ⟨rs, hr, rfl⟩ := hd
  simp only [Bool.or_eq_true, not_or, Bool.not_eq_true, Bool.not_eq_false'] at hn
  refine ⟨⟨fn, hf, by rw [hb]; rfl, hn.1⟩, fun F W hOk => ?_⟩
  refine calls_of_wp hf hb ?_
  have hinit : ({ tmps := args.toArray ++ Array.replicate (fn.ntmps - args.toArray.size) undef, defers := [] } : Act) = act fn.ntmps (env0 args) [] := by
    simp only [act, Act.mk.injEq, and_true]
    apply Array.ext
    · simp at ha ⊢; omega
    · intro i h1 h2
      simp only [Array.getElem_ofFn, env0]
      by_cases hi : i < args.length
      · rw [Array.getElem_append_left (by simpa using hi)]; simp [hi]
      · rw [Array.getElem_append_right (by simpa using hi)]; simp [List.getD, List.getElem?_eq_none (Nat.le_of_not_lt hi)]
  rw [hinit]
  have hs := gwp_sound (ds := []) (F := F) (W0 := W) (d0 := d) (by simpa using hn.2) c _ _ d L W h hOk (Le.refl d) (Keep.refl W)
  refine wp_mono hs ?_
  have fin : ∀ a w, (∃ ρ d' L', a = act fn.ntmps ρ [] ∧ Ok (d' :: (L' ++ F)) w ∧ Le d d' ∧ Keep W w ∧ retPost rs R ρ d' L') →
      a.defers = [] ∧ ∃ v, (results fn a.tmps).run P w = .ok v w ∧ (∃ d' L', Ok (d' :: (L' ++ F)) w ∧ Le d d' ∧ Keep W w ∧ R (.returned v) d' L') := by
    rintro a w ⟨ρ, d', L', rfl, h1, h2, h3, vs, h4, d'', L'', h5, h6⟩
    refine ⟨rfl, resV vs, ?_, d'', L'', h5.2 F w h1, h2.trans h5.1, h3, h6⟩
    have hl : ∀ a v, HC d' L' a v → w.cell? a = some v := fun a v hc => hc.cell h1.head (fun q hq => h1.2 q (by simp [hq]))
    have := results_run (P := P) (n := fn.ntmps) (ρ := ρ) (ds := []) hl fn.results.toList rs vs hr h4
    rw [results_eq, Array.mapM_eq_mapM_toList]
    simp only [Sem.run_bind, Sem.run_map, this, Result.andThen, Sem.run_pure]
    cases vs with
    | nil => rfl
    | cons v vs => cases vs with
      | nil => rfl
      | cons v' vs => rfl
  intro e a w hq
  cases e with
  | normal => exact fin a w hq
  | ret => exact fin a w hq
  | panic c =>
    obtain ⟨h1, d', L', h2, h3, h4, d'', L'', h5, h6⟩ := hq
    exact ⟨h1, d'', L'', h5.2 F w h2, h3.trans h5.1, h4, h6⟩
  | exit i => obtain ⟨_, _, _, _, _, _, _, hh⟩ := hq; exact hh.elim
  | goto l => exact hq.elim
  | outgrown => exact hq.elim

end Go.Gk
end

section
namespace Go.Gk
open Go

def lk (tk : Bool) (Ls L : List PHeap) : List PHeap := match tk with | true => Ls | false => Ls ++ L

def DC (d : PHeap) (b o : Nat) (v : Value) : Prop := ∃ c T fr, d b (.cells c T fr) ∧ c[o]? = some v
def DCs (d : PHeap) (b o : Nat) (vs : List Value) : Prop := ∃ c T fr, d b (.cells c T fr) ∧ ∀ i u, vs[i]? = some u → c[o + i]? = some u

theorem DCs.at {d : PHeap} {b o : Nat} {vs : List Value} (h : DCs d b o vs) {i : Nat} {u : Value} (hi : vs[i]? = some u) : DC d b (o + i) u :=
  let ⟨c, T, fr, h1, h2⟩ := h
  ⟨c, T, fr, h1, h2 i u hi⟩
theorem DC.mono {d d' : PHeap} {b o : Nat} {v : Value} (h : DC d b o v) (hl : Le d d') : DC d' b o v :=
  let ⟨c, T, fr, h1, h2⟩ := h
  ⟨c, T, fr, hl _ _ h1, h2⟩
theorem DCs.mono {d d' : PHeap} {b o : Nat} {vs : List Value} (h : DCs d b o vs) (hl : Le d d') : DCs d' b o vs :=
  let ⟨c, T, fr, h1, h2⟩ := h
  ⟨c, T, fr, hl _ _ h1, h2⟩
theorem DC.cells {d : PHeap} {b o : Nat} {v : Value} (h : DC d b o v) : DCs d b o [v] :=
  let ⟨c, T, fr, h1, h2⟩ := h
  ⟨c, T, fr, h1, fun i u hi => by
    cases i with
    | zero => simp at hi; subst hi; exact h2
    | succ i => simp at hi⟩
theorem DCs.one {d : PHeap} {b o : Nat} {v : Value} (h : DCs d b o [v]) : DC d b o v := h.at (i := 0) rfl

theorem hc_d {d : PHeap} {Lk : List PHeap} {b o : Nat} {v : Value} (h : DC d b o v) : HC d Lk ⟨b, o, none⟩ v :=
  let ⟨c, T, fr, h1, h2⟩ := h
  ⟨rfl, d, .inl rfl, c, T, fr, h1, h2⟩
theorem hc_i {d : PHeap} {Lk : List PHeap} {b o : Nat} {v : Value} {T : TypeId} {l : List Value} (i : Nat) (h : Lk[i]? = some (bx b T l)) (ho : l[o]? = some v) : HC d Lk ⟨b, o, none⟩ v :=
  ⟨rfl, bx b T l, .inr (List.mem_of_getElem? h), l.toArray, T, (0, 0), sg_self _ _, by simpa using ho⟩

section
variable {P : Program} {pan : List PanicEntry → Post} {Qn : Env → Post} {Ls L : List PHeap} {ρ : Env} {d : PHeap} {tk : Bool} {s : GS} {t : Nat}

theorem w_vs {g : GOp} (d1 : PHeap) (L1 : List PHeap) (hv : Vs d L d1 L1) : gws P pan Qn (.op false g s) Ls ρ d1 L1 → gws P pan Qn (.op false g s) Ls ρ d L
  | ⟨d2, L2, h1, h2⟩ => ⟨d2, L2, hv.trans h1, h2⟩
theorem w_frz {g : GOp} {h : PHeap} (k : ∀ d', Le d d' → Le h d' → gws P pan Qn (.op false g s) Ls ρ d' L) : gws P pan Qn (.op false g s) Ls ρ d (h :: L) :=
  w_vs (join d h) L Vs.freeze (k _ (Le.join_left d h) (Le.join_right d h))
theorem w_q {q : GI} {v : Value} (hq : q.quiet = true) (hv : evq ρ (HC d (lk tk Ls L)) q v) (h : gws P pan Qn s Ls (upd ρ t v) d L) :
    gws P pan Qn (.op tk ⟨some t, none, q⟩ s) Ls ρ d L := by
  cases tk with
  | true => simp only [gws, gop]; rw [gi_quiet hq]; exact ⟨v, hv, h⟩
  | false => exact ⟨d, L, Vs.refl d L, by simp only [gop]; rw [gi_quiet hq]; exact ⟨v, hv, d, L, Vs.refl d L, h⟩⟩

theorem w_mv {x : Operand} (h : gws P pan Qn s Ls (upd ρ t (ev ρ x)) d L) : gws P pan Qn (.op tk ⟨some t, none, .mv x⟩ s) Ls ρ d L := w_q rfl rfl h
theorem w_mvi {x : Operand} {k : IntKind} {a : Int} (e : ev ρ x = .int k a) (h : gws P pan Qn s Ls (upd ρ t (.int k a)) d L) : gws P pan Qn (.op tk ⟨some t, none, .mv x⟩ s) Ls ρ d L := w_q rfl e.symm h
theorem w_mvb {x : Operand} {a : Bool} (e : ev ρ x = .bool a) (h : gws P pan Qn s Ls (upd ρ t (.bool a)) d L) : gws P pan Qn (.op tk ⟨some t, none, .mv x⟩ s) Ls ρ d L := w_q rfl e.symm h
theorem w_mvs {x : Operand} {a : Option Addr} {n c : Nat} (e : ev ρ x = .slice a n c) (h : gws P pan Qn s Ls (upd ρ t (.slice a n c)) d L) : gws P pan Qn (.op tk ⟨some t, none, .mv x⟩ s) Ls ρ d L := w_q rfl e.symm h
theorem w_mvp {x : Operand} {a : Option Addr} (e : ev ρ x = .pointer a) (h : gws P pan Qn s Ls (upd ρ t (.pointer a)) d L) : gws P pan Qn (.op tk ⟨some t, none, .mv x⟩ s) Ls ρ d L := w_q rfl e.symm h
theorem w_mvu {x : Operand} {l : Array Value} (e : ev ρ x = .tuple l) (h : gws P pan Qn s Ls (upd ρ t (.tuple l)) d L) : gws P pan Qn (.op tk ⟨some t, none, .mv x⟩ s) Ls ρ d L := w_q rfl e.symm h
theorem w_pickT {c a b : Operand} {v : Value} (e : ev ρ c = .bool true) (ea : ev ρ a = v) (h : gws P pan Qn s Ls (upd ρ t v) d L) : gws P pan Qn (.op tk ⟨some t, none, .pick c a b⟩ s) Ls ρ d L :=
  w_q rfl ⟨true, e, by simp [ea]⟩ h
theorem w_pickF {c a b : Operand} {v : Value} (e : ev ρ c = .bool false) (eb : ev ρ b = v) (h : gws P pan Qn s Ls (upd ρ t v) d L) : gws P pan Qn (.op tk ⟨some t, none, .pick c a b⟩ s) Ls ρ d L :=
  w_q rfl ⟨false, e, by simp [eb]⟩ h
theorem w_pickTb {c a b : Operand} {v : Bool} (e : ev ρ c = .bool true) (ea : ev ρ a = .bool v) (h : gws P pan Qn s Ls (upd ρ t (.bool v)) d L) : gws P pan Qn (.op tk ⟨some t, none, .pick c a b⟩ s) Ls ρ d L := w_pickT e ea h
theorem w_pickFb {c a b : Operand} {v : Bool} (e : ev ρ c = .bool false) (eb : ev ρ b = .bool v) (h : gws P pan Qn s Ls (upd ρ t (.bool v)) d L) : gws P pan Qn (.op tk ⟨some t, none, .pick c a b⟩ s) Ls ρ d L := w_pickF e eb h
theorem w_fld {x : Operand} {off b o : Nat} (e : ev ρ x = .pointer (some ⟨b, o, none⟩)) (h : gws P pan Qn s Ls (upd ρ t (.pointer (some ⟨b, o + off, none⟩))) d L) :
    gws P pan Qn (.op tk ⟨some t, none, .fld off x⟩ s) Ls ρ d L := w_q rfl ⟨b, o, e, rfl⟩ h
theorem w_ld {x : Operand} {b o : Nat} {v : Value} (e : ev ρ x = .pointer (some ⟨b, o, none⟩)) (hc : HC d (lk tk Ls L) ⟨b, o, none⟩ v) (h : gws P pan Qn s Ls (upd ρ t v) d L) :
    gws P pan Qn (.op tk ⟨some t, none, .ld none x⟩ s) Ls ρ d L := w_q rfl ⟨b, o, e, hc⟩ h
theorem w_bin {op : BinOp} {x y : Operand} {v : Value} (e : binV op (ev ρ x) (ev ρ y) = some v) (h : gws P pan Qn s Ls (upd ρ t v) d L) :
    gws P pan Qn (.op tk ⟨some t, none, .bin op x y⟩ s) Ls ρ d L := w_q rfl e h
theorem wrap64_eq {a : Int} (h1 : -9223372036854775808 ≤ a) (h2 : a ≤ 9223372036854775807) : IntKind.i64.wrap a = a := by
  simp [IntKind.wrap, IntKind.signed, IntKind.bits]; omega
theorem w_add {x y : Operand} {a b : Int} (ex : ev ρ x = .int .i64 a) (ey : ev ρ y = .int .i64 b) (h1 : -9223372036854775808 ≤ a + b) (h2 : a + b ≤ 9223372036854775807)
    (h : gws P pan Qn s Ls (upd ρ t (.int .i64 (a + b))) d L) : gws P pan Qn (.op tk ⟨some t, none, .bin .add x y⟩ s) Ls ρ d L :=
  w_bin (by rw [ex, ey]; simp [binV, wrap64_eq h1 h2]) h
theorem w_lss {x y : Operand} {k : IntKind} {a b : Int} (ex : ev ρ x = .int k a) (ey : ev ρ y = .int k b) (h : gws P pan Qn s Ls (upd ρ t (.bool (decide (a < b)))) d L) :
    gws P pan Qn (.op tk ⟨some t, none, .bin .lss x y⟩ s) Ls ρ d L := w_bin (by rw [ex, ey]; simp [binV]) h
theorem w_eql {x y : Operand} {k : IntKind} {a b : Int} (ex : ev ρ x = .int k a) (ey : ev ρ y = .int k b) (h : gws P pan Qn s Ls (upd ρ t (.bool (decide (a = b)))) d L) :
    gws P pan Qn (.op tk ⟨some t, none, .bin .eql x y⟩ s) Ls ρ d L := w_bin (by rw [ex, ey]; simp [binV]; rfl) h
theorem w_neq {x y : Operand} {k : IntKind} {a b : Int} (ex : ev ρ x = .int k a) (ey : ev ρ y = .int k b) (h : gws P pan Qn s Ls (upd ρ t (.bool (decide (a ≠ b)))) d L) :
    gws P pan Qn (.op tk ⟨some t, none, .bin .neq x y⟩ s) Ls ρ d L := w_bin (by rw [ex, ey]; simp [binV]; by_cases e : a = b <;> simp [e]) h
theorem w_len {x : Operand} {a : Option Addr} {n c : Nat} (ex : ev ρ x = .slice a n c) (h : gws P pan Qn s Ls (upd ρ t (.int .i64 n)) d L) : gws P pan Qn (.op tk ⟨some t, none, .len x⟩ s) Ls ρ d L :=
  w_q rfl ⟨a, n, c, ex, rfl⟩ h
theorem w_ext {x : Operand} {i : Nat} {vs : Array Value} {v : Value} (ex : ev ρ x = .tuple vs) (e : vs[i]? = some v) (h : gws P pan Qn s Ls (upd ρ t v) d L) :
    gws P pan Qn (.op tk ⟨some t, none, .ext x i⟩ s) Ls ρ d L := w_q rfl ⟨vs, ex, e⟩ h
def SAd (a : Option Addr) (n b o : Nat) : Prop := n ≠ 0 → a = some ⟨b, o, none⟩
theorem SAd.some (n b o : Nat) : SAd (some ⟨b, o, none⟩) n b o := fun _ => rfl
theorem w_idx {x i : Operand} {sz b o n c : Nat} {a : Option Addr} {k : IntKind} {j : Int} (m : Nat) (ex : ev ρ x = .slice a n c) (ei : ev ρ i = .int k j) (hm : j = (m : Int)) (hl : m < n) (hA : SAd a n b o)
    (h : gws P pan Qn s Ls (upd ρ t (.pointer (some ⟨b, o + m * sz, none⟩))) d L) : gws P pan Qn (.op tk ⟨some t, none, .idx sz x i⟩ s) Ls ρ d L := by
  subst hm
  rw [hA (by omega)] at ex
  exact w_q rfl ⟨b, o, n, c, k, m, ex, ei, by omega, by omega, rfl⟩ h
theorem w_bld {pl : List (Nat × Nat)} {z : List Value} {ps : List (Nat × Operand)} {cs : List Value} (e : Instr.fill (pl[·]?) z.toArray (ps.map fun p => (p.1, ev ρ p.2)) = some cs.toArray)
    (h : gws P pan Qn s Ls (upd ρ t (.agg cs.toArray)) d L) : gws P pan Qn (.op tk ⟨some t, none, .bld pl z ps⟩ s) Ls ρ d L := w_q rfl ⟨cs.toArray, e, rfl⟩ h
theorem w_nilc {x : Operand} {a : Addr} (ex : ev ρ x = .pointer (some a)) (h : gws P pan Qn s Ls (upd ρ t (.pointer (some a))) d L) : gws P pan Qn (.op tk ⟨some t, none, .nilc x⟩ s) Ls ρ d L :=
  w_q rfl ⟨⟨a, ex⟩, ex.symm⟩ h
theorem w_eqpN {neg : Bool} {x y : Operand} (ex : ev ρ x = .pointer none) (ey : ev ρ y = .pointer none) (h : gws P pan Qn s Ls (upd ρ t (.bool (!neg))) d L) :
    gws P pan Qn (.op tk ⟨some t, none, .eqp neg x y⟩ s) Ls ρ d L := w_q rfl ⟨none, none, ex, ey, .inl rfl, by cases neg <;> rfl⟩ h
theorem w_eqpS {neg : Bool} {x y : Operand} {a : Addr} (ex : ev ρ x = .pointer (some a)) (ey : ev ρ y = .pointer none) (h : gws P pan Qn s Ls (upd ρ t (.bool neg)) d L) :
    gws P pan Qn (.op tk ⟨some t, none, .eqp neg x y⟩ s) Ls ρ d L := w_q rfl ⟨some a, none, ex, ey, .inr (.inl rfl), by cases neg <;> rfl⟩ h
theorem w_gT {g : Nat} {want : Bool} {i : GI} {dst : Option Nat} (e : ρ g = .bool want) (h : gws P pan Qn (.op tk ⟨dst, none, i⟩ s) Ls ρ d L) : gws P pan Qn (.op tk ⟨dst, some (g, want), i⟩ s) Ls ρ d L := by
  cases tk with
  | true => simp only [gws, gop] at h ⊢; exact .inl ⟨want, e, fun _ => h, fun e => by cases want <;> cases e⟩
  | false => obtain ⟨d1, L1, h1, h2⟩ := h; exact ⟨d1, L1, h1, by simp only [gop] at h2 ⊢; exact .inl ⟨want, e, fun _ => h2, fun e => by cases want <;> cases e⟩⟩
theorem w_gFp {g : Nat} {want : Bool} {i : GI} {dst : Option Nat} (e : ρ g = .bool (!want)) (h : gws P pan Qn s Ls (put ρ dst undef) d L) : gws P pan Qn (.op tk ⟨dst, some (g, want), i⟩ s) Ls ρ d L := by
  cases tk with
  | true => simp only [gws, gop] at h ⊢; exact .inl ⟨!want, e, (fun e => by cases want <;> cases e), fun _ => h⟩
  | false => exact ⟨d, L, Vs.refl d L, by simp only [gop]; exact .inl ⟨!want, e, (fun e => by cases want <;> cases e), fun _ => ⟨d, L, Vs.refl d L, h⟩⟩⟩
theorem w_gF {g t : Nat} {want : Bool} {i : GI} (e : ρ g = .bool (!want)) (h : gws P pan Qn s Ls (upd ρ t undef) d L) : gws P pan Qn (.op tk ⟨some t, some (g, want), i⟩ s) Ls ρ d L := w_gFp e h
theorem upd_same {g : Nat} {v : Value} (e : ρ g = v) : upd ρ g v = ρ := by
  funext i
  simp only [upd]
  cases h : Nat.beq i g with
  | false => rfl
  | true => have := Nat.eq_of_beq_eq_true h; subst this; exact e.symm
theorem gws_env {g : Nat} {v : Value} (e : ρ g = v) (h : gws P pan Qn s Ls (upd ρ g v) d L) : gws P pan Qn s Ls ρ d L := by rwa [upd_same e] at h
theorem w_gdT {g : Nat} {want : Bool} {i : GI} {dst : Option Nat} {p : Prop} [Decidable p] (e : ρ g = .bool (decide p)) (hp : p) (h : gws P pan Qn (.op tk ⟨dst, some (g, want), i⟩ s) Ls (upd ρ g (.bool true)) d L) :
    gws P pan Qn (.op tk ⟨dst, some (g, want), i⟩ s) Ls ρ d L := gws_env (by rw [e]; simp [hp]) h
theorem w_gdF {g : Nat} {want : Bool} {i : GI} {dst : Option Nat} {p : Prop} [Decidable p] (e : ρ g = .bool (decide p)) (hp : ¬ p) (h : gws P pan Qn (.op tk ⟨dst, some (g, want), i⟩ s) Ls (upd ρ g (.bool false)) d L) :
    gws P pan Qn (.op tk ⟨dst, some (g, want), i⟩ s) Ls ρ d L := gws_env (by rw [e]; simp [hp]) h
theorem w_done0 (h : Qn ρ d L) : gws P pan Qn .done [] ρ d L := ⟨d, L, Vs.refl _ _, h⟩
theorem w_box {x : Operand} {v : Value} (ex : ev ρ x = v) (h : ∀ b T, gws P pan Qn s Ls (upd ρ t (.pointer (some ⟨b, 0, none⟩))) d (bx b T v.cells.toList :: L)) :
    gws P pan Qn (.op false ⟨some t, none, .box x⟩ s) Ls ρ d L := ⟨d, L, Vs.refl d L, fun b T => ⟨_, _, Vs.refl _ _, by subst ex; exact h b T⟩⟩
theorem w_boxa {x : Operand} {l : List Value} (ex : ev ρ x = .agg l.toArray) (h : ∀ b T, gws P pan Qn s Ls (upd ρ t (.pointer (some ⟨b, 0, none⟩))) d (bx b T l :: L)) :
    gws P pan Qn (.op false ⟨some t, none, .box x⟩ s) Ls ρ d L := w_box ex h
theorem w_bsl {n sz : Nat} {z : List Value} {ps : List (Nat × Operand)} {cs : List Value} (hn : n * sz ≤ 16777216) (e : Instr.fill (fun i => some (i * sz, sz)) (zrow z (n * sz)).toArray (ps.map fun p => (p.1, ev ρ p.2)) = some cs.toArray)
    (h : ∀ b T, gws P pan Qn s Ls (upd ρ t (.slice (some ⟨b, 0, none⟩) n n)) d (bx b T cs :: L)) : gws P pan Qn (.op false ⟨some t, none, .bsl n sz z ps⟩ s) Ls ρ d L :=
  ⟨d, L, Vs.refl d L, hn, cs.toArray, e, fun b T => ⟨_, _, Vs.refl _ _, h b T⟩⟩
theorem w_call0 {f : FuncId} {args : List Operand} {R : Value → PHeap → List PHeap → Prop} {vs : List Value} (ea : args.map (ev ρ) = vs) (hc : GCall P f vs d [] (Ret R))
    (h : ∀ v d' L', Le d d' → R v d' L' → gws P pan Qn s Ls (upd ρ t v) d' (L' ++ L)) : gws P pan Qn (.op false ⟨some t, none, .call f args⟩ s) Ls ρ d L :=
  ⟨d, L, Vs.refl d L, [], L, Ret R, rfl, by rw [ea]; exact hc, fun e d' L' hl hr => by
    cases e with
    | returned v => exact ⟨_, _, Vs.refl _ _, h v d' L' hl hr⟩
    | panicked c => exact hr.elim
    | outgrown => exact hr⟩
end

theorem gop_mono {P : Program} {pan : List PanicEntry → Post} {g : GOp} {ρ : Env} {d : PHeap} {Lk L : List PHeap} {K K' : Env → Post} (hk : ∀ ρ d L, K ρ d L → K' ρ d L) (h : gop P pan g ρ d Lk L K) : gop P pan g ρ d Lk L K' := gop_mono' hk h

theorem gws_mono {P : Program} {pan : List PanicEntry → Post} {Qn Qn' : Env → Post} (hq : ∀ ρ d L, Qn ρ d L → Qn' ρ d L) : ∀ (s : GS) {Ls : List PHeap} {ρ : Env} {d : PHeap} {L : List PHeap}, gws P pan Qn s Ls ρ d L → gws P pan Qn' s Ls ρ d L
  | .done, _, _, _, _, ⟨d1, L1, h1, h2⟩ => ⟨d1, L1, h1, hq _ _ _ h2⟩
  | .op true _ s, _, _, _, _, h => gop_mono (fun _ _ _ h => gws_mono hq s h) h
  | .op false _ s, _, _, _, _, ⟨d1, L1, h1, h2⟩ => ⟨d1, L1, h1, gop_mono (fun _ _ _ ⟨d3, L3, h3, h⟩ => ⟨d3, L3, h3, gws_mono hq s h⟩) h2⟩
  | .alt _ s t, _, _, _, _, ⟨⟨d1, L1, h1, h2⟩, h3⟩ => ⟨⟨d1, L1, h1, gop_mono (fun _ _ _ ⟨d3, L3, h3, h⟩ => ⟨d3, L3, h3, gws_mono hq s h⟩) h2⟩, gws_mono hq t h3⟩
  | .bar s, _, _, _, _, h => gws_mono hq s h
  | .par _ _ s, _, _, _, _, ⟨Ra, Rb, d1, L1, L2, hv, sa, sb, h1, h2, h3⟩ => ⟨Ra, Rb, d1, L1, L2, hv, sa, sb, h1, h2, fun ρ' d' M1 M2 hl ho r1 r2 => gws_mono hq s (h3 ρ' d' M1 M2 hl ho r1 r2)⟩

theorem gwp_mono' {P : Program} : ∀ (c : GCode) {Q Q' : GPost} {ρ : Env} {d : PHeap} {L : List PHeap}, gwp P c Q ρ d L → (∀ ρ d L, Q.n ρ d L → Q'.n ρ d L) → (∀ i ρ d L, Q.ex i ρ d L → Q'.ex i ρ d L) →
    (∀ ρ d L, Q.ret ρ d L → Q'.ret ρ d L) → Q.pan = Q'.pan → gwp P c Q' ρ d L
  | .skip, _, _, _, _, _, h, h1, _, _, _ => h1 _ _ _ h
  | .reg false s, _, _, _, _, _, h, h1, _, _, h4 => by simp only [gwp] at h ⊢; rw [← h4]; exact gws_mono h1 s h
  | .reg true s, _, _, _, _, _, h, h1, _, _, h4 => by
    simp only [gwp] at h ⊢
    obtain ⟨d1, Ls, L1, hv, h⟩ := h
    exact ⟨d1, Ls, L1, hv, by rw [← h4]; exact gws_mono h1 s h⟩
  | .seq a b, _, _, _, _, _, h, h1, h2, h3, h4 => by
    simp only [gwp] at h ⊢
    exact gwp_mono' a h (fun ρ d L h => gwp_mono' b h h1 h2 h3 h4) h2 h3 h4
  | .cond c a b, _, _, _, _, _, h, h1, h2, h3, h4 => by
    simp only [gwp] at h ⊢
    obtain ⟨t, ht, ha, hb⟩ := h
    exact ⟨t, ht, fun e => gwp_mono' a (ha e) h1 h2 h3 h4, fun e => gwp_mono' b (hb e) h1 h2 h3 h4⟩
  | .block id a, _, _, _, _, _, h, h1, h2, h3, h4 => by
    simp only [gwp] at h ⊢
    refine gwp_mono' a h h1 (fun i ρ d L h => ?_) h3 h4
    simp only at h ⊢
    split
    · rename_i e; rw [if_pos e] at h; exact h1 _ _ _ h
    · rename_i e; rw [if_neg e] at h; exact h2 _ _ _ _ h
  | .loop a, _, _, _, _, _, h, _, h2, h3, h4 => by
    simp only [gwp] at h ⊢
    obtain ⟨I, hI, round⟩ := h
    exact ⟨I, hI, fun m ρ d L hm => gwp_mono' a (round m ρ d L hm) (fun _ _ _ h => h) h2 h3 h4⟩
  | .exit i, _, _, _, _, _, h, _, h2, _, _ => h2 i _ _ _ h
  | .ret, _, _, _, _, _, h, _, _, h3, _ => h3 _ _ _ h
  | .bad, _, _, _, _, _, h, _, _, _, _ => h.elim

theorem gwp_mono {P : Program} {c : GCode} {Q : GPost} {N N' : Env → Post} (hn : ∀ ρ d L, N ρ d L → N' ρ d L) {ρ : Env} {d : PHeap} {L : List PHeap} (h : gwp P c { Q with n := N } ρ d L) : gwp P c { Q with n := N' } ρ d L :=
  gwp_mono' c h hn (fun _ _ _ _ h => h) (fun _ _ _ h => h) rfl

theorem dcs_bx {d : PHeap} {b : Nat} {T : TypeId} {l : List Value} (h : Le (bx b T l) d) : DCs d b 0 l :=
  ⟨l.toArray, T, (0, 0), h _ _ (sg_self _ _), fun i u hu => by simpa using hu⟩
section
variable {P : Program} {Q : GPost} {ρ : Env} {d : PHeap} {L : List PHeap}
theorem w_reg {s : GS} (h : gws P Q.pan Q.n s [] ρ d L) : gwp P (.reg false s) Q ρ d L := h
theorem w_sq {a b : GCode} (h : gwp P a { Q with n := gwp P b Q } ρ d L) : gwp P (.seq a b) Q ρ d L := h
theorem w_skip (h : Q.n ρ d L) : gwp P .skip Q ρ d L := h
theorem w_ret (h : Q.ret ρ d L) : gwp P .ret Q ρ d L := h
theorem w_exit {i : Nat} (h : Q.ex i ρ d L) : gwp P (.exit i) Q ρ d L := h
theorem w_block {i : Nat} {a : GCode} (h : gwp P a { Q with ex := fun j => if j = i then Q.n else Q.ex j } ρ d L) : gwp P (.block i a) Q ρ d L := h
theorem w_ifT {c : Operand} {a b : GCode} (e : ev ρ c = .bool true) (h : gwp P a Q ρ d L) : gwp P (.cond c a b) Q ρ d L := ⟨true, e, fun _ => h, fun e => by cases e⟩
theorem w_ifF {c : Operand} {a b : GCode} (e : ev ρ c = .bool false) (h : gwp P b Q ρ d L) : gwp P (.cond c a b) Q ρ d L := ⟨false, e, (fun e => by cases e), fun _ => h⟩
theorem w_ifdT {c : Operand} {a b : GCode} {p : Prop} [Decidable p] (e : ev ρ c = .bool (decide p)) (hp : p) (h : gwp P a Q ρ d L) : gwp P (.cond c a b) Q ρ d L := w_ifT (by rw [e]; simp [hp]) h
theorem w_ifdF {c : Operand} {a b : GCode} {p : Prop} [Decidable p] (e : ev ρ c = .bool (decide p)) (hp : ¬ p) (h : gwp P b Q ρ d L) : gwp P (.cond c a b) Q ρ d L := w_ifF (by rw [e]; simp [hp]) h
theorem w_loop {a : GCode} (I : Nat → Env → Post) (m : Nat) (h0 : I m ρ d L) (round : ∀ m ρ d L, I m ρ d L → gwp P a { Q with n := fun ρ d L => ∃ m', m' < m ∧ I m' ρ d L } ρ d L) : gwp P (.loop a) Q ρ d L :=
  ⟨I, ⟨m, h0⟩, round⟩

def SlotsAre (ρ : Env) : List (Nat × Value) → Prop
  | [] => True
  | p :: l => ρ p.1 = p.2 ∧ SlotsAre ρ l
def updL (ρ : Env) : List (Nat × Value) → Env
  | [] => ρ
  | p :: l => upd (updL ρ l) p.1 p.2
theorem updL_same {ρ : Env} : ∀ {l : List (Nat × Value)}, SlotsAre ρ l → updL ρ l = ρ
  | [], _ => rfl
  | p :: l, ⟨h1, h2⟩ => by simp only [updL]; rw [updL_same h2]; exact upd_same h1
theorem gwp_slots {c : GCode} (l : List (Nat × Value)) (e : SlotsAre ρ l) (h : gwp P c Q (updL ρ l) d L) : gwp P c Q ρ d L := by rwa [updL_same e] at h
theorem SlotsAre.app {ρ : Env} : ∀ {l m : List (Nat × Value)}, SlotsAre ρ l → SlotsAre ρ m → SlotsAre ρ (l ++ m)
  | [], _, _, h => h
  | _ :: _, _, ⟨h1, h2⟩, h => ⟨h1, h2.app h⟩
theorem SlotsAre.off {X : List Nat} {ρ ρ' : Env} (ho : Off X ρ ρ') : ∀ {l : List (Nat × Value)}, (l.all fun p => !X.contains p.1) = true → SlotsAre ρ l → SlotsAre ρ' l
  | [], _, _ => trivial
  | p :: l, h, ⟨h1, h2⟩ => by
    simp only [List.all_cons, Bool.and_eq_true] at h
    exact ⟨(ho p.1 (fun hm => by have := h.1; simp [hm] at this)).trans h1, SlotsAre.off ho h.2 h2⟩
theorem w_loopS {α : Type} {a : GCode} (slots : α → List (Nat × Value)) (inv : α → PHeap → List PHeap → Prop) (meas : α → Nat) (x0 : α) (h0 : SlotsAre ρ (slots x0)) (i0 : inv x0 d L)
    (round : ∀ x ρ d L, inv x d L → gwp P a { Q with n := fun ρ d L => ∃ x', meas x' < meas x ∧ SlotsAre ρ (slots x') ∧ inv x' d L } (updL ρ (slots x)) d L) : gwp P (.loop a) Q ρ d L := by
  refine w_loop (fun m ρ d L => ∃ x, meas x = m ∧ SlotsAre ρ (slots x) ∧ inv x d L) (meas x0) ⟨x0, rfl, h0, i0⟩ ?_
  rintro m ρ d L ⟨x, rfl, h1, h2⟩
  refine gwp_slots _ h1 (gwp_mono (fun ρ' d' L' ⟨x', k1, k2, k3⟩ => ⟨meas x', k1, x', rfl, k2, k3⟩) (round x ρ d L h2))
theorem fin1 {R : Ending → PHeap → List PHeap → Prop} {t : Nat} {v : Value} {L' : List PHeap} (e : ρ t = v) (hs : L'.Sublist L) (h : R (.returned v) d L') : retPost [.tmp t] R ρ d L :=
  ⟨[v], ⟨e.symm, trivial⟩, d, L', Vs.drop hs, h⟩
theorem fin1n {R : Ending → PHeap → List PHeap → Prop} {t : Nat} {v : Value} (e : ρ t = v) (h : R (.returned v) d []) : retPost [.tmp t] R ρ d L := fin1 e (List.nil_sublist L) h
theorem fin2 {R : Ending → PHeap → List PHeap → Prop} {t u : Nat} {v w : Value} {L' : List PHeap} (e : ρ t = v) (e' : ρ u = w) (hs : L'.Sublist L) (h : R (.returned (.tuple #[v, w])) d L') : retPost [.tmp t, .tmp u] R ρ d L :=
  ⟨[v, w], ⟨e.symm, e'.symm, trivial⟩, d, L', Vs.drop hs, h⟩
theorem fin2n {R : Ending → PHeap → List PHeap → Prop} {t u : Nat} {v w : Value} (e : ρ t = v) (e' : ρ u = w) (h : R (.returned (.tuple #[v, w])) d []) : retPost [.tmp t, .tmp u] R ρ d L := fin2 e e' (List.nil_sublist L) h
end

end Go.Gk
end

section
namespace Go.Gk
open Go

def GPure (P : Program) (f : FuncId) (args : List Value) (d : PHeap) (v : Value) : Prop := GCall P f args d [] (Ret fun r d' L' => r = v ∧ d' = d ∧ L' = [])

section
variable {P : Program} {pan : List PanicEntry → Post} {Qn : Env → Post} {Ls L : List PHeap} {ρ : Env} {d : PHeap} {tk : Bool} {s : GS} {t : Nat}
theorem w_pure {f : FuncId} {args : List Operand} {vs : List Value} {v : Value} (ea : args.map (ev ρ) = vs) (hc : GPure P f vs d v)
    (h : gws P pan Qn s Ls (upd ρ t v) d L) : gws P pan Qn (.op false ⟨some t, none, .call f args⟩ s) Ls ρ d L :=
  w_call0 ea hc (fun r d' L' _ ⟨h1, h2, h3⟩ => by subst h1; subst h2; subst h3; exact h)
end

section
variable {P : Program} {pan : List PanicEntry → Post} {Qn : Env → Post} {Ls L : List PHeap} {ρ : Env} {d : PHeap} {tk : Bool} {s : GS} {t : Nat}
end

theorem finPb {ρ : Env} {d : PHeap} {L : List PHeap} {t : Nat} {a b : Bool} (e : ρ t = .bool a) (h : a = b) : retPost [.tmp t] (Ret fun r d' L' => r = .bool b ∧ d' = d ∧ L' = []) ρ d L :=
  fin1n e ⟨by rw [h], rfl, rfl⟩

theorem finPv {ρ : Env} {d : PHeap} {L : List PHeap} {t : Nat} {v : Value} (e : ρ t = v) : retPost [.tmp t] (Ret fun r d' L' => r = v ∧ d' = d ∧ L' = []) ρ d L := fin1n e ⟨rfl, rfl, rfl⟩
theorem finPv2 {ρ : Env} {d : PHeap} {L : List PHeap} {t u : Nat} {v w : Value} (e : ρ t = v) (e' : ρ u = w) : retPost [.tmp t, .tmp u] (Ret fun r d' L' => r = .tuple #[v, w] ∧ d' = d ∧ L' = []) ρ d L := fin2n e e' ⟨rfl, rfl, rfl⟩

def RSl {α : Type} (sz : Nat) (R : PHeap → List Value → α → Prop) (d : PHeap) (v : Value) (xs : List α) : Prop :=
  ∃ a c b o, v = .slice a xs.length c ∧ SAd a xs.length b o ∧ (c ≠ 0 → ∀ a', a = some a' → a'.spot = none) ∧ (a = none → c = 0) ∧ xs.length ≤ c ∧ c ≤ 9223372036854775807 ∧ xs.length ≤ 140737488355328 ∧
    ∀ i (h : i < xs.length), ∃ cs, cs.length = sz ∧ DCs d b (o + i * sz) cs ∧ R d cs xs[i]

theorem RSl.mono {α : Type} {sz : Nat} {R : PHeap → List Value → α → Prop} (hR : ∀ {d d' cs x}, Le d d' → R d cs x → R d' cs x) {d d' : PHeap} {v : Value} {xs : List α} (h : RSl sz R d v xs) (hl : Le d d') : RSl sz R d' v xs :=
  let ⟨a, c, b, o, h1, h2, h3, h4, h5, h6, h7, h8⟩ := h
  ⟨a, c, b, o, h1, h2, h3, h4, h5, h6, h7, fun i hi => let ⟨cs, k1, k2, k3⟩ := h8 i hi; ⟨cs, k1, k2.mono hl, hR hl k3⟩⟩

theorem RSl.nil {α : Type} {sz : Nat} {R : PHeap → List Value → α → Prop} {d : PHeap} : RSl sz R d (.slice none 0 0) ([] : List α) :=
  ⟨none, 0, 0, 0, rfl, fun h => absurd rfl h, fun _ _ h => (nomatch h), fun _ => rfl, Nat.le_refl _, by omega, Nat.zero_le _, fun i h => absurd h (Nat.not_lt_zero i)⟩

def RByte (_ : PHeap) (cs : List Value) (x : UInt8) : Prop := cs = [byteV x]
def RInt (_ : PHeap) (cs : List Value) (x : Int) : Prop := cs = [.int .i64 x] ∧ -9223372036854775808 ≤ x ∧ x ≤ 9223372036854775807
def RStr (_ : PHeap) (cs : List Value) (x : List UInt8) : Prop := cs = [strV x] ∧ x.length ≤ 140737488355328
def RBytes (d : PHeap) (v : Value) (l : List UInt8) : Prop := RSl 1 RByte d v l
def RInts (d : PHeap) (v : Value) (l : List Int) : Prop := RSl 1 RInt d v l
def RStrs (d : PHeap) (v : Value) (l : List (List UInt8)) : Prop := RSl 1 RStr d v l
def RBs (d : PHeap) (cs : List Value) (l : List UInt8) : Prop := ∃ u, cs = [u] ∧ RBytes d u l
def RBss (d : PHeap) (v : Value) (l : List (List UInt8)) : Prop := RSl 1 RBs d v l

theorem RBytes.mono {d d' : PHeap} {v : Value} {l : List UInt8} (h : RBytes d v l) (hl : Le d d') : RBytes d' v l := RSl.mono (fun _ h => h) h hl
theorem RInts.mono {d d' : PHeap} {v : Value} {l : List Int} (h : RInts d v l) (hl : Le d d') : RInts d' v l := RSl.mono (fun _ h => h) h hl
theorem RStrs.mono {d d' : PHeap} {v : Value} {l : List (List UInt8)} (h : RStrs d v l) (hl : Le d d') : RStrs d' v l := RSl.mono (fun _ h => h) h hl
theorem RBss.mono {d d' : PHeap} {v : Value} {l : List (List UInt8)} (h : RBss d v l) (hl : Le d d') : RBss d' v l := RSl.mono (fun hl ⟨u, h1, h2⟩ => ⟨u, h1, h2.mono hl⟩) h hl


section
variable {P : Program} {pan : List PanicEntry → Post} {Qn : Env → Post} {Ls L : List PHeap} {ρ : Env} {d : PHeap} {tk : Bool} {s : GS} {t : Nat}
end

end Go.Gk
end

section
namespace Go.Gk
open Go Go.ChangeShapes Go.WideShapes Go.ChangeAt Go.RowKit

def hw (W : World) : PHeap := fun b o => W.heap[b]? = some o
theorem Ok.hw (W : World) : Ok [Gk.hw W] W := ⟨by simp, by simp; exact fun b o h => h⟩
theorem hw_eq {W W' : World} (hs : Sub (hw W) W') {b : Nat} (hb : b < W.heap.size) : W'.heap[b]? = W.heap[b]? := by
  rw [hs b _ (Array.getElem?_eq_getElem hb), Array.getElem?_eq_getElem hb]
theorem keptBut_of {W W' : World} (hs : Sub (hw W) W') (hk : Keep W W') (may : MemPlace → Prop) : W.keptBut W' may := by
  refine ⟨hk.os, hk.output, fun i hi => ?_⟩
  rw [hw_eq hs hi]
  exact (World.keptBut_refl W may).2.2 i hi
theorem sameAt_of {W W' : World} (hs : Sub (hw W) W') : ∀ (p : MemPlace), p.block < W.heap.size → W.sameAt W' p
  | .cell b o, h => by
    have := hw_eq hs (b := b) h
    simp only [World.sameAt, World.cell?, this]
  | .map b, h => hw_eq hs h
theorem frozen_of {W W' : World} (hs : Sub (hw W) W') {a : Addr} (h : a.block < W.heap.size) : W'.frozen? a = W.frozen? a := by
  simp only [World.frozen?, hw_eq hs h]

section
variable {H : Type} {enc : TypeId × Value → H} {P : Program}
theorem stays_all (hl : laidOutB P = true) {W W' : World} {sp : Nat → Bool} : ∀ {ts : List TypeId} {vs : List Value} {ds : List (DataW H)} {ps : List MemPlace}, (ts.all fun t => P.readableRec t && decide (t < P.types.size)) = true →
    DataW.TrodAll enc P W 0 (fun _ => true) true ts vs ds ps → (∀ p ∈ ps, W.sameAt W' p) → (∀ p ∈ ps, sp p.block = true) → DataW.TrodAll enc P W' 0 sp true ts vs ds ps
  | [], [], [], _, _, h, _, _ => h
  | t :: ts, _ :: _, _ :: _, _, hr, ⟨p, q, h1, h2, e⟩, hsame, hsp => by
    simp only [List.all_cons, Bool.and_eq_true, decide_eq_true_eq] at hr
    exact ⟨p, q, WideElems.Trod_stays hl hr.1.1 hr.1.2 h1 (fun x hx => hsame x (by rw [e]; exact List.mem_append_left _ hx)) (fun x hx => hsp x (by rw [e]; exact List.mem_append_left _ hx)),
      stays_all hl hr.2 h2 (fun x hx => hsame x (by rw [e]; exact List.mem_append_right _ hx)) (fun x hx => hsp x (by rw [e]; exact List.mem_append_right _ hx)), e⟩

theorem post_true {fn : Func} {s : ChangeSpec} {apart fresh handsOn again : Bool} {W W' : World} {args : Array Value} {ds gs : List (DataW H)} {before : List MemPlace}
    (hl : laidOutB P = true) (hp : (fn.params.toList.all fun t => P.readableRec t && decide (t < P.types.size)) = true)
    (hW : DataW.Whole enc P fn.params.toList s.vars apart W args.toList ds gs before) (hv : s.vars = [])
    (hs : s.fn H (ds ++ gs) = { results := [.lit (.bool true)], args := ds }) {tb : TypeId} (ht : fn.resultTypes = #[tb]) (hb : P.underlying tb = some .bool)
    (hsub : Sub (hw W) W') (hk : Keep W W') : s.post enc P fn apart fresh handsOn again W args (.bool true) W' := by
  have hlt := hW.lt
  have hres : ∀ (b : Nat) (sp : Nat → Bool) (hd : Bool), DataW.TrodAll enc P W' b sp hd fn.resultTypes.toList ((Value.bool true).resultList fn.resultTypes.size) (s.fn H (ds ++ gs)).results [] := by
    intro b sp hd
    rw [hs, ht]
    exact trodAll_cons_mk (shut_bool hb true) trodAll_mk0
  have hW' := hW
  obtain ⟨p, q, hA, hV, rfl, hz, hn⟩ := hW'
  rw [hv] at hV
  obtain ⟨hg0, rfl⟩ := trodVars_none hV
  have hargs : ∀ sp : Nat → Bool, (∀ x ∈ p ++ [], sp x.block = true) → DataW.TrodAll enc P W' 0 sp true fn.params.toList args.toList (s.fn H (ds ++ gs)).args p := by
    intro sp h
    rw [hs]
    exact stays_all hl hp hA (fun x hx => sameAt_of hsub x (hlt x (by simpa using hx))) (fun x hx => h x (by simpa using hx))
  have hvars : ∀ sp : Nat → Bool, DataW.TrodVars enc P W' sp s.vars (s.fn H (ds ++ gs)).vars [] := by
    intro sp; rw [hs, hv]; rfl
  have hok : ∀ (j : Nat) (t : TypeId) (r : Value), fn.resultTypes[j]? = some t → ((Value.bool true).resultList fn.resultTypes.size)[j]? = some r → Value.okWide P W' .any 0 t r :=
    ok_one ht rfl (okWide_bool_mk hb true)
  refine ⟨ds, gs, p ++ [], [], p, [], hW, hres _ _ _, hargs _ (fun x hx => by simpa using hlt x hx), hvars _, keptBut_of hsub hk _, fun _ => ?_⟩
  refine ⟨hok, _, _, ([] ++ p) ++ [], ⟨[] ++ p, [], trodAll_append (hargs _ (fun _ _ => rfl)) (hres _ _ _), hvars _, rfl, ?_, ?_⟩, ?_⟩
  · intro b off hp
    rw [frozen_of hsub (by have := hlt _ (by simpa using hp); exact this)]
    exact hz b off (by simpa using hp)
  · intro ha
    simpa using hn ha
  · intro x hx _
    simpa using hx

theorem calls_true {f : FuncId} {fn : Func} {s : ChangeSpec} {apart fresh handsOn again : Bool} {W : World} {args : Array Value} {ds gs : List (DataW H)} {before : List MemPlace}
    (hl : laidOutB P = true) (hp : (fn.params.toList.all fun t => P.readableRec t && decide (t < P.types.size)) = true)
    (hW : DataW.Whole enc P fn.params.toList s.vars apart W args.toList ds gs before) (hv : s.vars = [])
    (hs : s.fn H (ds ++ gs) = { results := [.lit (.bool true)], args := ds }) {tb : TypeId} (ht : fn.resultTypes = #[tb]) (hb : P.underlying tb = some .bool)
    (hc : GCall P f args.toList (hw W) [] (Ret fun v _ _ => v = .bool true)) :
    Calls P f args W fun e W' => ∃ v, e = .returned v ∧ s.post enc P fn apart fresh handsOn again W args v W' := by
  have := hc.2 [] W (by simpa using Ok.hw W)
  rw [show args.toList.toArray = args from by simp] at this
  refine this.mono fun e W' ⟨d', L', h1, h2, h3, h4⟩ => ?_
  cases e with
  | returned v =>
    have hv' : v = .bool true := h4
    subst hv'
    exact ⟨_, rfl, post_true hl hp hW hv hs ht hb (h1.head.le h2) h3⟩
  | panicked c => exact h4.elim
  | outgrown => exact h4.elim
end
end Go.Gk
end

section
namespace Go.Gk
open Go

def ORow (sz : Nat) (v : Value) (n : Nat) (xs : List Value) (h : PHeap) : Prop :=
  xs.length = n * sz ∧ n ≤ 140737488355328 ∧ ((v = .slice none 0 0 ∧ n = 0 ∧ h = emp) ∨
    ∃ b T l c, v = .slice (some ⟨b, 0, none⟩) n c ∧ h = bx b T l ∧ n ≤ c ∧ c ≤ 9223372036854775807 ∧ c * sz ≤ l.length ∧ l.take xs.length = xs)

theorem ORow.nil (sz : Nat) : ORow sz (.slice none 0 0) 0 [] emp := ⟨by simp, by omega, .inl ⟨rfl, rfl, rfl⟩⟩
theorem ORow.mk {sz n c b : Nat} {T : TypeId} {l xs : List Value} (h1 : xs.length = n * sz) (h2 : n ≤ 140737488355328) (h3 : n ≤ c) (h4 : c ≤ 9223372036854775807) (h5 : c * sz ≤ l.length) (h6 : l.take xs.length = xs) :
    ORow sz (.slice (some ⟨b, 0, none⟩) n c) n xs (bx b T l) := ⟨h1, h2, .inr ⟨b, T, l, c, rfl, rfl, h3, h4, h5, h6⟩⟩
theorem ORow.lit {sz n b : Nat} {T : TypeId} {l : List Value} (h1 : l.length = n * sz) (h2 : n ≤ 140737488355328) : ORow sz (.slice (some ⟨b, 0, none⟩) n n) n l (bx b T l) :=
  ORow.mk h1 h2 (Nat.le_refl n) (by omega) (by rw [h1]; exact Nat.le_refl _) (by simp)
theorem ORow.slice {sz n : Nat} {v : Value} {xs : List Value} {h : PHeap} (o : ORow sz v n xs h) : ∃ a b c, v = .slice a n c ∧ SAd a n b 0 ∧ n ≤ c ∧ (c ≠ 0 → ∀ a', a = some a' → a'.spot = none) ∧ (a = none → c = 0) ∧ c ≤ 9223372036854775807 ∧
    ∀ i u, xs[i]? = some u → ∀ d Lk, h ∈ Lk → HC d Lk ⟨b, i, none⟩ u := by
  obtain ⟨h1, h2, ⟨rfl, rfl, rfl⟩ | ⟨b, T, l, c, rfl, rfl, h3, h4, h5, h6⟩⟩ := o
  · refine ⟨none, 0, 0, rfl, fun h => absurd rfl h, Nat.le_refl 0, (fun _ _ h => nomatch h), fun _ => rfl, by omega, fun i u hu => ?_⟩
    have : xs = [] := List.eq_nil_of_length_eq_zero (by simpa using h1)
    subst this; simp at hu
  · refine ⟨_, b, c, rfl, SAd.some n b 0, h3, (fun _ _ h => by cases h; rfl), (fun h => nomatch h), h4, fun i u hu d Lk hk => ⟨rfl, bx b T l, .inr hk, l.toArray, T, (0, 0), sg_self _ _, ?_⟩⟩
    have hi : i < xs.length := (List.getElem?_eq_some_iff.1 hu).1
    rw [← h6] at hu
    rw [List.getElem?_take_of_lt (by omega)] at hu
    simpa using hu

theorem Vs.put {d h h' : PHeap} {L : List PHeap} {i : Nat} (hi : L[i]? = some h) : Vs d (h' :: L) d (L.set i h') := by
  obtain ⟨A, B, rfl, e2⟩ := getElem?_split hi h'
  rw [e2]
  refine (Vs.perm (L' := h :: (A ++ h' :: B)) ?_).trans (Vs.drop (List.sublist_cons_self _ _))
  refine (List.Perm.cons h' List.perm_middle).trans ((List.Perm.swap h h' _).trans (List.Perm.cons h List.perm_middle.symm))

def RdX (d : PHeap) (Lk : List PHeap) (v : Value) (m sz : Nat) (news : List Value) : Prop :=
  ∃ a c, v = .slice a m c ∧ news.length = m * sz ∧ (a = none → news = []) ∧ ∀ a', a = some a' → ∀ i u, news[i]? = some u → HC d Lk (a'.add i) u

theorem RdX.lit {d : PHeap} {Lk : List PHeap} {b n c sz : Nat} {T : TypeId} {l : List Value} (i : Nat) (hi : Lk[i]? = some (bx b T l)) (hl : l.length = n * sz) : RdX d Lk (.slice (some ⟨b, 0, none⟩) n c) n sz l :=
  ⟨_, c, rfl, hl, (fun h => nomatch h), fun a' h j u hu => by cases h; rw [Addr.add_lit, Nat.zero_add]; exact hc_i i hi hu⟩
section
variable {P : Program} {pan : List PanicEntry → Post} {Qn : Env → Post} {Ls L : List PHeap} {ρ : Env} {d : PHeap} {s : GS} {t : Nat}
end

theorem ORow.dcs {sz n : Nat} {v : Value} {xs : List Value} {h d : PHeap} (o : ORow sz v n xs h) (hl : Le h d) : ∃ a b c, v = .slice a n c ∧ SAd a n b 0 ∧ n ≤ c ∧ (c ≠ 0 → ∀ a', a = some a' → a'.spot = none) ∧ (a = none → c = 0) ∧ c ≤ 9223372036854775807 ∧
    (xs ≠ [] → ∃ (l : Array Value) (T : TypeId) (fr : Nat × Nat), d b (.cells l T fr) ∧ ∀ (i : Nat) (u : Value), xs[i]? = some u → l[i]? = some u) := by
  obtain ⟨h1, h2, ⟨rfl, rfl, rfl⟩ | ⟨b, T, l, c, rfl, rfl, h3, h4, h5, h6⟩⟩ := o
  · have : xs = [] := List.eq_nil_of_length_eq_zero (by simpa using h1)
    subst this
    exact ⟨none, 0, 0, rfl, fun h => absurd rfl h, Nat.le_refl 0, (fun _ _ h => nomatch h), fun _ => rfl, by omega, fun h => absurd rfl h⟩
  · refine ⟨_, b, c, rfl, SAd.some n b 0, h3, (fun _ _ h => by cases h; rfl), (fun h => nomatch h), h4, fun _ => ⟨l.toArray, T, (0, 0), hl _ _ (sg_self _ _), fun i u hu => ?_⟩⟩
    have hi : i < xs.length := (List.getElem?_eq_some_iff.1 hu).1
    rw [← h6] at hu
    rw [List.getElem?_take_of_lt (by omega)] at hu
    simpa using hu
theorem ORow.rsl {α : Type} {sz n : Nat} {R : PHeap → List Value → α → Prop} {v : Value} {cs : List Value} {xs : List α} {h d : PHeap} (o : ORow sz v n cs h) (hl : Le h d) (hn : n = xs.length) (hsz : 0 < sz)
    (hR : ∀ i (hi : i < xs.length), R d ((cs.drop (i * sz)).take sz) xs[i]) : RSl sz R d v xs := by
  have h1 := o.1
  have h2 := o.2.1
  obtain ⟨a, b, c, rfl, k1, k2, k3, k4, k5, k6⟩ := o.dcs hl
  subst hn
  refine ⟨a, c, b, 0, rfl, k1, k3, k4, k2, k5, h2, fun i hi => ⟨(cs.drop (i * sz)).take sz, ?_, ?_, hR i hi⟩⟩
  · have : (i + 1) * sz ≤ xs.length * sz := Nat.mul_le_mul_right sz hi
    rw [Nat.add_mul] at this
    simp only [List.length_take, List.length_drop, h1]
    omega
  · have : cs ≠ [] := by
      rintro rfl
      have h3 : (i + 1) * sz ≤ xs.length * sz := Nat.mul_le_mul_right sz hi
      have h4 : xs.length * sz = 0 := by rw [← h1]; rfl
      rw [Nat.add_mul, Nat.one_mul] at h3
      omega
    obtain ⟨l, T, fr, e1, e2⟩ := k6 this
    refine ⟨l, T, fr, e1, fun j u hu => ?_⟩
    rw [List.getElem?_take] at hu
    split at hu
    · rw [List.getElem?_drop] at hu
      rw [Nat.zero_add]
      exact e2 _ _ hu
    · cases hu
theorem ORow.rsl1 {α : Type} {n : Nat} {R : PHeap → List Value → α → Prop} {v : Value} {cs : List Value} {xs : List α} {h d : PHeap} (o : ORow 1 v n cs h) (hl : Le h d) (hn : n = xs.length)
    (hR : ∀ i (hi : i < xs.length), ∃ u, cs[i]? = some u ∧ R d [u] xs[i]) : RSl 1 R d v xs := by
  refine o.rsl hl hn (by omega) (fun i hi => ?_)
  obtain ⟨u, hu, hr⟩ := hR i hi
  have : (cs.drop (i * 1)).take 1 = [u] := by
    rw [Nat.mul_one]
    obtain ⟨hlt, he⟩ := List.getElem?_eq_some_iff.1 hu
    rw [List.drop_eq_getElem_cons hlt, he]; rfl
  rw [this]; exact hr
theorem ORow.bytes {n : Nat} {v : Value} {xs : List UInt8} {h d : PHeap} (o : ORow 1 v n (xs.map byteV) h) (hl : Le h d) : RBytes d v xs := by
  have hn := o.1
  refine o.rsl1 hl (by simpa using hn.symm) (fun i hi => ⟨byteV xs[i], by simp [hi], rfl⟩)

end Go.Gk
end

section
namespace Go.Gk
open Go Go.ChangeShapes Go.WideShapes Go.ChangeAt Go.RowKit

section
variable {H : Type} {enc : TypeId × Value → H} {P : Program} {W : World}

def Rd (enc : TypeId × Value → H) (P : Program) (W : World) (t : TypeId) {α : Type} (R : PHeap → List Value → α → Prop) : Prop :=
  ∀ (held : Bool) (fuel : Nat) (cs : List Value) (x : DataW H × List MemPlace), DataW.trod enc P W 0 (fun _ => true) held fuel t cs = some x → (∀ n ∈ x.1.weights P t, n ≤ reachBytes) → ∃ a : α, R (hw W) cs a

theorem reach_le {n : Nat} (h : n ≤ reachBytes) : n ≤ 140737488355328 := Nat.le_of_lt (Nat.lt_of_le_of_lt h (by decide))

theorem rd_byte {t : TypeId} (ht : P.underlying t = some (.int .u8)) : Rd enc P W t RByte := by
  intro held fuel cs x h _
  obtain ⟨n, h1, h2, h3⟩ := DataW.trod_int ht h
  have hb := bounds_u8 h3
  refine ⟨UInt8.ofNat n.toNat, ?_⟩
  subst h1
  simp only [RByte, byteV, List.cons.injEq, Value.int.injEq, true_and, and_true]
  have : n.toNat < 256 := by omega
  simp [Nat.mod_eq_of_lt this]; omega
theorem rd_int {t : TypeId} (ht : P.underlying t = some (.int .i64)) : Rd enc P W t RInt := by
  intro held fuel cs x h _
  obtain ⟨n, h1, h2, h3⟩ := DataW.trod_int ht h
  have hb := bounds_i64 h3
  exact ⟨n, h1, hb.1, hb.2⟩
theorem hw_cell {a : Addr} {v : Value} (h : W.cell? a = some v) : a.spot = none ∧ DC (hw W) a.block a.off v := by
  refine ⟨spot_none h, ?_⟩
  unfold World.cell? at h
  split at h
  · rename_i c T fr hb
    split at h
    · cases h
    · exact ⟨c, T, fr, hb, h⟩
  · cases h
theorem hw_cells {a : Addr} {n : Nat} {cs : List Value} (h : W.cells? 0 a n = some cs) (hn : 0 < n) : a.spot = none ∧ cs.length = n ∧ DCs (hw W) a.block a.off cs := by
  unfold World.cells? at h
  rw [if_pos (Nat.zero_le _)] at h
  have hl : cs.length = n := by simpa using mapM_some_length h
  have one : ∀ i, i < n → ∀ u, cs[i]? = some u → W.cell? (a.add i) = some u := by
    intro i hi u hu
    have := mapM_some_get h i i (by simp [hi])
    rw [this, hu]
  have hs : a.spot = none := by
    have := one 0 hn cs[0] (List.getElem?_eq_getElem (by omega))
    rw [add_zero] at this
    exact (hw_cell this).1
  obtain ⟨b, o, s⟩ := a
  simp only at hs; subst hs
  have h0 := one 0 hn cs[0] (List.getElem?_eq_getElem (by omega))
  rw [Addr.add_lit] at h0
  obtain ⟨_, c, T, fr, hb, _⟩ := hw_cell h0
  refine ⟨rfl, hl, c, T, fr, hb, fun i u hu => ?_⟩
  have hi : i < n := by have := (List.getElem?_eq_some_iff.1 hu).1; omega
  have := one i hi u hu
  rw [Addr.add_lit] at this
  obtain ⟨_, c', T', fr', hb', hc'⟩ := hw_cell this
  simp only [Gk.hw] at hb hb'
  rw [hb] at hb'; cases hb'
  exact hc'

theorem rd_slice {t e : TypeId} {sz : Nat} {α : Type} {R : PHeap → List Value → α → Prop} (ht : P.underlying t = some (.slice e)) (hc : P.cellsOf e = sz) (hsz : 0 < sz) (hb : 1 ≤ P.bytesOf e) (he : Rd enc P W e R) :
    Rd enc P W t (fun d cs (xs : List α) => ∃ v, cs = [v] ∧ RSl sz R d v xs) := by
  subst hc
  intro held fuel cs x h hw
  rcases DataW.trod_slice ht h with ⟨rfl, rfl⟩ | ⟨a, len, cap, elems, rest, n, rfl, rfl, rfl, _, hlc, hcm, hlen, hel, hsp, _⟩
  · exact ⟨[], _, rfl, RSl.nil⟩
  · have hwt : (elems.length + rest.length) * P.bytesOf e ≤ reachBytes := hw _ (by simp [DataW.weights, ht])
    obtain ⟨hrl, hre⟩ := hsp rfl
    have hcap : cap ≤ 140737488355328 := by
      have h1 : (elems.length + rest.length) * 1 ≤ (elems.length + rest.length) * P.bytesOf e := Nat.mul_le_mul_left _ hb
      have h2 := reach_le (Nat.le_trans h1 hwt)
      omega
    have one : ∀ i (hi : i < len), ∃ u : α, ∃ cs, cs.length = P.cellsOf e ∧ a.spot = none ∧ DCs (Gk.hw W) a.block (a.off + i * P.cellsOf e) cs ∧ R (Gk.hw W) cs u := by
      intro i hi
      have h1 := hel i hi
      have hi' : i < elems.length := by omega
      rw [List.getElem?_eq_getElem hi', Option.bind_eq_some_iff] at h1
      obtain ⟨cs, h2, h3⟩ := h1
      obtain ⟨k1, k2, k3⟩ := hw_cells h2 hsz
      have hmem : ∀ (l : List (DataW H)) (y : DataW H), y ∈ l → ∀ n ∈ y.weights P e, n ∈ DataW.weightsAll P e l := by
        intro l
        induction l with
        | nil => intro y hy; cases hy
        | cons z l ih =>
          intro y hy n hn
          simp only [DataW.weightsAll, List.mem_append]
          rcases List.mem_cons.1 hy with rfl | hy
          · exact .inl hn
          · exact .inr (ih y hy n hn)
      obtain ⟨u, hu⟩ := he held n cs elems[i] h3 (fun m hm => hw m (by
        simp only [DataW.weights, ht, List.mem_cons, List.mem_append]
        exact .inr (.inl (hmem _ _ (List.mem_map.2 ⟨elems[i], List.getElem_mem hi', rfl⟩) m hm))))
      have hs : a.spot = none := by
        obtain ⟨b, o, s⟩ := a
        by_cases h0 : i * P.cellsOf e = 0
        · rw [h0, add_zero] at k1; exact k1
        · have := hel 0 (by omega)
          rw [List.getElem?_eq_getElem (by omega), Option.bind_eq_some_iff] at this
          obtain ⟨cs', h2', _⟩ := this
          rw [Nat.zero_mul, add_zero] at h2'
          exact (hw_cells h2' hsz).1
      obtain ⟨b, o, s⟩ := a
      simp only at hs; subst hs
      rw [Addr.add_lit] at k3
      exact ⟨u, cs, k2, rfl, k3, hu⟩
    have hspot : cap ≠ 0 → a.spot = none := by
      intro h0
      by_cases h1 : 0 < len
      · obtain ⟨_, _, _, hs, _⟩ := one 0 h1; exact hs
      · have := hre 0 (by omega)
        have hl0 : len = 0 := by omega
        rw [List.getElem?_eq_getElem (by omega), Option.bind_eq_some_iff] at this
        obtain ⟨cs', h2', _⟩ := this
        rw [hl0, Nat.zero_add, Nat.zero_mul, add_zero] at h2'
        exact (hw_cells h2' hsz).1
    refine ⟨List.ofFn (n := len) fun i => (one i i.isLt).choose, _, rfl, some a, cap, a.block, a.off, ?_, ?_, fun h0 a' ha => ?_, (fun h => nomatch h), ?_, by omega, ?_, ?_⟩
    · simp
    · intro h0
      have h0' : len ≠ 0 := by simpa using h0
      have := hspot (by omega)
      obtain ⟨b, o, s⟩ := a; simp only at this; subst this; rfl
    · cases ha; exact hspot h0
    · simpa using hlc
    · simp; omega
    · intro i hi
      have hi' : i < len := by simpa using hi
      obtain ⟨cs, k1, _, k3, k4⟩ := (one i hi').choose_spec
      exact ⟨cs, k1, k3, by simpa using k4⟩

theorem arg_weights {ts : List TypeId} {ds : List (DataW H)} (h : (DataW.weightsEach P ts ds).all (· ≤ reachBytes) = true) {j : Nat} {t : TypeId} {d : DataW H} (ht : ts[j]? = some t) (hd : ds[j]? = some d) : ∀ n ∈ d.weights P t, n ≤ reachBytes := by
  intro n hn
  simpa using List.all_eq_true.1 h _ (DataW.weights_mem_each ht hd n hn)
theorem rd_arg {t : TypeId} {α : Type} {R : PHeap → List Value → α → Prop} (hr : Rd enc P W t R) {v : Value} {d : DataW H} {ps : List MemPlace} (h : DataW.Trod enc P W 0 (fun _ => true) true t v d ps)
    (hw : ∀ n ∈ d.weights P t, n ≤ reachBytes) : ∃ a : α, R (Gk.hw W) v.cells.toList a := by
  obtain ⟨fuel, hf⟩ := h
  exact hr true fuel _ _ hf hw
theorem arg_slice {base : Nat} {r : Reach} {t e : TypeId} {sz : Nat} {α : Type} {R : PHeap → List Value → α → Prop} (ht : P.underlying t = some (.slice e)) (hc : P.cellsOf e = sz) (hsz : 0 < sz) (hb : 1 ≤ P.bytesOf e) (he : Rd enc P W e R)
    {v : Value} {d : DataW H} {ps : List MemPlace} (hok : Value.okWide P W r base t v) (h : DataW.Trod enc P W 0 (fun _ => true) true t v d ps) (hw : ∀ n ∈ d.weights P t, n ≤ reachBytes) : ∃ xs : List α, RSl sz R (Gk.hw W) v xs := by
  obtain ⟨a, len, cap, rfl⟩ := okWide_slice ht hok
  obtain ⟨xs, v', e1, h2⟩ := rd_arg (rd_slice ht hc hsz hb he) h hw
  have e1 : [Value.slice a len cap] = [v'] := e1
  cases e1
  exact ⟨xs, h2⟩
theorem arg_int {base : Nat} {r : Reach} {t : TypeId} (ht : P.underlying t = some (.int .i64)) {v : Value} {d : DataW H} {ps : List MemPlace} (hok : Value.okWide P W r base t v) (h : DataW.Trod enc P W 0 (fun _ => true) true t v d ps)
    (hw : ∀ n ∈ d.weights P t, n ≤ reachBytes) : ∃ k : Int, v = .int .i64 k ∧ -9223372036854775808 ≤ k ∧ k ≤ 9223372036854775807 := by
  obtain ⟨n, rfl⟩ := okWide_int ht hok
  obtain ⟨x, e, h2⟩ := rd_arg (rd_int ht) h hw
  have e : [Value.int .i64 n] = [.int .i64 x] := e
  cases e
  exact ⟨n, rfl, h2⟩
end
end Go.Gk
namespace Go.Gk
end Go.Gk
end

section
namespace Go.Gk
open Go

section
variable {P : Program} {r : Option Nat} {n : Nat}
end
end Go.Gk
end

section
namespace Go.Gk
open Go Go.Conc

end Go.Gk
end

section
namespace Go.Gk
open Go Go.Conc

end Go.Gk
end

section
namespace Go.Gk
open Go Go.Conc

section
variable {P : Program} {n : Nat} {ds : List Deferred} {ops : Array Oper} {F : List PHeap}
end
end Go.Gk
end

section
namespace Go.Gk
open Go Go.Conc

section
variable {P : Program} {ops : Array Oper} {k : Nat} {o : Oper} {a : Act} {W : World} {c cap s r : Nat} {buf : Array Value} {tm : Bool}
end
end Go.Gk
end

section
namespace Go.Gk
open Go Go.Conc

section
variable {Fe : Fence} {m : Nat} {P : Program}
end
section
variable {P : Program} {n : Nat} {ds : List Deferred} {ops : Array Oper} {F : List PHeap} {W0 : World} {d0 : PHeap}
end
end Go.Gk
end

section
namespace Go.Gk
open Go Go.Conc

end Go.Gk
end

section
namespace Go.Gk
open Go

def FRow (N : Nat) (v : Value) (c : List UInt8) (h : PHeap) : Prop :=
  c.length ≤ N ∧ ∃ b T, v = .slice (some ⟨b, 0, none⟩) c.length N ∧ h = bx b T (c.map byteV ++ List.replicate (N - c.length) (byteV 0))

theorem FRow.full {N : Nat} {v : Value} {c : List UInt8} {h : PHeap} (r : FRow N v c h) : ∃ b, v = .slice (some ⟨b, 0, none⟩) c.length N ∧ FRow N (.slice (some ⟨b, 0, none⟩) N N) (c ++ List.replicate (N - c.length) 0) h := by
  obtain ⟨hc, b, T, rfl, rfl⟩ := r
  have hl : (c ++ List.replicate (N - c.length) (0 : UInt8)).length = N := by simp; omega
  refine ⟨b, rfl, by omega, b, T, by rw [hl], ?_⟩
  rw [hl]
  simp
theorem FRow.bytes {N : Nat} {v : Value} {c : List UInt8} {h d : PHeap} (r : FRow N v c h) (hl : Le h d) (hN : N ≤ 140737488355328) : RBytes d v c := by
  obtain ⟨hc, b, T, rfl, rfl⟩ := r
  exact (ORow.mk (sz := 1) (xs := c.map byteV) (n := c.length) (c := N) (by simp) (by omega) hc (by omega) (by simp; omega) (by simp)).bytes hl
section
variable {P : Program} {pan : List PanicEntry → Post} {Qn : Env → Post} {Ls L : List PHeap} {ρ : Env} {d : PHeap} {s : GS} {t : Nat} {tk : Bool}
end
end Go.Gk
end

section
namespace Go.Gk
open Go

def chunk (cs : List Value) (i sz : Nat) : List Value := (cs.drop (i * sz)).take sz
def GRow {α : Type} (sz : Nat) (R : PHeap → List Value → α → Prop) (d : PHeap) (v : Value) (xs : List α) (h : PHeap) : Prop :=
  ∃ cs, ORow sz v xs.length cs h ∧ ∀ i (hi : i < xs.length), R d (chunk cs i sz) xs[i]
def Src {α : Type} (sz : Nat) (R : PHeap → List Value → α → Prop) (d : PHeap) (Lk : List PHeap) (w : Value) (ys : List α) : Prop :=
  ∃ news, RdX d Lk w ys.length sz news ∧ (news.all (·.oneCell')) = true ∧ ∀ i (hi : i < ys.length), R d (chunk news i sz) ys[i]
def Mono {α : Type} (R : PHeap → List Value → α → Prop) : Prop := ∀ {d d' cs x}, Le d d' → R d cs x → R d' cs x

theorem mono_int : Mono RInt := fun _ h => h
section
variable {α : Type} {sz : Nat} {R : PHeap → List Value → α → Prop} {d : PHeap} {v : Value} {xs : List α} {h : PHeap}
theorem chunk_len {cs : List Value} {n i : Nat} (hl : cs.length = n * sz) (hi : i < n) : (chunk cs i sz).length = sz := by
  have : (i + 1) * sz ≤ n * sz := Nat.mul_le_mul_right sz hi
  rw [Nat.add_mul, Nat.one_mul] at this
  simp only [chunk, List.length_take, List.length_drop, hl]
  omega
theorem GRow.nil : GRow sz R d (.slice none 0 0) [] emp := ⟨[], ORow.nil sz, fun i hi => absurd hi (Nat.not_lt_zero i)⟩
theorem GRow.mono (hR : Mono R) (o : GRow sz R d v xs h) {d' : PHeap} (hl : Le d d') : GRow sz R d' v xs h :=
  let ⟨cs, h1, h2⟩ := o
  ⟨cs, h1, fun i hi => hR hl (h2 i hi)⟩
theorem GRow.val (o : GRow sz R d v xs h) : ∃ a c, v = .slice a xs.length c := by
  obtain ⟨cs, h1, _⟩ := o
  obtain ⟨a, b, c, e, _⟩ := h1.slice
  exact ⟨a, c, e⟩
theorem RSl.val (o : RSl sz R d v xs) : ∃ a c, v = .slice a xs.length c := let ⟨a, c, _, _, e, _⟩ := o; ⟨a, c, e⟩
theorem GRow.rsl (o : GRow sz R d v xs h) (hR : Mono R) (hsz : 0 < sz) {d' : PHeap} (hl : Le d d') (hh : Le h d') : RSl sz R d' v xs := by
  obtain ⟨cs, h1, h2⟩ := o
  exact h1.rsl hh rfl hsz (fun i hi => hR hl (h2 i hi))
theorem Src.lit {Lk : List PHeap} {b c n : Nat} {T : TypeId} {cs : List Value} {ys : List α} (i : Nat) (hi : Lk[i]? = some (bx b T cs)) (hn : n = ys.length) (hl : cs.length = ys.length * sz) (h1 : (cs.all (·.oneCell')) = true)
    (h2 : ∀ i (hi : i < ys.length), R d (chunk cs i sz) ys[i]) : Src sz R d Lk (.slice (some ⟨b, 0, none⟩) n c) ys := by
  subst hn
  exact ⟨cs, RdX.lit i hi hl, h1, h2⟩
theorem GRow.lit {b n : Nat} {T : TypeId} {cs : List Value} (hn : n = xs.length) (hl : cs.length = xs.length * sz) (hx : xs.length ≤ 140737488355328) (h2 : ∀ i (hi : i < xs.length), R d (chunk cs i sz) xs[i]) :
    GRow sz R d (.slice (some ⟨b, 0, none⟩) n n) xs (bx b T cs) := by
  subst hn
  exact ⟨cs, ORow.lit hl hx, h2⟩
end
theorem GRow.bytes {d : PHeap} {v : Value} {xs : List UInt8} {h : PHeap} (o : GRow 1 RByte d v xs h) : ORow 1 v xs.length (xs.map byteV) h := by
  obtain ⟨cs, h1, h2⟩ := o
  have hl := h1.1
  have : cs = xs.map byteV := by
    apply List.ext_getElem
    · simp at hl ⊢; exact hl
    · intro i h3 h4
      have h5 : i < xs.length := by simpa using h4
      have h6 : chunk cs i 1 = [byteV xs[i]] := h2 i h5
      simp only [chunk, Nat.mul_one] at h6
      have h7 := congrArg (·[0]?) h6
      simp only [List.getElem?_take_of_lt (show 0 < 1 by omega), List.getElem?_drop, Nat.add_zero, List.getElem?_eq_getElem h3, List.getElem?_cons_zero, Option.some.injEq] at h7
      simp [h7]
  rw [← this]; exact h1

section
variable {P : Program} {pan : List PanicEntry → Post} {Qn : Env → Post} {Ls L : List PHeap} {ρ : Env} {d : PHeap} {s : GS} {t : Nat} {tk : Bool}
end
section
variable {P : Program} {Q : GPost} {ρ : Env} {d : PHeap} {L : List PHeap}
end
section
variable {P : Program} {pan : List PanicEntry → Post} {Qn : Env → Post} {Ls L : List PHeap} {ρ : Env} {d : PHeap} {s t : GS} {g : GOp}
theorem finS {res : List GRes} {R : Ending → PHeap → List PHeap → Prop} (vs : List Value) {L' : List PHeap} (hr : resAll ρ (HC d L) res vs) (hs : L'.Sublist L) (h : R (.returned (resV vs)) d L') : retPost res R ρ d L :=
  ⟨vs, hr, d, L', Vs.drop hs, h⟩
end
section
variable {P : Program} {pan : List PanicEntry → Post} {Qn : Env → Post} {Ls L : List PHeap} {ρ : Env} {d : PHeap} {s : GS} {t : Nat} {tk : Bool}
end
theorem GCall.monoV {P : Program} {f : FuncId} {args : List Value} {d : PHeap} {L : List PHeap} {R R' : Ending → PHeap → List PHeap → Prop}
    (h : GCall P f args d L R) (hr : ∀ e d' L', Le d d' → R e d' L' → ∃ d2 L2, Vs d' L' d2 L2 ∧ R' e d2 L2) : GCall P f args d L R' :=
  ⟨h.1, fun F W x => (h.2 F W x).mono fun e W' ⟨d', L', a, b, c, r⟩ => let ⟨d2, L2, v, r2⟩ := hr e d' L' b r; ⟨d2, L2, v.2 F W' a, b.trans v.1, c, r2⟩⟩
theorem GCall.monoR {P : Program} {f : FuncId} {args : List Value} {d : PHeap} {L : List PHeap} {R R' : Value → PHeap → List PHeap → Prop}
    (h : GCall P f args d L (Ret R)) (hr : ∀ v d' L', Le d d' → R v d' L' → ∃ d2 L2, Vs d' L' d2 L2 ∧ R' v d2 L2) : GCall P f args d L (Ret R') :=
  h.monoV (fun e d' L' hl r => by
    cases e with
    | returned v => exact hr v d' L' hl r
    | panicked c => exact r.elim
    | outgrown => exact r.elim)
end Go.Gk
end

section
namespace Go.Gk
open Go

theorem Vs.cons {d d' h : PHeap} {L L' : List PHeap} (v : Vs d L d' L') : Vs d (h :: L) d' (h :: L') :=
  ⟨v.1, fun F W x => (v.2 (h :: F) W (x.perm (List.perm_middle.symm.cons d))).perm (List.perm_middle.cons d')⟩
section
variable {P : Program} {pan : List PanicEntry → Post} {Qn : Env → Post} {Ls L : List PHeap} {ρ : Env} {d : PHeap} {s : GS} {t : Nat} {tk : Bool}
end

section
variable {P : Program} {pan : List PanicEntry → Post} {Qn : Env → Post} {Ls L : List PHeap} {ρ : Env} {d : PHeap} {s : GS} {t : Nat} {tk : Bool} {α : Type} {sz : Nat} {R : PHeap → List Value → α → Prop} {x y z : Operand} {v : Value} {xs : List α} {kk kk' : IntKind} {n m : Nat}
end
section
variable {P : Program} {pan : List PanicEntry → Post} {Qn : Env → Post} {Ls L : List PHeap} {ρ : Env} {d : PHeap} {s : GS} {t : Nat}
end
section
variable {P : Program} {Q : GPost} {ρ : Env} {d : PHeap} {L : List PHeap}
end
section
variable {P : Program} {pan : List PanicEntry → Post} {Qn : Env → Post} {Ls L : List PHeap} {ρ : Env} {d : PHeap} {s : GS} {t : Nat} {tk : Bool}
end
end Go.Gk
end

section
namespace Go.Gk
open Go
section
variable {P : Program} {pan : List PanicEntry → Post} {Qn : Env → Post} {Ls L : List PHeap} {ρ : Env} {d : PHeap} {s : GS} {t : Nat} {tk : Bool}
end
end Go.Gk
end

section
namespace Go.Gk
open Go

section
variable {P : Program} {Q : GPost} {ρ : Env} {d : PHeap} {L : List PHeap}
end
section
variable {P : Program} {Q : GPost} {ρ : Env} {d : PHeap} {L : List PHeap}
end
end Go.Gk
end

section
namespace Go.Gk
open Go
section
variable {P : Program} {pan : List PanicEntry → Post} {Qn : Env → Post} {Ls L : List PHeap} {ρ : Env} {d : PHeap} {s : GS} {t : Nat} {tk : Bool}
end
theorem GCall.forget {P : Program} {f : FuncId} {args : List Value} {d : PHeap} {L : List PHeap} {Q : Value → List PHeap → Prop} (h : GCall P f args d L (Ret fun r _ L' => Q r L')) : GCall P f args d L (Ret fun r d' L' => d' = d ∧ Q r L') :=
  ⟨h.1, fun F W x => (h.2 F W x).mono fun e W' ⟨d', L', a, b, c, r⟩ => ⟨d, L', a.le b, Le.refl d, c, by
    cases e with
    | returned v => exact ⟨rfl, r⟩
    | panicked c => exact r.elim
    | outgrown => exact r.elim⟩⟩
theorem GPure.of {P : Program} {f : FuncId} {args : List Value} {d : PHeap} {v : Value} (h : GCall P f args d [] (Ret fun r _ L' => r = v ∧ L' = [])) : GPure P f args d v :=
  (GCall.forget (Q := fun r L' => r = v ∧ L' = []) h).mono fun e d' L' _ r => by
    cases e with
    | returned v => exact ⟨r.2.1, r.1, r.2.2⟩
    | panicked c => exact r.elim
    | outgrown => exact r.elim
section
variable {ρ : Env} {d : PHeap} {L : List PHeap} {t u : Nat}
end
end Go.Gk
end

section
namespace Go.Gk
open Go
section
variable {P : Program} {pan : List PanicEntry → Post} {Qn : Env → Post} {Ls L : List PHeap} {ρ : Env} {d : PHeap} {s : GS} {t : Nat} {tk : Bool}
end
end Go.Gk
end

section
namespace Go.Gk
open Go
section
variable {P : Program} {pan : List PanicEntry → Post} {Qn : Env → Post} {Ls L : List PHeap} {ρ : Env} {d : PHeap} {s : GS} {t : Nat} {tk : Bool}
end
end Go.Gk
end

section
namespace Go.Gk
open Go
section
variable {P : Program} {pan : List PanicEntry → Post} {Qn : Env → Post} {Ls L : List PHeap} {ρ : Env} {d : PHeap} {s : GS}
end
end Go.Gk
namespace Go.Gk
open Go
section
variable {P : Program} {pan : List PanicEntry → Post} {Qn : Env → Post} {Ls L : List PHeap} {ρ : Env} {d : PHeap} {s : GS} {t : Nat} {tk : Bool}
end
end Go.Gk
namespace Go.Gk
open Go
theorem get_patch {l vs : List Value} {o k : Nat} (h : o + vs.length ≤ l.length) : (patch l o vs)[k]? = if o ≤ k ∧ k < o + vs.length then vs[k - o]? else l[k]? := by
  unfold patch
  have hl : (l.take o).length = o := by rw [List.length_take]; omega
  by_cases h1 : k < o
  · rw [if_neg (by omega), List.append_assoc, List.getElem?_append_left (by omega), List.getElem?_take_of_lt h1]
  by_cases h2 : k < o + vs.length
  · rw [if_pos ⟨by omega, h2⟩, List.getElem?_append_left (by rw [List.length_append]; omega), List.getElem?_append_right (by omega), hl]
  · rw [if_neg (by omega), List.getElem?_append_right (by rw [List.length_append]; omega), List.getElem?_drop, List.length_append, hl]
    congr 1; omega
theorem patch_len {l vs : List Value} {o : Nat} (h : o + vs.length ≤ l.length) : (patch l o vs).length = l.length := by
  unfold patch; simp only [List.length_append, List.length_take, List.length_drop]; omega
theorem take_patch {l vs : List Value} {o n : Nat} (h : o + vs.length ≤ n) (hn : n ≤ l.length) : (patch l o vs).take n = patch (l.take n) o vs := by
  refine List.ext_getElem? fun k => ?_
  have hl : (l.take n).length = n := by rw [List.length_take]; omega
  rw [get_patch (by omega)]
  by_cases hk : k < n
  · rw [List.getElem?_take_of_lt hk, List.getElem?_take_of_lt hk, get_patch (by omega)]
  · rw [if_neg (by omega), List.getElem?_eq_none (by rw [List.length_take]; omega), List.getElem?_eq_none (by omega)]
theorem get_chunk {cs : List Value} {i sz k : Nat} : (chunk cs i sz)[k]? = if k < sz then cs[i * sz + k]? else none := by
  unfold chunk
  by_cases h : k < sz
  · rw [List.getElem?_take_of_lt h, List.getElem?_drop, if_pos h]
  · rw [if_neg h, List.getElem?_eq_none (by rw [List.length_take]; omega)]
theorem chunk_patch {cs vs : List Value} {i m sz n : Nat} (hl : cs.length = n * sz) (hv : vs.length = sz) (hm : m < n) : chunk (patch cs (m * sz) vs) i sz = if i = m then vs else chunk cs i sz := by
  have h1 : m * sz + sz ≤ n * sz := by have := Nat.mul_le_mul_right sz (show m + 1 ≤ n from hm); rwa [Nat.add_mul, Nat.one_mul] at this
  refine List.ext_getElem? fun k => ?_
  rw [get_chunk]
  by_cases e : i = m
  · subst e
    rw [if_pos rfl]
    by_cases hk : k < sz
    · rw [if_pos hk, get_patch (by omega), if_pos (by omega)]
      congr 1; omega
    · rw [if_neg hk, List.getElem?_eq_none (by omega)]
  · rw [if_neg e, get_chunk]
    by_cases hk : k < sz
    · rw [if_pos hk, if_pos hk, get_patch (by omega), if_neg]
      rintro ⟨a, b⟩
      rcases Nat.lt_or_gt_of_ne e with q | q
      · have := Nat.mul_le_mul_right sz (show i + 1 ≤ m from q); rw [Nat.add_mul, Nat.one_mul] at this; omega
      · have := Nat.mul_le_mul_right sz (show m + 1 ≤ i from q); rw [Nat.add_mul, Nat.one_mul] at this; omega
    · rw [if_neg hk, if_neg hk]
theorem GRow.openV {α : Type} {sz : Nat} {R : PHeap → List Value → α → Prop} {d : PHeap} {v : Value} {xs : List α} {h : PHeap} (_ : 0 < sz) (o : GRow sz R d v xs h) {m : Nat} (hm : m < xs.length) :
    ∃ b T l c, v = .slice (some ⟨b, 0, none⟩) xs.length c ∧ h = bx b T l ∧ m * sz + sz ≤ l.length ∧ ∀ cs' x, cs'.length = sz → R d cs' x → GRow sz R d v (xs.set m x) (bx b T (patch l (m * sz) cs')) := by
  obtain ⟨cs, ⟨h1, h2, ⟨rfl, h0, rfl⟩ | ⟨b, T, l, c, rfl, rfl, h3, h4, h5, h6⟩⟩, hr⟩ := o
  · omega
  · have hmz : m * sz + sz ≤ xs.length * sz := by have := Nat.mul_le_mul_right sz (show m + 1 ≤ xs.length from hm); rwa [Nat.add_mul, Nat.one_mul] at this
    have hcz : xs.length * sz ≤ c * sz := Nat.mul_le_mul_right sz h3
    refine ⟨b, T, l, c, rfl, rfl, by omega, fun cs' x hl hx => ⟨patch cs (m * sz) cs', ?_, fun i hi => ?_⟩⟩
    · have hp : (patch cs (m * sz) cs').length = cs.length := patch_len (by omega)
      refine ⟨by rw [hp, List.length_set, h1], by rw [List.length_set]; exact h2, .inr ⟨b, T, _, c, by rw [List.length_set], rfl, by rw [List.length_set]; exact h3, h4, by rw [patch_len (by omega)]; exact h5, ?_⟩⟩
      rw [hp, take_patch (by omega) (by omega), h6]
    · rw [chunk_patch h1 hl hm]
      rw [List.length_set] at hi
      by_cases e : i = m
      · subst e
        rw [if_pos rfl, List.getElem_set_self]; exact hx
      · rw [if_neg e, List.getElem_set_ne (fun q => e q.symm)]; exact hr i hi
end Go.Gk
end

section
namespace Go.Gk
open Go
section
variable {P : Program} {pan : List PanicEntry → Post} {Qn : Env → Post} {Ls L : List PHeap} {ρ : Env} {d : PHeap} {s : GS} {t : Nat} {tk : Bool}
end
end Go.Gk
end

section
namespace Go.Gk
open Go
section
variable {P : Program} {pan : List PanicEntry → Post} {Qn : Env → Post} {Ls L : List PHeap} {ρ : Env} {d : PHeap} {s : GS} {t : Nat} {tk : Bool}
end
end Go.Gk
end

section
namespace Go.Gk
open Go

section
variable {κ ν : Type} (kE : κ → Value) (vE : ν → Value)
def ents (ms : List (κ × ν × Nat)) : List MapEntry := ms.map fun p => ⟨kE p.1, vE p.2.1, p.2.2⟩
def mp (b : Nat) (ms : List (κ × ν × Nat)) (c : Nat) : PHeap := sg b (.map (ents kE vE ms).toArray c)
end
section
variable {κ ν : Type} [DecidableEq κ]
def mGet (k : κ) : List (κ × ν × Nat) → Option ν
  | [] => none
  | p :: ms => if k = p.1 then some p.2.1 else mGet k ms
end

section
variable {κ ν : Type} {kE : κ → Value} {vE : ν → Value}
variable {P : Program} {pan : List PanicEntry → Post} {Qn : Env → Post} {Ls L : List PHeap} {ρ : Env} {d : PHeap} {s : GS} {t : Nat}
end
end Go.Gk
end

section
namespace Go.Gk
open Go

section
variable {P : Program} {pan : List PanicEntry → Post} {Qn : Env → Post} {Ls L : List PHeap} {ρ : Env} {d : PHeap} {s : GS} {t : Nat} {tk : Bool}
theorem w_idxN {x i : Operand} {sz b n c : Nat} {k : IntKind} {j : Int} (m : Nat) (ex : ev ρ x = .slice (some ⟨b, 0, none⟩) n c) (ei : ev ρ i = .int k j) (hm : j = (m : Int)) (hl : m < n)
    (h : gws P pan Qn s Ls (upd ρ t (.pointer (some ⟨b, m * sz, none⟩))) d L) : gws P pan Qn (.op tk ⟨some t, none, .idx sz x i⟩ s) Ls ρ d L :=
  w_idx (o := 0) m ex ei hm hl (SAd.some n b 0) (by rw [Nat.zero_add]; exact h)
end
theorem GRow.at {α : Type} {sz : Nat} {R : PHeap → List Value → α → Prop} {d : PHeap} {v : Value} {xs : List α} {h : PHeap} (hsz : 0 < sz) (o : GRow sz R d v xs h) {m : Nat} (hm : m < xs.length) :
    ∃ b T l c cs, v = .slice (some ⟨b, 0, none⟩) xs.length c ∧ h = bx b T l ∧ cs.length = sz ∧ (∀ j u, cs[j]? = some u → l[m * sz + j]? = some u) ∧ m * sz + sz ≤ l.length ∧ R d cs xs[m] ∧
      ∀ cs' x, cs'.length = sz → R d cs' x → GRow sz R d v (xs.set m x) (bx b T (patch l (m * sz) cs')) := by
  obtain ⟨b, T, l, c, e1, e2, e3, e4⟩ := o.openV hsz hm
  obtain ⟨cs, ⟨h1, h2, ⟨q1, h0, q2⟩ | ⟨b', T', l', c', q1, q2, h3, h4, h5, h6⟩⟩, hr⟩ := o
  · omega
  · have hmz : m * sz + sz ≤ xs.length * sz := by have := Nat.mul_le_mul_right sz (show m + 1 ≤ xs.length from hm); rwa [Nat.add_mul, Nat.one_mul] at this
    have hbl : l'.toArray = l.toArray ∧ b' = b := by
      rw [e2] at q2
      have := (congrFun (congrFun q2 b) (.cells l.toArray T (0, 0))).mp (sg_self _ _)
      obtain ⟨z1, z2⟩ := sg_some this
      injection z2 with z3
      exact ⟨z3.symm, z1.symm⟩
    have hl' : l' = l := by simpa using hbl.1
    subst hl'
    refine ⟨b, T, l', c, chunk cs m sz, e1, e2, ?_, fun j u hu => ?_, e3, hr m hm, e4⟩
    · exact chunk_len h1 hm
    · rw [get_chunk] at hu
      split at hu
      · rename_i hj
        rw [← h6, List.getElem?_take] at hu
        split at hu
        · exact hu
        · cases hu
      · cases hu
theorem GRow.zero {α : Type} {sz : Nat} {R : PHeap → List Value → α → Prop} {d : PHeap} {b n : Nat} {T : TypeId} {z : List Value} {x : α} (hz : z.length = sz) (h0 : 0 < sz) (hx : R d z x) (hn : n ≤ 140737488355328) :
    GRow sz R d (.slice (some ⟨b, 0, none⟩) n n) (List.replicate n x) (bx b T (zrow z (n * sz))) := by
  refine GRow.lit (by simp) (by simp [zrow]) (by simpa using hn) (fun i hi => ?_)
  have hin : i < n := by simpa using hi
  have : chunk (zrow z (n * sz)) i sz = z := by
    refine List.ext_getElem? fun k => ?_
    rw [get_chunk]
    by_cases hk : k < sz
    · have h1 : (i + 1) * sz ≤ n * sz := Nat.mul_le_mul_right sz hin
      rw [Nat.add_mul, Nat.one_mul] at h1
      rw [if_pos hk, zrow, List.getElem?_map, List.getElem?_range (by omega), Option.map_some, hz, show i * sz + k = k + sz * i by rw [Nat.mul_comm]; omega, Nat.add_mul_mod_self_left, Nat.mod_eq_of_lt hk]
      rw [List.getD_eq_getElem?_getD, List.getElem?_eq_getElem (by omega)]
      simp
    · rw [if_neg hk, List.getElem?_eq_none (by omega)]
  rw [this]
  simpa using hx
end Go.Gk
namespace Go.Gk
open Go
def GRead (P : Program) (f : FuncId) (args : List Value) (d : PHeap) (L : List PHeap) (v : Value) : Prop := GCall P f args d L (Ret fun r d' L' => r = v ∧ d' = d ∧ L' = L)
section
variable {P : Program} {pan : List PanicEntry → Post} {Qn : Env → Post} {Ls L : List PHeap} {ρ : Env} {d : PHeap} {s : GS} {t : Nat}
end
end Go.Gk
namespace Go.Gk
open Go
end Go.Gk
namespace Go.Gk
open Go
section
variable {P : Program} {pan : List PanicEntry → Post} {Qn : Env → Post} {Ls L : List PHeap} {ρ : Env} {d : PHeap} {s : GS} {t : Nat}
end
end Go.Gk
namespace Go.Gk
open Go
section
variable {P : Program} {pan : List PanicEntry → Post} {Qn : Env → Post} {Ls L : List PHeap} {ρ : Env} {d : PHeap} {s : GS} {t : Nat}
end
end Go.Gk
namespace Go.Gk
open Go
section
variable {P : Program} {pan : List PanicEntry → Post} {Qn : Env → Post} {Ls L : List PHeap} {ρ : Env} {d : PHeap} {s : GS} {t : Nat}
end
end Go.Gk
namespace Go.Gk
open Go
section
variable {P : Program} {pan : List PanicEntry → Post} {Qn : Env → Post} {Ls L : List PHeap} {ρ : Env} {d : PHeap} {s : GS} {t : Nat} {tk : Bool}
end
end Go.Gk
namespace Go.Gk
open Go
end Go.Gk
end

section
namespace Go.Gk.Dev
open Go Go.Gk
attribute [local irreducible] gwp gws
abbrev Sec := List UInt8
structure DevD where
  syn : List Sec
  opn : List (Nat × Sec)
def RSec (_ : PHeap) (cs : List Value) (x : Sec) : Prop := cs = x.map byteV ∧ x.length = 256
def RWr (_ : PHeap) (cs : List Value) (x : Nat × Sec) : Prop := cs = .int .i64 x.1 :: x.2.map byteV ∧ x.2.length = 256
theorem mono_sec : Mono RSec := fun _ h => h
theorem mono_wr : Mono RWr := fun _ h => h
def zsec : Sec := List.replicate 256 0
def lastW (k : Nat) : List (Nat × Sec) → Option Sec
  | [] => none
  | w :: l => match lastW k l with | some b => some b | none => if w.1 = k then some w.2 else none
def DevD.cur (D : DevD) (k : Nat) : Sec := (lastW k D.opn).getD (D.syn.getD k [])
def synced (l : List (Nat × Sec)) (s : List Sec) : List Sec := l.foldl (fun s w => s.set w.1 w.2) s
theorem synced_len (l : List (Nat × Sec)) : ∀ s, (synced l s).length = s.length := by
  induction l with
  | nil => exact fun _ => rfl
  | cons w l ih => intro s; rw [synced, List.foldl_cons]; exact (ih _).trans (List.length_set ..)
def Dv (d : PHeap) (D : DevD) (v : Value) (L : List PHeap) : Prop :=
  ∃ b T vs vo r hs ho, v = .pointer (some ⟨b, 0, none⟩) ∧ L = [bx b T [vs, vo, .int .i64 r, .int .i64 0], hs, ho] ∧ GRow 256 RSec d vs D.syn hs ∧ GRow 257 RWr d vo D.opn ho ∧ (∀ w ∈ D.opn, w.1 < D.syn.length) ∧ D.syn.length ≤ 8192
theorem Dv.mono {d d' : PHeap} {D : DevD} {v : Value} {L : List PHeap} (h : Dv d D v L) (hl : Le d d') : Dv d' D v L :=
  let ⟨b, T, vs, vo, r, hs, ho, h1, h2, h3, h4, h5, h6⟩ := h
  ⟨b, T, vs, vo, r, hs, ho, h1, h2, GRow.mono (R := RSec) mono_sec h3 hl, GRow.mono (R := RWr) mono_wr h4 hl, h5, h6⟩

end Go.Gk.Dev
end
