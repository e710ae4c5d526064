/-
  From a contract over partial heaps to a row: a law's function that returns true whatever is handed in, and leaves what it was handed as it is.
-/
import Derived.Test.YtjbpdhljjhpeeaaGk8
import Derived.ProofKit
import Derived.OpenShut
import Derived.JoinedCond
import Derived.SizedLaws
namespace Go.Gk
open Go Go.ChangeShapes Go.WideShapes Go.ChangeAt Go.RowKit

/-- A world's whole heap, as data. -/
def hw (W : World) : PHeap := fun b o => W.heap[b]? = some o
theorem Ok.hw (W : World) : Ok [Gk.hw W] W := ⟨by simp, by simp; exact fun b o h => h⟩
theorem hw_eq {W W' : World} (hs : Sub (hw W) W') {b : Nat} (hb : b < W.heap.size) : W'.heap[b]? = W.heap[b]? := by
  rw [hs b _ (Array.getElem?_eq_getElem hb), Array.getElem?_eq_getElem hb]
theorem keptBut_of {W W' : World} (hs : Sub (hw W) W') (hk : Keep W W') (may : MemPlace → Prop) : W.keptBut W' may := by
  refine ⟨hk.os, hk.output, fun i hi => ?_⟩
  rw [hw_eq hs hi]
  exact (World.keptBut_refl W may).2.2 i hi
theorem sameAt_of {W W' : World} (hs : Sub (hw W) W') : ∀ (p : MemPlace), p.block < W.heap.size → W.sameAt W' p
  | .cell b o, h => by
    have := hw_eq hs (b := b) h
    simp only [World.sameAt, World.cell?, this]
  | .map b, h => hw_eq hs h
theorem frozen_of {W W' : World} (hs : Sub (hw W) W') {a : Addr} (h : a.block < W.heap.size) : W'.frozen? a = W.frozen? a := by
  simp only [World.frozen?, hw_eq hs h]

section
variable {H : Type} {enc : TypeId × Value → H} {P : Program}
theorem stays_all (hl : laidOutB P = true) {W W' : World} {sp : Nat → Bool} : ∀ {ts : List TypeId} {vs : List Value} {ds : List (DataW H)} {ps : List MemPlace}, (ts.all fun t => P.readableRec t && decide (t < P.types.size)) = true →
    DataW.TrodAll enc P W 0 (fun _ => true) true ts vs ds ps → (∀ p ∈ ps, W.sameAt W' p) → (∀ p ∈ ps, sp p.block = true) → DataW.TrodAll enc P W' 0 sp true ts vs ds ps
  | [], [], [], _, _, h, _, _ => h
  | t :: ts, _ :: _, _ :: _, _, hr, ⟨p, q, h1, h2, e⟩, hsame, hsp => by
    simp only [List.all_cons, Bool.and_eq_true, decide_eq_true_eq] at hr
    exact ⟨p, q, WideElems.Trod_stays hl hr.1.1 hr.1.2 h1 (fun x hx => hsame x (by rw [e]; exact List.mem_append_left _ hx)) (fun x hx => hsp x (by rw [e]; exact List.mem_append_left _ hx)),
      stays_all hl hr.2 h2 (fun x hx => hsame x (by rw [e]; exact List.mem_append_right _ hx)) (fun x hx => hsp x (by rw [e]; exact List.mem_append_right _ hx)), e⟩

theorem post_true {fn : Func} {s : ChangeSpec} {apart fresh handsOn again : Bool} {W W' : World} {args : Array Value} {ds gs : List (DataW H)} {before : List MemPlace}
    (hl : laidOutB P = true) (hp : (fn.params.toList.all fun t => P.readableRec t && decide (t < P.types.size)) = true)
    (hW : DataW.Whole enc P fn.params.toList s.vars apart W args.toList ds gs before) (hv : s.vars = [])
    (hs : s.fn H (ds ++ gs) = { results := [.lit (.bool true)], args := ds }) {tb : TypeId} (ht : fn.resultTypes = #[tb]) (hb : P.underlying tb = some .bool)
    (hsub : Sub (hw W) W') (hk : Keep W W') : s.post enc P fn apart fresh handsOn again W args (.bool true) W' := by
  have hlt := hW.lt
  have hres : ∀ (b : Nat) (sp : Nat → Bool) (hd : Bool), DataW.TrodAll enc P W' b sp hd fn.resultTypes.toList ((Value.bool true).resultList fn.resultTypes.size) (s.fn H (ds ++ gs)).results [] := by
    intro b sp hd
    rw [hs, ht]
    exact trodAll_cons_mk (shut_bool hb true) trodAll_mk0
  have hW' := hW
  obtain ⟨p, q, hA, hV, rfl, hz, hn⟩ := hW'
  rw [hv] at hV
  obtain ⟨hg0, rfl⟩ := trodVars_none hV
  have hargs : ∀ sp : Nat → Bool, (∀ x ∈ p ++ [], sp x.block = true) → DataW.TrodAll enc P W' 0 sp true fn.params.toList args.toList (s.fn H (ds ++ gs)).args p := by
    intro sp h
    rw [hs]
    exact stays_all hl hp hA (fun x hx => sameAt_of hsub x (hlt x (by simpa using hx))) (fun x hx => h x (by simpa using hx))
  have hvars : ∀ sp : Nat → Bool, DataW.TrodVars enc P W' sp s.vars (s.fn H (ds ++ gs)).vars [] := by
    intro sp; rw [hs, hv]; rfl
  have hok : ∀ (j : Nat) (t : TypeId) (r : Value), fn.resultTypes[j]? = some t → ((Value.bool true).resultList fn.resultTypes.size)[j]? = some r → Value.okWide P W' .any 0 t r :=
    ok_one ht rfl (okWide_bool_mk hb true)
  refine ⟨ds, gs, p ++ [], [], p, [], hW, hres _ _ _, hargs _ (fun x hx => by simpa using hlt x hx), hvars _, keptBut_of hsub hk _, fun _ => ?_⟩
  refine ⟨hok, _, _, ([] ++ p) ++ [], ⟨[] ++ p, [], trodAll_append (hargs _ (fun _ _ => rfl)) (hres _ _ _), hvars _, rfl, ?_, ?_⟩, ?_⟩
  · intro b off hp
    rw [frozen_of hsub (by have := hlt _ (by simpa using hp); exact this)]
    exact hz b off (by simpa using hp)
  · intro ha
    simpa using hn ha
  · intro x hx _
    simpa using hx

/-- The bridge: a contract over the world's whole heap gives the row's. -/
theorem calls_true {f : FuncId} {fn : Func} {s : ChangeSpec} {apart fresh handsOn again : Bool} {W : World} {args : Array Value} {ds gs : List (DataW H)} {before : List MemPlace}
    (hl : laidOutB P = true) (hp : (fn.params.toList.all fun t => P.readableRec t && decide (t < P.types.size)) = true)
    (hW : DataW.Whole enc P fn.params.toList s.vars apart W args.toList ds gs before) (hv : s.vars = [])
    (hs : s.fn H (ds ++ gs) = { results := [.lit (.bool true)], args := ds }) {tb : TypeId} (ht : fn.resultTypes = #[tb]) (hb : P.underlying tb = some .bool)
    (hc : GCall P f args.toList (hw W) [] (Ret fun v _ _ => v = .bool true)) :
    Calls P f args W fun e W' => ∃ v, e = .returned v ∧ s.post enc P fn apart fresh handsOn again W args v W' := by
  have := hc.2 [] W (by simpa using Ok.hw W)
  rw [show args.toList.toArray = args from by simp] at this
  refine this.mono fun e W' ⟨d', L', h1, h2, h3, h4⟩ => ?_
  cases e with
  | returned v =>
    have hv' : v = .bool true := h4
    subst hv'
    exact ⟨_, rfl, post_true hl hp hW hv hs ht hb (h1.head.le h2) h3⟩
  | panicked c => exact h4.elim
  | outgrown => exact h4.elim
end
end Go.Gk
