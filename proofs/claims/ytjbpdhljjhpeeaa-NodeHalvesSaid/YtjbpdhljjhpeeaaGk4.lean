/-
  What each instruction does is what the program's operation does, part 2: those that write, make memory or call.
-/
import Derived.Test.YtjbpdhljjhpeeaaGk3
namespace Go.Gk
open Go

def act (n : Nat) (ρ : Env) (ds : List Deferred) : Act := ⟨Array.ofFn (n := n) fun i => ρ i, ds⟩

theorem act_eval {n : Nat} {ρ : Env} {ds : List Deferred} {x : Operand} (h : opndOk n x = true) : (act n ρ ds).eval x = ev ρ x := by
  cases x with
  | tmp t =>
    have : t < n := by simpa [opndOk] using h
    simp [Act.eval, act, ev, this, Array.getD]
  | _ => rfl

theorem act_put {n : Nat} {ρ : Env} {ds : List Deferred} {d : Option Tmp} (h : ∀ t, d = some t → t < n) (v : Value) : (act n ρ ds).put d v = act n (put ρ d v) ds := by
  cases d with
  | none => rfl
  | some t =>
    have ht := h t rfl
    simp only [Act.put, act, put, Act.mk.injEq, and_true]
    apply Array.ext
    · simp
    · intro i h1 h2
      simp only [Array.size_setIfInBounds, Array.size_ofFn] at h1
      rw [Array.getElem_setIfInBounds (by simpa using h1)]
      by_cases e : t = i
      · subst e; simp [upd]
      · have : Nat.beq i t = false := by
          cases hb : Nat.beq i t with
          | false => rfl
          | true => exact absurd (Nat.eq_of_beq_eq_true hb).symm e
        simp [e, upd, this]

theorem HC.cell {d : PHeap} {Lk : List PHeap} {a : Addr} {v : Value} (h : HC d Lk a v) {W : World} (hd : Sub d W) (hl : ∀ k ∈ Lk, Sub k W) : W.cell? a = some v := by
  obtain ⟨hs, k, hk, c, T, fr, hb, hc⟩ := h
  have hW : W.heap[a.block]? = some (.cells c T fr) := by
    rcases hk with rfl | hk
    · exact hd _ _ hb
    · exact hl k hk _ _ hb
  simp [World.cell?, hW, hs, hc]

theorem callFunc_run {P : Program} {f : FuncId} (h : Callable P f) (args : Array Value) (W : World) : (callFunc f args).run P W = .ok (.enter f args) W := by
  obtain ⟨fn, hf, hb, hn⟩ := h
  have hb' : fn.body.isNone = false := by cases e : fn.body <;> simp_all
  simp only [callFunc, Sem.run_bind, run_program, Result.andThen, hf, hn, hb', Bool.false_eq_true, if_false, Sem.run_pure]

theorem getElem?_split {L : List PHeap} {i : Nat} {h : PHeap} (e : L[i]? = some h) (h' : PHeap) : ∃ A B, L = A ++ h :: B ∧ L.set i h' = A ++ h' :: B := by
  obtain ⟨hi, rfl⟩ := List.getElem?_eq_some_iff.1 e
  exact ⟨L.take i, L.drop (i + 1), by simp, by rw [List.set_eq_take_append_cons_drop, if_pos hi]⟩

theorem Ok.front {d h : PHeap} {A B F : List PHeap} {W : World} : Ok (d :: ((A ++ h :: B) ++ F)) W ↔ Ok (h :: d :: ((A ++ B) ++ F)) W := by
  have p : List.Perm (d :: ((A ++ h :: B) ++ F)) (h :: d :: ((A ++ B) ++ F)) := by
    refine (List.Perm.cons d ?_).trans (List.Perm.swap h d _)
    simp only [List.append_assoc, List.cons_append]
    exact List.perm_middle
  exact ⟨fun x => x.perm p, fun x => x.perm p.symm⟩

theorem bx_heap {b : Nat} {T : TypeId} {l : List Value} {W : World} (h : Sub (bx b T l) W) : W.heap[b]? = some (.cells l.toArray T (0, 0)) := h b _ (sg_self _ _)

theorem patch_eq (l : List Value) (o : Nat) (vs : List Value) : (l.toArray.toList.take o ++ vs ++ l.toArray.toList.drop (o + vs.length)).toArray = (patch l o vs).toArray := rfl

theorem setRow_eq (W : World) (g : Nat) (cs cs' : Array Value) (T : TypeId) (fr : Nat × Nat) (h : W.heap[g]? = some (.cells cs T fr)) : (W.setRow g cs').heap = W.heap.setIfInBounds g (.cells cs' T fr) := by
  simp only [World.setRow]
  apply Array.ext_getElem?
  intro i
  rw [Array.getElem?_modify, Array.getElem?_setIfInBounds]
  obtain ⟨hg, _⟩ := Array.getElem?_eq_some_iff.1 h
  by_cases e : g = i
  · subst e; obtain ⟨_, hv⟩ := Array.getElem?_eq_some_iff.1 h; simp [hg, hv]
  · simp [e]

/-- Cells of an owned block are written. -/
theorem Ok.patched {d : PHeap} {L F : List PHeap} {W : World} {i b o : Nat} {T : TypeId} {l vs : List Value} (x : Ok (d :: (L ++ F)) W) (hi : L[i]? = some (bx b T l)) (hl : o + vs.length ≤ l.length)
    (h1 : (vs.all (·.oneCell')) = true) (P : Program) : ∃ W', (storeCells ⟨b, o, none⟩ vs).run P W = .ok () W' ∧ Ok (d :: (L.set i (bx b T (patch l o vs)) ++ F)) W' ∧ Keep W W' := by
  obtain ⟨A, B, rfl, e2⟩ := getElem?_split hi (bx b T (patch l o vs))
  have y := Ok.front.1 x
  have hb := bx_heap y.head
  have hr := run_storeCells_at P b o T vs 0 l.toArray W hb (by simpa using hl) (by simpa using h1)
  refine ⟨_, hr, ?_, ?_⟩
  · rw [e2]
    refine Ok.front.2 ?_
    refine y.write _ ?_
    rw [setRow_eq W b _ _ T (0, 0) hb]
    simp [patch]
  · exact ⟨rfl, rfl, rfl, by simp [World.setRow]⟩

theorem zrow_eq (z : Array Value) (n : Nat) (hz : n ≠ 0 → 0 < z.size) : ((Array.range n).map (z[· % z.size]!)) = (zrow z.toList n).toArray := by
  apply Array.ext'
  simp only [Array.toList_map, Array.toList_range, zrow]
  apply List.map_congr_left
  intro i hi
  have hn : n ≠ 0 := by rintro rfl; simp at hi
  have := Nat.mod_lt i (hz hn)
  simp [List.getD, this, Array.length_toList]

theorem zeroCells_eq (z : Array Value) (n sz : Nat) (hz : z.size = sz) (h0 : 0 < sz) : Builtin.zeroCells z n = (zrow z.toList (n * sz)).toArray := by
  subst hz
  unfold Builtin.zeroCells
  exact zrow_eq z _ (fun _ => h0)

end Go.Gk
