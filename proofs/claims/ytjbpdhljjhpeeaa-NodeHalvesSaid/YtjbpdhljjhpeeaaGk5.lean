/-
  What each instruction does is what the program's operation does, part 3: the join of all.
-/
import Derived.Test.YtjbpdhljjhpeeaaGk4
namespace Go.Gk
open Go

theorem gi_quiet {P : Program} {pan : List PanicEntry → Post} {ρ : Env} {d : PHeap} {Lk L : List PHeap} {K : Value → Post} {g : GI} (hq : g.quiet = true) :
    gi P pan ρ d Lk L K g = ∃ v, evq ρ (HC d Lk) g v ∧ K v d L := by
  cases g <;> first | rfl | (simp [GI.quiet] at hq; done) | (rename_i n x; cases n <;> rfl) | (rename_i n o x; cases n <;> rfl)

theorem upon_value' {P : Program} {o : Oper} {a : Act} {W W' : World} {v : Value} {nxt : Act → World → Prop} {Q : Exit → Act → World → Prop}
    (hr : (execOp a.eval o).run P W = .ok (.value v) W') (h : nxt (a.put o.dst v) W') : o.wp P a W nxt Q := by
  unfold Oper.wp; rw [hr]; exact h
theorem upon_skip' {P : Program} {o : Oper} {a : Act} {W W' : World} {nxt : Act → World → Prop} {Q : Exit → Act → World → Prop}
    (hr : (execOp a.eval o).run P W = .ok .skip W') (h : nxt (a.put o.dst undef) W') : o.wp P a W nxt Q := by
  unfold Oper.wp; rw [hr]; exact h
theorem upon_enter' {P : Program} {o : Oper} {a : Act} {W : World} {f : FuncId} {args : Array Value} {nxt : Act → World → Prop} {Q : Exit → Act → World → Prop}
    (hr : (execOp a.eval o).run P W = .ok (.enter f args) W) (h : Calls P f args W fun
      | .returned v, w'' => nxt (a.put o.dst v) w''
      | .panicked chain, w'' => Q (.panic chain) a w''
      | .outgrown, _ => LetsOut Q) : o.wp P a W nxt Q := by
  unfold Oper.wp; rw [hr]; exact h
theorem upon_panic' {P : Program} {o : Oper} {a : Act} {W : World} {v : Value} {nxt : Act → World → Prop} {Q : Exit → Act → World → Prop}
    (hr : (execOp a.eval o).run P W = .halt (.panic v) W) (h : Q (.panic [{ v, recovered := false }]) a W) : o.wp P a W nxt Q := by
  unfold Oper.wp; rw [hr]; exact h

theorem Ok.push {d : PHeap} {L F : List PHeap} {W : World} (x : Ok (d :: (L ++ F)) W) (o : Obj) : Ok (d :: ((sg W.heap.size o :: L) ++ F)) (W.alloc o) :=
  (x.alloc o).perm (List.Perm.swap _ _ _)

theorem keep_alloc (W : World) (o : Obj) : Keep W (W.alloc o) := ⟨rfl, rfl, rfl, by show W.heap.size ≤ (W.heap.push o).size; simp⟩

theorem storeVar_run {P : Program} {t : TypeId} {i : TypeInfo} (hi : P.info? t = some i) {v : Value} (hs : v.cells.size = i.size) (a : Addr) (W : World) :
    (storeVar t a v).run P W = (storeCells a v.cells.toList).run P W := by
  simp [storeVar, size_run hi, hs]

theorem append_fits_run {P : Program} {t t' ty e : TypeId} {i : TypeInfo} {e' : TypeId} (ht : P.underlying t = some (.slice e)) (ht' : P.underlying t' = some (.slice e')) (hi : P.info? e = some i)
    {sa xa : Option Addr} {n c m xc : Nat} {news : List Value} (hl : news.length = m * i.size) {W : World} (hx0 : xa = none → news = [])
    (hx : ∀ a', xa = some a' → ∀ j u, news[j]? = some u → W.cell? (a'.add j) = some u) (hfit : n + m ≤ c) :
    (Builtin.append_ #[t, t'] ty #[.slice sa n c, .slice xa m xc]).run P W =
      (match sa with
       | some a => (storeCells (a.add (n * i.size)) news).run P W
       | none => .ok () W).andThen fun _ W' => .ok (.slice sa (n + m) c) W' := by
  have hf : (Builtin.firstCells i.size m (.slice xa m xc)).run P W = .ok news.toArray W := by
    cases xa with
    | none => rw [hx0 rfl]; simp [Builtin.firstCells]
    | some a =>
      exact run_firstCells_some W i.size m a m xc news hl (fun j v hj => hx _ rfl j v hj)
  cases sa <;> simp [Builtin.append_, run_underlying ht, run_underlying ht', size_run hi, Builtin.lenOf, hfit, hf]

theorem append_grows_run {P : Program} {t t' ty e : TypeId} {i : TypeInfo} {e' : TypeId} {z : Value} (ht : P.underlying t = some (.slice e)) (ht' : P.underlying t' = some (.slice e')) (hi : P.info? e = some i)
    (hz : i.zero = some z) (hb : i.bytes ≠ 0)
    {sa xa : Option Addr} {n c m xc : Nat} {news olds : List Value} (hl : news.length = m * i.size) (hlo : olds.length = n * i.size) {W : World} (hx0 : xa = none → news = [])
    (hx : ∀ a', xa = some a' → ∀ j u, news[j]? = some u → W.cell? (a'.add j) = some u) (hs0 : sa = none → olds = [])
    (hs : ∀ a', sa = some a' → ∀ j u, olds[j]? = some u → W.cell? (a'.add j) = some u) (hfit : c < n + m) (hmax : n + m ≤ maxLen) (hbytes : (n + m) * i.bytes ≤ 2 ^ 47) :
    ∃ c', n + m ≤ c' ∧ c' ≤ maxLen ∧ (Builtin.append_ #[t, t'] ty #[.slice sa n c, .slice xa m xc]).run P W =
      .ok (.slice (some ⟨W.heap.size, 0, none⟩) (n + m) c') (W.drew.alloc (.cells (olds.toArray ++ news.toArray ++ Builtin.zeroCells z.cells (c' - (n + m))) e)) := by
  have hf : ∀ W', (∀ a, W'.cell? a = W.cell? a) → (Builtin.firstCells i.size m (.slice xa m xc)).run P W' = .ok news.toArray W' := by
    intro W' hW
    cases xa with
    | none => rw [hx0 rfl]; simp [Builtin.firstCells]
    | some a =>
      exact run_firstCells_some W' i.size m a m xc news hl (fun j v hj => by rw [hW]; exact hx _ rfl j v hj)
  have hfo : ∀ W', (∀ a, W'.cell? a = W.cell? a) → (Builtin.firstCells i.size n (.slice sa n c)).run P W' = .ok olds.toArray W' := by
    intro W' hW
    cases sa with
    | none => rw [hs0 rfl]; simp [Builtin.firstCells]
    | some a =>
      exact run_firstCells_some W' i.size n a n c olds hlo (fun j v hj => by rw [hW]; exact hs _ rfl j v hj)
  refine ⟨grownCap W (n + m) c e, grownCap_ge W _ _ _, grownCap_le_maxLen W _ _ _ hmax, ?_⟩
  have hn : ¬ (n + m ≤ c) := by omega
  have h48 := growslice_fits (need := n + m) (old := c) (bytes := i.bytes) hfit (by simpa using hbytes)
  have h48' : ¬ (281474976710656 < Builtin.nextslicecap (n + m) c * i.bytes) := by omega
  have hfd := hf W.drew (fun a => by simp)
  have hfod := hfo W.drew (fun a => by simp)
  simp [Builtin.append_, run_underlying ht, run_underlying ht', size_run hi, info_run hi, zero_run hi hz, Builtin.lenOf, hn, hb, h48', Question.forced, hfd, hfod, newRow, grownCap]
  simp only [← Array.append_assoc, List.append_toArray]

theorem map_eval {n : Nat} {ρ : Env} {ds : List Deferred} (args : Array Operand) (h : ∀ x ∈ args, opndOk n x = true) : args.map (act n ρ ds).eval = (args.toList.map (ev ρ)).toArray := by
  apply Array.ext'
  simp
  intro x hx; exact act_eval (h x hx)

theorem parts_eval {n : Nat} {ρ : Env} {ds : List Deferred} (parts : Array (Nat × Operand)) (h : ∀ p ∈ parts, opndOk n p.2 = true) :
    (parts.map fun (i, x) => (i, (act n ρ ds).eval x)).toList = parts.toList.map fun p => (p.1, ev ρ p.2) := by
  rw [Array.toList_map]
  apply List.map_congr_left
  rintro ⟨j, x⟩ hj
  have := act_eval (ρ := ρ) (ds := ds) (h ⟨j, x⟩ (by simpa using hj))
  simp [this]

theorem gi_sound {P : Program} {o : Oper} {g : GI} {n : Nat} {ds : List Deferred} (hd : decI P o = some g) (hop : ∀ x ∈ o.op.operands, opndOk n x = true)
    {pan : List PanicEntry → Post} {ρ : Env} {d : PHeap} {Lk L F : List PHeap} {K : Value → Post} {W : World} (hOk : Ok (d :: (L ++ F)) W) (hl : ∀ k ∈ Lk, Sub k W)
    (h : gi P pan ρ d Lk L K g) {Q : Exit → Act → World → Prop} {nxt : Act → World → Prop}
    (hK : ∀ v d' L' W', Ok (d' :: (L' ++ F)) W' → Le d d' → Keep W W' → K v d' L' → nxt ((act n ρ ds).put o.dst v) W')
    (hP : ∀ c d' L' W', Ok (d' :: (L' ++ F)) W' → Le d d' → Keep W W' → pan c d' L' → Q (.panic c) (act n ρ ds) W') : o.wp P (act n ρ ds) W nxt Q := by
  by_cases hq : g.quiet = true
  · rw [gi_quiet hq] at h
    obtain ⟨v, h1, h2⟩ := h
    exact upon_value' (evq_sound hd hq h1 (fun x hx => act_eval (hop x hx)) (fun a v hc => hc.cell hOk.head hl)) (hK v d L W hOk (Le.refl d) (Keep.refl W) h2)
  · obtain ⟨dst, op, type, pos, after, guard⟩ := o
    have contract : ∀ (f : FuncId) (args : List Value) (L1 L2 : List PHeap) (R : Ending → PHeap → List PHeap → Prop), L = L1 ++ L2 → GCall P f args d L1 R →
        (∀ e d' L', Le d d' → R e d' L' → match e with | .returned v => K v d' (L' ++ L2) | .panicked c => pan c d' (L' ++ L2) | .outgrown => False) →
        (execOp (act n ρ ds).eval ⟨dst, op, type, pos, after, guard⟩).run P W = .ok (.enter f args.toArray) W →
        Oper.wp P ⟨dst, op, type, pos, after, guard⟩ (act n ρ ds) W nxt Q := by
      intro f args L1 L2 R hL hc hR hr
      subst hL
      refine upon_enter' hr ((hc.2 (L2 ++ F) W (by rwa [← List.append_assoc])).mono ?_)
      rintro e W' ⟨d', L', h1, h2, h3, h4⟩
      have h5 := hR e d' L' h2 h4
      rw [← List.append_assoc] at h1
      cases e with
      | returned v => exact hK v d' _ W' h1 h2 h3 h5
      | panicked c => exact hP c d' _ W' h1 h2 h3 h5
      | outgrown => exact h5.elim
    cases op <;> simp only [decI] at hd
    case box t x =>
      simp at hd; subst hd
      refine upon_value' (W' := W.alloc (.cells (ev ρ x).cells t)) (v := .pointer (some ⟨W.heap.size, 0, none⟩)) ?_ ?_
      · simp [execOp, act_eval (hop x (by simp [Op.operands])), Instr.box, newVar, newRow]
      · have := h W.heap.size t
        refine hK _ d _ _ ?_ (Le.refl d) (keep_alloc _ _) this
        have := hOk.push (.cells (ev ρ x).cells t)
        simpa [bx] using this
    case alloc t =>
      split at hd <;> try cases hd
      rename_i i hi
      simp at hd
      obtain ⟨z, hz, rfl⟩ := hd
      refine upon_value' (W' := W.alloc (.cells z.cells t)) (v := .pointer (some ⟨W.heap.size, 0, none⟩)) ?_ ?_
      · simp [execOp, Instr.alloc, zero_run hi hz, newVar, newRow]
      · refine hK _ d _ _ ?_ (Le.refl d) (keep_alloc _ _) (h W.heap.size t)
        have := hOk.push (.cells z.cells t)
        simpa [bx] using this
    case store t a x =>
      split at hd <;> try cases hd
      rename_i i hi
      obtain ⟨j, b, off, T, l, h1, h2, h3, h4, h5, h6⟩ := h
      obtain ⟨W', hr, ho, hk⟩ := hOk.patched h1 (o := off) (vs := (ev ρ x).cells.toList) (by simp [h3]; exact h4) h5 P
      refine upon_skip' (W' := W') ?_ (hK _ d _ W' ho (Le.refl d) hk h6)
      simp [execOp, act_eval (hop x (by simp [Op.operands])), act_eval (hop a (by simp [Op.operands])), h2, Instr.storeAt, Instr.sureAddr, storeVar_run hi h3, hr]
    case buildSlice t m parts =>
      split at hd <;> try cases hd
      rename_i e hu
      split at hd <;> try cases hd
      rename_i i hi
      split at hd <;> try cases hd
      rename_i z hz
      split at hd <;> try cases hd
      rename_i hzs
      obtain ⟨h1, cs, h2, h3⟩ := h
      have hp := parts_eval (ρ := ρ) (ds := ds) parts (fun p hp => hop p.2 (by simp [Op.operands]; exact ⟨p.1, by simpa using hp⟩))
      refine upon_value' (W' := W.alloc (.cells cs e)) (v := .slice (some ⟨W.heap.size, 0, none⟩) m m) ?_ ?_
      · have hsz : ¬ (m * i.size > 2 ^ 24) := by omega
        by_cases h0 : m * i.size = 0
        · have hzz : ((Array.range (m * i.size)).map ((#[] : Array Value)[· % (#[] : Array Value).size]!)) = (zrow z.cells.toList (m * i.size)).toArray := by rw [h0]; simp [zrow]
          simp only [execOp, Instr.buildSlice, Sem.run_bind, run_underlying hu, size_run hi, Result.andThen, Sem.run_ite, if_neg hsz, if_pos h0, Sem.run_pure, hzz, hp, h2, newRow, run_newObj]
          rfl
        · have hzz : ((Array.range (m * i.size)).map (z.cells[· % z.cells.size]!)) = (zrow z.cells.toList (m * i.size)).toArray :=
            zrow_eq z.cells _ (fun _ => by rw [hzs]; exact Nat.pos_of_ne_zero (fun e => h0 (by rw [e, Nat.mul_zero])))
          simp only [execOp, Instr.buildSlice, Sem.run_bind, run_underlying hu, size_run hi, Result.andThen, Sem.run_ite, if_neg hsz, if_neg h0, zero_run hi hz, Sem.run_pure, hzz, hp, h2, newRow, run_newObj]
          rfl
      · refine hK _ d _ _ ?_ (Le.refl d) (keep_alloc _ _) (h3 W.heap.size e)
        have := hOk.push (.cells cs e)
        simpa [bx] using this
    case makeSlice t a b =>
      split at hd <;> try cases hd
      rename_i e hu
      split at hd <;> try cases hd
      rename_i i hi
      split at hd <;> try cases hd
      rename_i z hz
      split at hd <;> try cases hd
      rename_i hzs
      obtain ⟨k, k', m, c, h1, h2, h3, h4, h5, h6⟩ := h
      refine upon_value' (W' := W.alloc (.cells (zrow z.cells.toList (c * i.size)).toArray e)) (v := .slice (some ⟨W.heap.size, 0, none⟩) m c) ?_ ?_
      · have hE1 := act_eval (ρ := ρ) (ds := ds) (hop a (by simp [Op.operands]))
        have hE2 := act_eval (ρ := ρ) (ds := ds) (hop b (by simp [Op.operands]))
        have hc63 : (c : Int) ≤ 9223372036854775807 := by simp only [maxLen] at h4; omega
        have w1 : IntKind.i64.wrap (m : Int) = m := by simp [IntKind.wrap, IntKind.signed, IntKind.bits]; omega
        have w2 : IntKind.i64.wrap (c : Int) = c := by simp [IntKind.wrap, IntKind.signed, IntKind.bits]; omega
        have hb : ¬ ((i.bytes : Int) * c > 2 ^ 48) := by
          have h5' : i.bytes * c ≤ 281474976710656 := h5
          have h5'' : ((i.bytes * c : Nat) : Int) ≤ 281474976710656 := by omega
          rw [Int.natCast_mul] at h5''
          have e48 : (2 : Int) ^ 48 = 281474976710656 := by decide
          rw [e48]; omega
        have ht : ((decide ((c : Int) < 0) || decide ((i.bytes : Int) * c > 2 ^ 48)) || decide ((m : Int) < 0) || decide ((m : Int) > c)) = false := by
          simp only [Bool.or_eq_false_iff, decide_eq_false_iff_not]
          refine ⟨⟨⟨by omega, hb⟩, by omega⟩, by omega⟩
        by_cases h0 : c * i.size = 0
        · have hzz : ((Array.range (c * i.size)).map ((#[] : Array Value)[· % (#[] : Array Value).size]!)) = (zrow z.cells.toList (c * i.size)).toArray := by rw [h0]; simp [zrow]
          simp only [execOp, Instr.makeSlice, Sem.run_bind, run_underlying hu, Result.andThen, hE1, hE2, h1, h2, asInt, asIntOf, Sem.run_ite, Sem.run_pure, info_run hi, size_run hi, w1, w2, ht, Bool.false_eq_true, if_false, if_pos h0, run_askRoom, Int.toNat_natCast, hzz, newRow, run_newObj]
          rfl
        · have hzz : ((Array.range (c * i.size)).map (z.cells[· % z.cells.size]!)) = (zrow z.cells.toList (c * i.size)).toArray :=
            zrow_eq z.cells _ (fun _ => by rw [hzs]; exact Nat.pos_of_ne_zero (fun e => h0 (by rw [e, Nat.mul_zero])))
          simp only [execOp, Instr.makeSlice, Sem.run_bind, run_underlying hu, Result.andThen, hE1, hE2, h1, h2, asInt, asIntOf, Sem.run_ite, Sem.run_pure, info_run hi, size_run hi, w1, w2, ht, Bool.false_eq_true, if_false, if_neg h0, zero_run hi hz, run_askRoom, Int.toNat_natCast, hzz, newRow, run_newObj]
          rfl
      · refine hK _ d _ _ ?_ (Le.refl d) (keep_alloc _ _) (h6 W.heap.size e)
        have := hOk.push (.cells (zrow z.cells.toList (c * i.size)).toArray e)
        simpa [bx] using this
    case panic x =>
      simp at hd; subst hd
      obtain ⟨t, v, h1, h2⟩ := h
      refine upon_panic' (v := .iface t v) ?_ (hP _ d L W hOk (Le.refl d) (Keep.refl W) h2)
      have hE := act_eval (ρ := ρ) (ds := ds) (hop x (by simp [Op.operands]))
      simp [execOp, hE, h1, Instr.panic]
    case call c =>
      obtain ⟨callee, args, ats⟩ := c
      cases callee with
      | value f =>
        cases f with
        | func f =>
          simp only at hd
          split at hd
          · split at hd
            · cases hd; exact absurd rfl hq
            · cases hd
          cases hd
          obtain ⟨L1, L2, R, hL, hc, hR⟩ := h
          refine contract f _ L1 L2 R hL hc hR ?_
          have ha := map_eval (ρ := ρ) (ds := ds) args (fun x hx => hop x (by simp [Op.operands, Call.operands, hx]))
          simp [execOp, resolve, Act.eval, Deferred.ofValue, invoke, ha, callFunc_run hc.1]
        | _ =>
          simp at hd; subst hd
          obtain ⟨f', first, cap, L1, L2, R, hf, hL, hc, hR⟩ := h
          refine contract f' _ L1 L2 R hL hc hR ?_
          have ha := map_eval (ρ := ρ) (ds := ds) args (fun x hx => hop x (by simp [Op.operands, Call.operands, hx]))
          have hfv := act_eval (ρ := ρ) (ds := ds) (hop _ (by simp [Op.operands, Call.operands]; exact Or.inl rfl))
          have hargs : first ++ (args.toList.map (ev ρ)).toArray ++ cap = (first.toList ++ args.toList.map (ev ρ) ++ cap.toList).toArray := by
            apply Array.ext'; simp
          simp only [execOp, resolve, Sem.run_bind, hfv, hf, Deferred.ofValue, Sem.run_pure, Result.andThen, invoke, ha, hargs, callFunc_run hc.1]
      | invoke r m => simp at hd
      | builtin b =>
        cases b <;> simp only at hd
        case append =>
          split at hd <;> try cases hd
          rename_i s x t t' h1 h2
          have ha : args = #[s, x] := by rw [← Array.toArray_toList (xs := args), h1]
          have hts : ats = #[t, t'] := by rw [← Array.toArray_toList (xs := ats), h2]
          subst ha; subst hts
          have hs := act_eval (ρ := ρ) (ds := ds) (hop s (by simp [Op.operands, Call.operands]))
          have hx := act_eval (ρ := ρ) (ds := ds) (hop x (by simp [Op.operands, Call.operands]))
          split at hd <;> try cases hd
          rename_i e e' hu hu'
          split at hd <;> try cases hd
          rename_i i hi
          split at hd <;> try cases hd
          rename_i z hz
          split at hd <;> try cases hd
          rename_i hsz
          simp only [not_or, Decidable.not_not] at hsz
          obtain ⟨hz0, hb0, hzs⟩ := hsz
          obtain ⟨sa, m, c, xa, m', xc, news, e1, e2, hl1, hone, hx0, hxc, hmax, hcmax, hfits, hgrows⟩ := h
          have hlk : ∀ k ∈ Lk ++ L, Sub k W := by
            intro k hk
            rcases List.mem_append.1 hk with hk | hk
            · exact hl k hk
            · exact hOk.2 k (by simp [hk])
          have hxc' : ∀ a', xa = some a' → ∀ j u, news[j]? = some u → W.cell? (a'.add j) = some u :=
            fun a' ha j u hj => (hxc a' ha j u hj).cell hOk.head hlk
          have hexec : ∀ (r : Result Value), (Builtin.append_ #[t, t'] type #[.slice sa m c, .slice xa m' xc]).run P W = r →
              (execOp (act n ρ ds).eval ⟨dst, .call ⟨.builtin .append, #[s, x], #[t, t']⟩, type, pos, after, guard⟩).run P W = r.andThen fun v W' => .ok (.value v) W' := by
            intro r hr
            simp [execOp, resolve, invoke, builtin, hs, hx, e1, e2, hr]
          rcases Nat.lt_or_ge c (m + m') with hlt | hge
          · obtain ⟨hby, olds, ho1, ho2, ho3, hK2⟩ := hgrows hlt
            have hoc : ∀ a', sa = some a' → ∀ j u, olds[j]? = some u → W.cell? (a'.add j) = some u :=
              fun a' ha j u hj => (ho3 a' ha j u hj).cell hOk.head hlk
            obtain ⟨c', hc1, hc2, hr⟩ := append_grows_run (ty := type) hu hu' hi hz hb0 hl1 ho1 hx0 hxc' ho2 hoc hlt hmax hby
            refine upon_value' (hexec _ hr) ?_
            rw [zeroCells_eq z.cells _ i.size hzs (by omega)]
            refine hK _ d _ _ ?_ (Le.refl d) ?_ (hK2 W.heap.size e c' hc1 hc2)
            · have e : (olds ++ news ++ zrow z.cells.toList ((c' - (m + m')) * i.size)).toArray = olds.toArray ++ news.toArray ++ (zrow z.cells.toList ((c' - (m + m')) * i.size)).toArray := by simp
              unfold bx
              rw [e]
              exact (hOk.drew).push _
            · exact ⟨rfl, rfl, rfl, by show W.heap.size ≤ (W.heap.push _).size; simp⟩
          · have hr := append_fits_run (ty := type) (n := m) (c := c) (sa := sa) (xc := xc) hu hu' hi hl1 hx0 hxc' hge
            rcases hfits hge with ⟨rfl, hk⟩ | ⟨j, b, o, T, l, rfl, hj, hol, hk⟩
            · have h0 : (match sa with | some a => (storeCells (a.add (m * i.size)) []).run P W | none => .ok () W) = .ok () W := by
                cases sa with
                | none => rfl
                | some a => simp [storeCells]
              rw [h0] at hr
              simp only [Result.andThen] at hr
              exact upon_value' (hexec _ hr) (hK _ d L W hOk (Le.refl d) (Keep.refl W) hk)
            · have hlen : o + m * i.size + news.length ≤ l.length := by rw [hl1]; rw [Nat.add_mul] at hol; omega
              obtain ⟨W', hst, ho, hkp⟩ := hOk.patched hj (o := o + m * i.size) (vs := news) hlen hone P
              simp only [Addr.add_lit, hst, Result.andThen] at hr
              exact upon_value' (hexec _ hr) (hK _ d _ W' ho (Le.refl d) hkp hk)
        all_goals first
          | (cases hd; done)
          | (exfalso; apply hq; split at hd <;> first | (cases hd; done) | (simp at hd; subst hd; rfl) | (split at hd <;> first | (cases hd; done) | (simp at hd; subst hd; rfl)))
    all_goals first
      | (cases hd; done)
      | (exfalso; apply hq; simp at hd; subst hd; rfl)
      | (exfalso; apply hq; simp at hd; obtain ⟨_, _, rfl⟩ := hd; rfl)
      | (exfalso; apply hq; split at hd <;> first | (cases hd; done) | (simp at hd; subst hd; rfl) | (simp at hd; obtain ⟨_, rfl⟩ := hd; rfl) | (simp at hd; obtain ⟨_, _, rfl⟩ := hd; rfl) | (split at hd <;> first | (cases hd; done) | (simp at hd; subst hd; rfl) | (simp at hd; obtain ⟨_, rfl⟩ := hd; rfl) | (simp at hd; obtain ⟨_, _, rfl⟩ := hd; rfl) | (split at hd <;> first | (cases hd; done) | (simp at hd; subst hd; rfl) | (simp at hd; obtain ⟨_, rfl⟩ := hd; rfl) | (simp at hd; obtain ⟨_, _, rfl⟩ := hd; rfl))))

end Go.Gk
