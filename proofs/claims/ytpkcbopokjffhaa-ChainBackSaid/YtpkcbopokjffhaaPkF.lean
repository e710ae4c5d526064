/-
  Our own texts, one behind the other: Gk29 Gk40 GkH1 GkH2 GkH3 GkH4 GkH5 GkHL GkHM GkHN GkHO GkH6 GkH7 GkH8.
-/
import Derived.BigFrame
import Derived.Test.YtpkcbopokjffhaaPkE
section
namespace Go.Gk
open Go

structure GFunD where
  n : Nat
  res : List GRes
  a : GCode
  fd : Nat
  g : FuncId
  caps : List Nat
  c : GCode
structure GFunV where
  n : Nat
  r : Nat
  t : Nat
  c : GCode
def capsOf (n : Nat) : List Operand → Option (List Nat)
  | [] => some []
  | .tmp t :: l => if t < n then (capsOf n l).map (t :: ·) else none
  | _ :: _ => none
def rslot : GRes → Nat
  | .tmp t => t
  | .cell t _ => t
def decDf (n : Nat) (ops : List Oper) : Option (Nat × FuncId × List Nat) :=
  match ops with
  | [o1, o2] => match o1.dst, o1.op, o1.guard, o2.dst, o2.op, o2.guard with
    | some fd, .makeFunc (.func g) first caps, none, none, .defer ⟨.value (.tmp fd'), args, _⟩, none =>
      if first.size = 0 ∧ args.size = 0 ∧ fd = fd' ∧ fd < n then (capsOf n caps.toList).map fun cs => (fd, g, cs) else none
    | _, _, _, _, _, _ => none
  | _ => none
def ifaceT (P : Program) (t : TypeId) : Bool := match P.underlying t with | some (.interface _) => true | _ => false
def decRv (P : Program) (n : Nat) (t : Nat) (ops : List Oper) : Option (Nat × TypeId) :=
  match ops with
  | [o1, o2] => match o1.dst, o1.op, o1.guard, o2.dst, o2.op, o2.guard with
    | some r, .call ⟨.builtin .recover, args, _⟩, none, some t', .binOp .neq ty (.tmp r') (.const .nilIface) _, none =>
      if args.size = 0 ∧ r = r' ∧ t = t' ∧ r < n ∧ t < n ∧ ifaceT P ty = true then some (r, ty) else none
    | _, _, _, _, _, _ => none
  | _ => none
def decD (pr : Bool) (P : Program) (f : FuncId) : Option GFunD :=
  match P.funcs[f]? with
  | some fn =>
    if fn.name == "runtime.NumGoroutine" || !P.follows .mixedOrders then none else
    match fn.body with
    | some (.seq a (.seq (.region _ ops false) c)) =>
      match decDf fn.ntmps ops.toList, fn.results.toList.mapM (decRes P fn.ntmps) with
      | some (fd, g, cs), some rs => if rs.all (fun r => !(dstsC c).contains (rslot r)) then some ⟨fn.ntmps, rs, decC pr P fn.ntmps a, fd, g, cs, decC pr P fn.ntmps c⟩ else none
      | _, _ => none
    | _ => none
  | none => none
def decV (pr : Bool) (P : Program) (f : FuncId) : Option GFunV :=
  match P.funcs[f]? with
  | some fn =>
    if fn.name == "runtime.NumGoroutine" || !P.follows .mixedOrders then none else
    match fn.body with
    | some (.seq (.region _ ops false) (.cond (.tmp t) x .skip)) => if fn.results.size = 0 then (decRv P fn.ntmps t ops.toList).map fun r => ⟨fn.ntmps, r.1, t, decC pr P fn.ntmps x⟩ else none
    | _ => none
  | none => none

theorem act_init {args : List Value} {n : Nat} (ha : args.length ≤ n) : ({ tmps := args.toArray ++ Array.replicate (n - args.toArray.size) undef, defers := [] } : Act) = act n (env0 args) [] := by
  simp only [act, Act.mk.injEq, and_true]
  apply Array.ext
  · simp at ha ⊢; omega
  · intro i h1 h2
    simp only [Array.getElem_ofFn, env0]
    by_cases hi : i < args.length
    · rw [Array.getElem_append_left (by simpa using hi)]; simp [hi]
    · rw [Array.getElem_append_right (by simpa using hi)]; simp [List.getD, List.getElem?_eq_none (Nat.le_of_not_lt hi)]
theorem resV_run {P : Program} {n : Nat} {fn : Func} {rs : List GRes} (hr : fn.results.toList.mapM (decRes P n) = some rs) {ρ : Env} {ds : List Deferred} {d : PHeap} {L F : List PHeap} {W : World} (hOk : Ok (d :: (L ++ F)) W) {vs : List Value} (h : resAll ρ (HC d L) rs vs) :
    (results fn (act n ρ ds).tmps).run P W = .ok (resV vs) W := by
  have hl : ∀ a v, HC d L a v → W.cell? a = some v := fun a v hc => hc.cell hOk.head (fun q hq => hOk.2 q (by simp [hq]))
  have := results_run (P := P) (n := n) (ρ := ρ) (ds := ds) hl fn.results.toList rs vs hr h
  rw [results_eq, Array.mapM_eq_mapM_toList]
  simp only [Sem.run_bind, Sem.run_map, this, Result.andThen, Sem.run_pure]
  cases vs with
  | nil => rfl
  | cons v vs => cases vs with
    | nil => rfl
    | cons v' vs => rfl
theorem results_kept {P : Program} {n : Nat} {fn : Func} {rs : List GRes} (hr : fn.results.toList.mapM (decRes P n) = some rs) {t1 t2 : Array Value} (h : ∀ r ∈ rs, t1[rslot r]? = t2[rslot r]?) : results fn t1 = results fn t2 := by
  rw [results_eq, results_eq, Array.mapM_eq_mapM_toList, Array.mapM_eq_mapM_toList]
  have : fn.results.toList.mapM (res1 t1) = fn.results.toList.mapM (res1 t2) := by
    revert h
    generalize fn.results.toList = l at *
    induction l generalizing rs with
    | nil => intro _; rfl
    | cons r l ih =>
      intro h
      simp only [List.mapM_cons, Option.bind_eq_bind, Option.bind_eq_some_iff, Option.pure_def, Option.some.injEq] at hr
      obtain ⟨g, hg, gs, hgs, rfl⟩ := hr
      simp only [List.mapM_cons, ih hgs (fun r hr => h r (List.mem_cons_of_mem _ hr))]
      have h0 := h g List.mem_cons_self
      have e : res1 t1 r = res1 t2 r := by
        cases r with
        | tmp t =>
          simp only [decRes] at hg
          split at hg <;> cases hg
          have h0 : t1[t]? = t2[t]? := h0
          simp only [res1, Array.getD_eq_getD_getElem?, h0]
        | cell t ty =>
          simp only [decRes] at hg
          split at hg <;> try cases hg
          simp only [Option.map_eq_some_iff] at hg
          obtain ⟨m, hm, rfl⟩ := hg
          have h0 : t1[t]? = t2[t]? := h0
          simp only [res1, Array.getD_eq_getD_getElem?, h0]
      rw [e]
  rw [this]

theorem capsOf_eval {n : Nat} {ρ : Env} {ds : List Deferred} : ∀ {l : List Operand} {cs : List Nat}, capsOf n l = some cs → l.map (act n ρ ds).eval = cs.map ρ
  | [], cs, h => by cases h; rfl
  | .tmp t :: l, cs, h => by
    simp only [capsOf] at h
    split at h <;> try cases h
    rename_i ht
    simp only [Option.map_eq_some_iff] at h
    obtain ⟨cs', h, rfl⟩ := h
    have e : (act n ρ ds).eval (.tmp t) = ρ t := act_eval (x := .tmp t) (by simpa [opndOk] using ht)
    simp only [List.map_cons, e, capsOf_eval h]
  | .const _ :: l, cs, h => by cases h
  | .global _ :: l, cs, h => by cases h
  | .func _ :: l, cs, h => by cases h


def isIf : Value → Bool
  | .iface _ _ => true
  | _ => false
theorem decRv_spec {P : Program} {n t : Nat} {ops : Array Oper} {r : Nat × TypeId} (h : decRv P n t ops.toList = some r) : ∃ o1 o2 ats y, ops = #[o1, o2] ∧ o1.dst = some r.1 ∧ o1.op = .call ⟨.builtin .recover, #[], ats⟩ ∧ o1.guard = none ∧ o2.dst = some t ∧ o2.op = .binOp .neq r.2 (.tmp r.1) (.const .nilIface) y ∧ o2.guard = none ∧ r.1 < n ∧ t < n ∧ ∃ m, P.underlying r.2 = some (.interface m) := by
  obtain ⟨ops⟩ := ops
  simp only [decRv] at h
  split at h <;> try cases h
  rename_i o1 o2
  split at h <;> try cases h
  rename_i h1 h2 h3 h4 h5 h6
  split at h <;> cases h
  rename_i hc
  obtain ⟨k1, k2, k3, k4, k5, k6⟩ := hc
  subst k2; subst k3
  have k1 := Array.eq_empty_of_size_eq_zero k1
  subst k1
  exact ⟨o1, o2, _, _, by simp_all, h1, h2, h3, h4, h5, h6, k4, k5, by unfold ifaceT at k6; split at k6 <;> first | exact ⟨_, ‹_›⟩ | cases k6⟩
theorem recover_run {P : Program} {o : Oper} {a : Act} {W : World} {ats : Array TypeId} (h : o.op = .call ⟨.builtin .recover, #[], ats⟩) : (execOp a.eval o).run P W = .ok .recover W := by
  simp [execOp, h, resolve, invoke, builtin, Result.andThen]
theorem equalIn_nilIface {P : Program} {t : TypeId} {m : Array (String × TypeId)} (h : P.underlying t = some (.interface m)) {v : Value} (hv : v = .nilIface ∨ ∃ t x, v = .iface t x) (d : Nat) (W : World) : (Op.equalIn (d + 1) t v .nilIface).run P W = .ok (!isIf v) W := by
  rcases hv with rfl | ⟨u, x, rfl⟩ <;> simp [Op.equalIn, run_underlying h, Result.andThen, isIf]
theorem equal_nilIface {P : Program} {t : TypeId} {m : Array (String × TypeId)} (h : P.underlying t = some (.interface m)) {v : Value} (hv : v = .nilIface ∨ ∃ t x, v = .iface t x) (W : World) : (Op.equal t v .nilIface).run P W = .ok (!isIf v) W := equalIn_nilIface h hv 9999 W
theorem neqn_run {P : Program} {o : Oper} {a : Act} {W : World} {r : Nat} {ty y : TypeId} (h : o.op = .binOp .neq ty (.tmp r) (.const .nilIface) y) {m : Array (String × TypeId)} (hm : P.underlying ty = some (.interface m)) {v : Value} (hv : a.eval (.tmp r) = v) (hk : v = .nilIface ∨ ∃ t x, v = .iface t x) : (execOp a.eval o).run P W = .ok (.value (.bool (isIf v))) W := by
  have hn : a.eval (.const .nilIface) = .nilIface := rfl
  generalize a.eval = e at hv hn
  have hq := equal_nilIface (P := P) hm hk W
  rcases hk with rfl | ⟨t, x, rfl⟩ <;> simp only [isIf] at hq <;> simp [execOp, h, hv, hn, binOp, eqGuard, hq, Result.andThen, isIf]


section
variable {pr : Bool} {P : Program}
theorem closure_top {n t : Nat} {ops : Array Oper} {r : Nat × TypeId} (hs : decRv P n t ops.toList = some r) {id : Nat} {a : Act} {cs cs' : List Frame} {W : World} {v : Value} {Q : Exit → Act → List Frame → World → Prop} (hv : v = .nilIface ∨ ∃ t x, v = .iface t x)
    (hr : recoverD cs = some (v, cs') ∨ (recoverD cs = none ∧ cs' = cs ∧ v = .nilIface)) (hn : a.tmps.size = n)
    (h : Q .normal ((a.put (some r.1) v).put (some t) (.bool (isIf v))) cs' W) : (Code.region id ops false).wpS P Q a cs W := by
  obtain ⟨o1, o2, ats, y, rfl, h1, h2, h3, h4, h5, h6, h7, h8, m, h9⟩ := decRv_spec hs
  apply wpS_region
  have e1 : ∀ ys, Region.wanted o1 ys = true := fun ys => by simp [Region.wanted, h3]
  have e2 : ∀ ys, Region.wanted o2 ys = true := fun ys => by simp [Region.wanted, h6]
  have hev : (a.put (some r.1) v).eval (.tmp r.1) = v := by
    simp [Act.eval, Act.put, hn, h7]
  have n2 := neqn_run (P := P) (W := W) h5 h9 hev hv
  have l : List.range (#[o1, o2] : Array Oper).size = [0, 1] := rfl
  rw [l]
  have g0 : (#[o1, o2] : Array Oper)[0]? = some o1 := rfl
  have g1 : (#[o1, o2] : Array Oper)[1]? = some o2 := rfl
  simp only [wpOpsS, g0, e1, if_true, recover_run h2, h1]
  rcases hr with hr | ⟨hr, rfl, rfl⟩
  · simp only [hr, g1, e2, if_true, n2, Oper.upon, h4]
    exact h
  · simp only [hr, g1, e2, if_true, n2, Oper.upon, h4]
    exact h

theorem act_put2 {n : Nat} {ρ : Env} {ds : List Deferred} {r t : Nat} (hr : r < n) (ht : t < n) (v w : Value) : ((act n ρ ds).put (some r) v).put (some t) w = act n (upd (upd ρ r v) t w) ds := by
  rw [act_put (d := some r) (fun _ e => by cases e; exact hr), act_put (d := some t) (fun _ e => by cases e; exact ht)]
  rfl
def clPost (K : PHeap → List PHeap → Prop) : GPost := { n := fun _ => K, ret := fun _ => K, ex := fun _ _ _ _ => False, pan := fun _ _ _ => False }
theorem closure_pan {f : FuncId} {g : GFunV} (hd : decV pr P f = some g) {args : List Value} (ha : args.length ≤ g.n) {F : List PHeap} {W : World} {d : PHeap} {L : List PHeap} {t : TypeId} {v : Value} {K : PHeap → List PHeap → Prop}
    (h : gwp P g.c (clPost K) (upd (upd (env0 args) g.r (.iface t v)) g.t (.bool true)) d L) (hOk : Ok (d :: (L ++ F)) W) :
    CallsD P f args.toArray (.panicking [{ v := .iface t v, recovered := false }]) W fun e u' w' => (∃ r, e = .returned r) ∧ settle u' = .returning ∧ ∃ d' L', Ok (d' :: (L' ++ F)) w' ∧ Le d d' ∧ Keep W w' ∧ K d' L' := by
  simp only [decV] at hd
  split at hd <;> try cases hd
  rename_i fn hf
  split at hd <;> try cases hd
  rename_i hn
  split at hd <;> try cases hd
  rename_i id ops tt x hb
  split at hd <;> try cases hd
  rename_i hz
  rw [Option.map_eq_some_iff] at hd
  obtain ⟨r, hr, rfl⟩ := hd
  simp only [Bool.or_eq_true, not_or, Bool.not_eq_true, Bool.not_eq_false'] at hn
  refine callsD_of_wpS hf hb fun c₀ cs hu => ?_
  rw [act_init ha]
  obtain ⟨o1, o2, ats, y, e0, h1, h2, h3, h4, h5, h6, h7, h8, m, h9⟩ := decRv_spec hr
  apply wpS_seq
  refine closure_top (cs' := { c₀ with mode := .panicking [{ v := .iface t v, recovered := true }] } :: cs) hr (.inr ⟨t, v, rfl⟩) (.inl ?_) (by simp [act]) ?_
  · simp [recoverD, hu]
  · rw [act_put2 h7 h8]
    simp only [Exit.thenS, isIf]
    refine wpS_cond (t := true) ?_ ?_
    · have e : (act fn.ntmps (upd (upd (env0 args) r.1 (.iface t v)) tt (.bool true)) []).eval (.tmp tt) = _ := act_eval (x := .tmp tt) (by simpa [opndOk] using h8)
      rw [e]; simp [ev, upd]
    simp only [if_true]
    refine wpS_of_wp (wp_mono (gwp_sound (ds := []) (F := F) (W0 := W) (d0 := d) (by simpa using hn.2) x _ _ d L W h hOk (Le.refl d) (Keep.refl W)) ?_)
    have hres : ∀ (tm : Array Value) (w : World), (results fn tm).run P w = .ok (.tuple #[]) w := by
      intro tm w
      have : fn.results = #[] := Array.eq_empty_of_size_eq_zero hz
      rw [results_eq, Array.mapM_eq_mapM_toList, this]; simp [Result.andThen]
    intro e a w hq
    cases e with
    | normal =>
      obtain ⟨ρ, d', L', rfl, k1, k2, k3, k4⟩ := hq
      exact ⟨rfl, _, rfl, _, hres _ _, ⟨_, rfl⟩, rfl, d', L', k1, k2, k3, k4⟩
    | ret =>
      obtain ⟨ρ, d', L', rfl, k1, k2, k3, k4⟩ := hq
      exact ⟨rfl, _, rfl, _, hres _ _, ⟨_, rfl⟩, rfl, d', L', k1, k2, k3, k4⟩
    | panic c => obtain ⟨_, _, _, _, _, _, hh⟩ := hq; exact hh.elim
    | exit i => obtain ⟨_, _, _, _, _, _, _, hh⟩ := hq; exact hh.elim
    | goto l => exact hq.elim
    | outgrown => exact hq.elim
theorem closure_ret {f : FuncId} {g : GFunV} (hd : decV pr P f = some g) {args : List Value} (ha : args.length ≤ g.n) {W : World} :
    CallsD P f args.toArray .returning W fun e u' w' => (∃ r, e = .returned r) ∧ u' = .returning ∧ w' = W := by
  simp only [decV] at hd
  split at hd <;> try cases hd
  rename_i fn hf
  split at hd <;> try cases hd
  rename_i hn
  split at hd <;> try cases hd
  rename_i id ops tt x hb
  split at hd <;> try cases hd
  rename_i hz
  rw [Option.map_eq_some_iff] at hd
  obtain ⟨r, hr, rfl⟩ := hd
  refine callsD_of_wpS hf hb fun c₀ cs hu => ?_
  rw [act_init ha]
  obtain ⟨o1, o2, ats, y, e0, h1, h2, h3, h4, h5, h6, h7, h8, m, h9⟩ := decRv_spec hr
  apply wpS_seq
  refine closure_top (v := .nilIface) (cs' := c₀ :: cs) hr (.inl rfl) (.inr ⟨?_, rfl, rfl⟩) (by simp [act]) ?_
  · simp [recoverD, hu]
  · rw [act_put2 h7 h8]
    simp only [Exit.thenS, isIf]
    refine wpS_cond (t := false) ?_ ?_
    · have e : (act fn.ntmps (upd (upd (env0 args) r.1 .nilIface) tt (.bool false)) []).eval (.tmp tt) = _ := act_eval (x := .tmp tt) (by simpa [opndOk] using h8)
      rw [e]; simp [ev, upd]
    simp only [Bool.false_eq_true, if_false]
    refine wpS_of_wp (wp_skip ?_)
    have : fn.results = #[] := Array.eq_empty_of_size_eq_zero hz
    refine ⟨rfl, .returning, by cases c₀; simp_all, .tuple #[], ?_, ⟨_, rfl⟩, rfl, rfl⟩
    rw [results_eq, Array.mapM_eq_mapM_toList, this]; simp [Result.andThen]

def clRun (P : Program) (res : List GRes) (v : GFunV) (R : Ending → PHeap → List PHeap → Prop) (caps : List Value) (ρ : Env) : GPost :=
  { n := retPost res R, ret := retPost res R, ex := fun _ _ _ _ => False,
    pan := fun ch d L => ∃ t x, ch = [{ v := .iface t x, recovered := false }] ∧ gwp P v.c (clPost (retPost res R ρ)) (upd (upd (env0 caps) v.r (.iface t x)) v.t (.bool true)) d L }
def clVal (g : FuncId) (caps : List Value) : Value := .func (.func g) #[] caps.toArray
def dPost (P : Program) (g : GFunD) (v : GFunV) (R : Ending → PHeap → List PHeap → Prop) : GPost :=
  { n := fun ρ d L => gwp P g.c (clRun P g.res v R (g.caps.map ρ) (upd ρ g.fd (clVal g.g (g.caps.map ρ)))) (upd ρ g.fd (clVal g.g (g.caps.map ρ))) d L,
    ret := fun _ _ _ => False, ex := fun _ _ _ _ => False, pan := fun _ _ _ => False }
theorem decDf_spec {n : Nat} {ops : Array Oper} {r : Nat × FuncId × List Nat} (h : decDf n ops.toList = some r) : ∃ o1 o2 caps ats, ops = #[o1, o2] ∧ o1.dst = some r.1 ∧ o1.op = .makeFunc (.func r.2.1) #[] caps ∧ o1.guard = none ∧ o2.dst = none ∧ o2.op = .defer ⟨.value (.tmp r.1), #[], ats⟩ ∧ o2.guard = none ∧ r.1 < n ∧ capsOf n caps.toList = some r.2.2 := by
  obtain ⟨ops⟩ := ops
  simp only [decDf] at h
  split at h <;> try cases h
  rename_i o1 o2
  split at h <;> try cases h
  rename_i h1 h2 h3 h4 h5 h6
  split at h <;> try cases h
  rename_i hc
  obtain ⟨k1, k2, k3, k4⟩ := hc
  simp only [Option.map_eq_some_iff] at h
  obtain ⟨cs, hcs, rfl⟩ := h
  subst k3
  have k1 := Array.eq_empty_of_size_eq_zero k1
  have k2 := Array.eq_empty_of_size_eq_zero k2
  subst k1; subst k2
  exact ⟨o1, o2, _, _, by simp_all, h1, h2, h3, h4, h5, h6, k4, hcs⟩
theorem GCallD_of {pr' : Bool} {f : FuncId} {g : GFunD} {v : GFunV} (hd : decD pr P f = some g) (hv : decV pr' P g.g = some v) {args : List Value} (ha : args.length ≤ g.n) (hcl : g.caps.length ≤ v.n) {d : PHeap} {L : List PHeap} {R : Ending → PHeap → List PHeap → Prop}
    (h : gwp P g.a (dPost P g v R) (env0 args) d L) : GCall P f args d L R := by
  simp only [decD] at hd
  split at hd <;> try cases hd
  rename_i fn hf
  split at hd <;> try cases hd
  rename_i hn
  split at hd <;> try cases hd
  rename_i A id ops C hb
  split at hd <;> try cases hd
  rename_i fd gg cs rs hdf hrs
  split at hd <;> cases hd
  rename_i hall
  simp only [Bool.or_eq_true, not_or, Bool.not_eq_true, Bool.not_eq_false'] at hn
  have hm : P.follows .mixedOrders = true := by simpa using hn.2
  obtain ⟨o1, o2, caps, ats, rfl, h1, h2, h3, h4, h5, h6, h7, h8⟩ := decDf_spec hdf
  simp only at h1 h2 h5 h7 h8 hv hcl ha h
  have hvc : Callable P gg := by
    simp only [decV] at hv
    split at hv <;> try cases hv
    rename_i fn' hf'
    split at hv <;> try cases hv
    rename_i hn'
    split at hv <;> try cases hv
    rename_i hb'
    simp only [Bool.or_eq_true, not_or, Bool.not_eq_true, Bool.not_eq_false'] at hn'
    exact ⟨fn', hf', by rw [hb']; rfl, hn'.1⟩
  refine ⟨⟨fn, hf, by rw [hb]; rfl, hn.1⟩, fun F W hOk => ?_⟩
  refine calls_of_wp_defers hf hb ?_
  rw [act_init ha]
  refine wp_seq (wp_mono (gwp_sound (ds := []) (F := F) (W0 := W) (d0 := d) hm A _ _ d L W h hOk (Le.refl d) (Keep.refl W)) ?_)
  intro e a w hq
  cases e with
  | panic c => obtain ⟨_, _, _, _, _, _, hh⟩ := hq; exact hh.elim
  | exit i => obtain ⟨_, _, _, _, _, _, _, hh⟩ := hq; exact hh.elim
  | ret => obtain ⟨_, _, _, _, _, _, _, hh⟩ := hq; exact hh.elim
  | goto l => exact hq.elim
  | outgrown => exact hq.elim
  | normal =>
  obtain ⟨ρ, d1, L1, rfl, k1, k2, k3, k4⟩ := hq
  simp only [dPost] at k4
  refine wp_seq (wp_region ?_)
  have l : List.range (#[o1, o2] : Array Oper).size = [0, 1] := rfl
  rw [l]
  have g0 : (#[o1, o2] : Array Oper)[0]? = some o1 := rfl
  have g1 : (#[o1, o2] : Array Oper)[1]? = some o2 := rfl
  have e1 : ∀ ys, Region.wanted o1 ys = true := fun ys => by simp [Region.wanted, h3]
  have e2 : ∀ ys, Region.wanted o2 ys = true := fun ys => by simp [Region.wanted, h6]
  have hcv : caps.map (act fn.ntmps ρ []).eval = (cs.map ρ).toArray := by
    have := capsOf_eval (ρ := ρ) (ds := []) h8
    exact Array.ext' (by rw [Array.toList_map, this])
  have x1 : ∀ w, (execOp (act fn.ntmps ρ []).eval o1).run P w = .ok (.value (clVal gg (cs.map ρ))) w := by
    intro w; simp [execOp, h2, Instr.makeFunc, Result.andThen, hcv, clVal]
  have hfd : (act fn.ntmps (upd ρ fd (clVal gg (cs.map ρ))) []).eval (.tmp fd) = clVal gg (cs.map ρ) := by
    rw [act_eval (x := .tmp fd) (by simpa [opndOk] using h7)]; simp [ev, upd]
  have x2 : ∀ w, (execOp (act fn.ntmps (upd ρ fd (clVal gg (cs.map ρ))) []).eval o2).run P w = .ok (.defer { target := .fn (.func gg) (cs.map ρ).toArray, args := #[] }) w := by
    intro w
    generalize (act fn.ntmps (upd ρ fd (clVal gg (cs.map ρ))) []).eval = e at hfd
    simp [execOp, h5, resolve, hfd, clVal, Deferred.ofValue, Result.andThen]
  have p1 : (act fn.ntmps ρ []).put o1.dst (clVal gg (cs.map ρ)) = act fn.ntmps (upd ρ fd (clVal gg (cs.map ρ))) [] := by
    rw [h1, act_put (d := some fd) (fun _ e => by cases e; exact h7)]; rfl
  simp only [wpOps_cons, wpOp, g0, e1, if_true]
  refine .inl ?_
  simp only [Oper.wp, x1, Oper.upon, p1, wpOps_cons, wpOp, g1, e2, if_true]
  refine .inl ?_
  simp only [x2, Oper.upon, h4]
  show Code.wp P C _ (act fn.ntmps (upd ρ fd (clVal gg (cs.map ρ))) [{ target := .fn (.func gg) (cs.map ρ).toArray, args := #[] }]) w
  have hlen : (cs.map ρ).length ≤ v.n := by simpa using hcl
  have hinv : ∀ w, (invoke (.fn (.func gg) (cs.map ρ).toArray) #[]).run P w = .ok (.enter gg (cs.map ρ).toArray) w := by
    intro w; simp [invoke, callFunc_run hvc]
  generalize hD : (⟨.fn (.func gg) (cs.map ρ).toArray, #[]⟩ : Deferred) = D
  refine wp_mono (gwp_soundK (ds := [D]) (F := F) (W0 := W) (d0 := d) hm (X := dstsC C) (a0 := act fn.ntmps (upd ρ fd (clVal gg (cs.map ρ))) [D]) C _ _ d1 L1 w (fun _ h => h) (fun _ _ => rfl) k4 k1 k2 k3) ?_
  subst hD
  have fin : ∀ a w, (∃ ρ' d' L', a = act fn.ntmps ρ' [⟨.fn (.func gg) (cs.map ρ).toArray, #[]⟩] ∧ Ok (d' :: (L' ++ F)) w ∧ Le d d' ∧ Keep W w ∧ retPost rs R ρ' d' L') →
      Leaves P fn a.tmps (fun e W' => ∃ d' L', Ok (d' :: (L' ++ F)) W' ∧ Le d d' ∧ Keep W W' ∧ R e d' L') a.defers .returning w := by
    rintro a w ⟨ρ', d', L', rfl, j1, j2, j3, vs, j4, d'', L'', j5, j6⟩
    refine leaves_cons (by simp) (hinv w) ((closure_ret hv hlen).mono ?_)
    rintro e u' w' ⟨⟨r, rfl⟩, rfl, rfl⟩
    exact ⟨resV vs, resV_run hrs j1 j4, d'', L'', j5.2 F w' j1, j2.trans j5.1, j3, j6⟩
  intro e a w hq
  cases e with
  | normal => exact fin a w hq.1
  | ret => exact fin a w hq.1
  | panic c =>
    obtain ⟨⟨m1, d', L', m2, m3, m4, t, x, rfl, m5⟩, m6⟩ := hq
    have m6 := m6.resolve_left (fun h => by cases h)
    show Leaves P fn a.tmps _ a.defers _ w
    rw [m1]
    refine leaves_cons (by simp) (hinv w) ((closure_pan hv hlen m5 m2).mono ?_)
    rintro e u' w' ⟨⟨r, rfl⟩, hs, d2, L2, q1, q2, q3, vs, q4, d3, L3, q5, q6⟩
    simp only [hs]
    refine ⟨resV vs, ?_, d3, L3, q5.2 F w' q1, (m3.trans q2).trans q5.1, m4.trans q3, q6⟩
    rw [results_kept hrs (t2 := (act fn.ntmps (upd ρ fd (clVal gg (cs.map ρ))) []).tmps) (fun r hr => ?_)]
    · exact resV_run hrs q1 q4
    · have := List.all_eq_true.1 hall r hr
      exact m6 _ (by simpa using this)
  | exit i => obtain ⟨⟨_, _, _, _, _, _, _, hh⟩, _⟩ := hq; exact hh.elim
  | goto l => exact hq.1.elim
  | outgrown => exact hq.1.elim
end
end Go.Gk
end

section
namespace Go.Gk
open Go
section
variable {pr : Bool} {P : Program}
theorem closure_plain {f : FuncId} {g : GFun} (hd : decG pr P f = some g) (hr : g.res = []) {args : List Value} (ha : args.length ≤ g.n) {F : List PHeap} {W : World} {d : PHeap} {L : List PHeap} {K : PHeap → List PHeap → Prop}
    (h : gwp P g.code (clPost K) (env0 args) d L) (hOk : Ok (d :: (L ++ F)) W) :
    CallsD P f args.toArray .returning W fun e u' w' => (∃ r, e = .returned r) ∧ u' = .returning ∧ ∃ d' L', Ok (d' :: (L' ++ F)) w' ∧ Le d d' ∧ Keep W w' ∧ K d' L' := by
  simp only [decG] at hd
  split at hd <;> try cases hd
  rename_i fn hf
  split at hd <;> try cases hd
  rename_i hn
  split at hd <;> try cases hd
  rename_i c hb
  rw [Option.map_eq_some_iff] at hd
  obtain ⟨rs, hrs, rfl⟩ := hd
  simp only at hr
  subst hr
  have hz : fn.results.size = 0 := by
    have : fn.results.toList.length = 0 := by
      cases e : fn.results.toList with
      | nil => rfl
      | cons r l =>
        rw [e, List.mapM_cons] at hrs
        simp only [Option.bind_eq_bind, Option.bind_eq_some_iff, Option.pure_def] at hrs
        obtain ⟨_, _, _, _, hh⟩ := hrs
        cases hh
    simpa using this
  simp only [Bool.or_eq_true, not_or, Bool.not_eq_true, Bool.not_eq_false'] at hn
  refine callsD_of_wpS hf hb fun c₀ cs hu => ?_
  rw [act_init ha]
  refine wpS_of_wp (wp_mono (gwp_sound (ds := []) (F := F) (W0 := W) (d0 := d) (by simpa using hn.2) c _ _ d L W h hOk (Le.refl d) (Keep.refl W)) ?_)
  have hres : ∀ (tm : Array Value) (w : World), (results fn tm).run P w = .ok (.tuple #[]) w := by
    intro tm w
    have : fn.results = #[] := Array.eq_empty_of_size_eq_zero hz
    rw [results_eq, Array.mapM_eq_mapM_toList, this]; simp [Result.andThen]
  intro e a w hq
  cases e with
  | normal =>
    obtain ⟨ρ, d', L', rfl, k1, k2, k3, k4⟩ := hq
    exact ⟨rfl, .returning, by cases c₀; simp_all, _, hres _ _, ⟨_, rfl⟩, rfl, d', L', k1, k2, k3, k4⟩
  | ret =>
    obtain ⟨ρ, d', L', rfl, k1, k2, k3, k4⟩ := hq
    exact ⟨rfl, .returning, by cases c₀; simp_all, _, hres _ _, ⟨_, rfl⟩, rfl, d', L', k1, k2, k3, k4⟩
  | panic c => obtain ⟨_, _, _, _, _, _, hh⟩ := hq; exact hh.elim
  | exit i => obtain ⟨_, _, _, _, _, _, _, hh⟩ := hq; exact hh.elim
  | goto l => exact hq.elim
  | outgrown => exact hq.elim
def nRun (P : Program) (res : List GRes) (v : GFun) (R : Ending → PHeap → List PHeap → Prop) (caps : List Value) : GPost :=
  { n := fun ρ d L => gwp P v.code (clPost (retPost res R ρ)) (env0 caps) d L, ret := fun ρ d L => gwp P v.code (clPost (retPost res R ρ)) (env0 caps) d L, ex := fun _ _ _ _ => False, pan := fun _ _ _ => False }
def nPost (P : Program) (g : GFunD) (v : GFun) (R : Ending → PHeap → List PHeap → Prop) : GPost :=
  { n := fun ρ d L => gwp P g.c (nRun P g.res v R (g.caps.map ρ)) (upd ρ g.fd (clVal g.g (g.caps.map ρ))) d L,
    ret := fun _ _ _ => False, ex := fun _ _ _ _ => False, pan := fun _ _ _ => False }
theorem GCallN_of {pr' : Bool} {f : FuncId} {g : GFunD} {v : GFun} (hd : decD pr P f = some g) (hv : decG pr' P g.g = some v) (hvr : v.res = []) {args : List Value} (ha : args.length ≤ g.n) (hcl : g.caps.length ≤ v.n) {d : PHeap} {L : List PHeap} {R : Ending → PHeap → List PHeap → Prop}
    (h : gwp P g.a (nPost P g v R) (env0 args) d L) : GCall P f args d L R := by
  simp only [decD] at hd
  split at hd <;> try cases hd
  rename_i fn hf
  split at hd <;> try cases hd
  rename_i hn
  split at hd <;> try cases hd
  rename_i A id ops C hb
  split at hd <;> try cases hd
  rename_i fd gg cs rs hdf hrs
  split at hd <;> cases hd
  rename_i hall
  simp only [Bool.or_eq_true, not_or, Bool.not_eq_true, Bool.not_eq_false'] at hn
  have hm : P.follows .mixedOrders = true := by simpa using hn.2
  obtain ⟨o1, o2, caps, ats, rfl, h1, h2, h3, h4, h5, h6, h7, h8⟩ := decDf_spec hdf
  simp only at h1 h2 h5 h7 h8 hv hcl ha h
  have hvc : Callable P gg := by
    have hv' := hv
    simp only [decG] at hv'
    split at hv' <;> try cases hv'
    rename_i fn' hf'
    split at hv' <;> try cases hv'
    rename_i hn'
    split at hv' <;> try cases hv'
    rename_i hb'
    simp only [Bool.or_eq_true, not_or, Bool.not_eq_true, Bool.not_eq_false'] at hn'
    exact ⟨fn', hf', by rw [hb']; rfl, hn'.1⟩
  refine ⟨⟨fn, hf, by rw [hb]; rfl, hn.1⟩, fun F W hOk => ?_⟩
  refine calls_of_wp_defers hf hb ?_
  rw [act_init ha]
  refine wp_seq (wp_mono (gwp_sound (ds := []) (F := F) (W0 := W) (d0 := d) hm A _ _ d L W h hOk (Le.refl d) (Keep.refl W)) ?_)
  intro e a w hq
  cases e with
  | panic c => obtain ⟨_, _, _, _, _, _, hh⟩ := hq; exact hh.elim
  | exit i => obtain ⟨_, _, _, _, _, _, _, hh⟩ := hq; exact hh.elim
  | ret => obtain ⟨_, _, _, _, _, _, _, hh⟩ := hq; exact hh.elim
  | goto l => exact hq.elim
  | outgrown => exact hq.elim
  | normal =>
  obtain ⟨ρ, d1, L1, rfl, k1, k2, k3, k4⟩ := hq
  simp only [nPost] at k4
  refine wp_seq (wp_region ?_)
  have l : List.range (#[o1, o2] : Array Oper).size = [0, 1] := rfl
  rw [l]
  have g0 : (#[o1, o2] : Array Oper)[0]? = some o1 := rfl
  have g1 : (#[o1, o2] : Array Oper)[1]? = some o2 := rfl
  have e1 : ∀ ys, Region.wanted o1 ys = true := fun ys => by simp [Region.wanted, h3]
  have e2 : ∀ ys, Region.wanted o2 ys = true := fun ys => by simp [Region.wanted, h6]
  have hcv : caps.map (act fn.ntmps ρ []).eval = (cs.map ρ).toArray := by
    have := capsOf_eval (ρ := ρ) (ds := []) h8
    exact Array.ext' (by rw [Array.toList_map, this])
  have x1 : ∀ w, (execOp (act fn.ntmps ρ []).eval o1).run P w = .ok (.value (clVal gg (cs.map ρ))) w := by
    intro w; simp [execOp, h2, Instr.makeFunc, Result.andThen, hcv, clVal]
  have hfd : (act fn.ntmps (upd ρ fd (clVal gg (cs.map ρ))) []).eval (.tmp fd) = clVal gg (cs.map ρ) := by
    rw [act_eval (x := .tmp fd) (by simpa [opndOk] using h7)]; simp [ev, upd]
  have x2 : ∀ w, (execOp (act fn.ntmps (upd ρ fd (clVal gg (cs.map ρ))) []).eval o2).run P w = .ok (.defer { target := .fn (.func gg) (cs.map ρ).toArray, args := #[] }) w := by
    intro w
    generalize (act fn.ntmps (upd ρ fd (clVal gg (cs.map ρ))) []).eval = e at hfd
    simp [execOp, h5, resolve, hfd, clVal, Deferred.ofValue, Result.andThen]
  have p1 : (act fn.ntmps ρ []).put o1.dst (clVal gg (cs.map ρ)) = act fn.ntmps (upd ρ fd (clVal gg (cs.map ρ))) [] := by
    rw [h1, act_put (d := some fd) (fun _ e => by cases e; exact h7)]; rfl
  simp only [wpOps_cons, wpOp, g0, e1, if_true]
  refine .inl ?_
  simp only [Oper.wp, x1, Oper.upon, p1, wpOps_cons, wpOp, g1, e2, if_true]
  refine .inl ?_
  simp only [x2, Oper.upon, h4]
  show Code.wp P C _ (act fn.ntmps (upd ρ fd (clVal gg (cs.map ρ))) [{ target := .fn (.func gg) (cs.map ρ).toArray, args := #[] }]) w
  have hlen : (cs.map ρ).length ≤ v.n := by simpa using hcl
  have hinv : ∀ w, (invoke (.fn (.func gg) (cs.map ρ).toArray) #[]).run P w = .ok (.enter gg (cs.map ρ).toArray) w := by
    intro w; simp [invoke, callFunc_run hvc]
  generalize hD : (⟨.fn (.func gg) (cs.map ρ).toArray, #[]⟩ : Deferred) = D
  refine wp_mono (gwp_sound (ds := [D]) (F := F) (W0 := W) (d0 := d) hm C _ _ d1 L1 w k4 k1 k2 k3) ?_
  subst hD
  have fin : ∀ a w, (∃ ρ' d' L', a = act fn.ntmps ρ' [⟨.fn (.func gg) (cs.map ρ).toArray, #[]⟩] ∧ Ok (d' :: (L' ++ F)) w ∧ Le d d' ∧ Keep W w ∧ gwp P v.code (clPost (retPost rs R ρ')) (env0 (cs.map ρ)) d' L') →
      Leaves P fn a.tmps (fun e W' => ∃ d' L', Ok (d' :: (L' ++ F)) W' ∧ Le d d' ∧ Keep W W' ∧ R e d' L') a.defers .returning w := by
    rintro a w ⟨ρ', d', L', rfl, j1, j2, j3, j4⟩
    refine leaves_cons (by simp) (hinv w) ((closure_plain hv hvr hlen j4 j1).mono ?_)
    rintro e u' w' ⟨⟨r, rfl⟩, rfl, d2, L2, q1, q2, q3, vs, q4, d3, L3, q5, q6⟩
    exact ⟨resV vs, resV_run hrs q1 q4, d3, L3, q5.2 F w' q1, (j2.trans q2).trans q5.1, j3.trans q3, q6⟩
  intro e a w hq
  cases e with
  | normal => exact fin a w hq
  | ret => exact fin a w hq
  | panic c => obtain ⟨_, _, _, _, _, _, hh⟩ := hq; exact hh.elim
  | exit i => obtain ⟨_, _, _, _, _, _, _, hh⟩ := hq; exact hh.elim
  | goto l => exact hq.elim
  | outgrown => exact hq.elim
end
end Go.Gk
end

section
namespace Go.Gk.Chn
open Go Go.Gk Go.Gk.Dev Go.Gk.Cch Go.Gk.Pgr Go.Gk.Node
attribute [local irreducible] gwp gws xwp

def takeL (s : PD) (l : List Int) : Nat → PD × List Int × Int
  | 0 => (s, l, 0)
  | n + 1 => if s.takeR.2.2 = 0 then takeL s.takeR.1 (l ++ [s.takeR.2.1]) n else (s.takeR.1, l, s.takeR.2.2)
def dropL (s : PD) (l : List Int) : PD := l.foldl (fun s k => (s.drop k).1) s
def takenF (s : PD) (n : Nat) : PD × List Int × Int := if (takeL s [] n).2.2 = 0 then takeL s [] n else (dropL (takeL s [] n).1 (takeL s [] n).2.1, [], (takeL s [] n).2.2)
theorem takeR_rng {s : PD} (hG : Pgr.Good s) : 0 ≤ s.takeR.2.1 ∧ s.takeR.2.1 ≤ 16384 := by
  unfold PD.takeR
  cases h : place0 0 s.kinds with
  | none => show 0 ≤ (0 : Int) ∧ (0 : Int) ≤ 16384; decide
  | some i =>
    obtain ⟨h1, -⟩ := place0_some h
    have := hG.inn
    have := hG.syn
    show 0 ≤ ((s.frm + i : Nat) : Int) ∧ ((s.frm + i : Nat) : Int) ≤ 16384
    omega
def TakenOk (P : Program) (f : FuncId) : Prop := ∀ {d : PHeap} {s : PD} {dv pv : Value} {L : List PHeap} {n : Nat}, Pg d s dv pv L → n ≤ 8192 →
  GCall P f [pv, .int .i64 n] d L (Ret fun r d' L' => Le d d' ∧ ∃ v, r = .tuple #[v, .int .i64 (takenF s n).2.2] ∧ RInts d' v (takenF s n).2.1 ∧ Pg d' (takenF s n).1 dv pv L')
theorem taken_vs (d a b c h : PHeap) (L : List PHeap) : Vs d (a :: b :: c :: h :: L) (join d h) L := (Vs.drop (.cons _ (.cons _ (.cons _ (List.Sublist.refl _))))).trans Vs.freeze
theorem dropL_snoc {s : PD} {l : List Int} {k : Int} : dropL s (l ++ [k]) = ((dropL s l).drop k).1 := by simp [dropL]
def g_chain_taken (f_chain_taken_1 f_pager_Pager_Take : Nat) : GFunD :=
 ⟨27, [(.cell 4 none), (.cell 5 none)],
 (.reg false (.op false ⟨(some 2), none, (.box (.tmp 0))⟩
  (.op false ⟨(some 4), none, (.alo (.slice none 0 0))⟩
  (.op false ⟨(some 5), none, (.alo (.int .i64 0))⟩ .done)))), 8, f_chain_taken_1, [5, 4, 2],
 (.seq (.seq
 (.reg false (.op false ⟨(some 9), none, (.mv (.tmp 1))⟩
  (.op false ⟨(some 10), none, (.mv (.const (.int .i64 0)))⟩ .done))) (.block 0 (.loop
 (.seq
 (.reg false (.op false ⟨(some 11), none, (.bin .lss (.tmp 10) (.tmp 9))⟩ .done))
 (.seq (.cond (.tmp 11) .skip (.exit 0))
 (.seq (.block 1
 (.seq
 (.reg false (.op false ⟨(some 13), none, (.ld none (.tmp 2))⟩
  (.op false ⟨(some 14), none, (.call f_pager_Pager_Take [(.tmp 13)])⟩
  (.op false ⟨(some 12), none, (.mv (.tmp 14))⟩
  (.op false ⟨(some 15), none, (.ext (.tmp 12) 0)⟩
  (.op false ⟨(some 16), none, (.ext (.tmp 12) 1)⟩
  (.op false ⟨(some 6), none, (.mv (.tmp 15))⟩
  (.op false ⟨(some 7), none, (.mv (.tmp 16))⟩ .done))))))))
 (.seq (.seq
 (.reg false (.op false ⟨(some 17), none, (.mv (.tmp 7))⟩
  (.op false ⟨(some 18), none, (.bin .neq (.tmp 17) (.const (.int .i64 0)))⟩ .done))) (.cond (.tmp 18)
 (.seq
 (.reg false (.op false ⟨(some 19), none, (.ld none (.tmp 4))⟩
  (.op false ⟨(some 20), none, (.mv (.tmp 7))⟩
  (.op false ⟨none, none, (.st 1 (.tmp 4) (.tmp 19))⟩
  (.op false ⟨none, none, (.st 1 (.tmp 5) (.tmp 20))⟩ .done))))) .ret) .skip))
 (.reg false (.op false ⟨(some 21), none, (.ld none (.tmp 4))⟩
  (.op false ⟨(some 22), none, (.mv (.tmp 6))⟩
  (.op false ⟨(some 23), none, (.bsl 1 1 [(.int .i64 0)] [(0, (.tmp 22))])⟩
  (.op false ⟨(some 24), none, (.app 1 8 [(.int .i64 0)] (.tmp 21) (.tmp 23))⟩
  (.op false ⟨none, none, (.st 1 (.tmp 4) (.tmp 24))⟩ .done)))))))))
 (.reg false (.op false ⟨(some 25), none, (.bin .add (.tmp 10) (.const (.int .i64 1)))⟩
  (.op false ⟨(some 10), none, (.mv (.tmp 25))⟩ .done)))))))))
 (.seq
 (.reg false (.op false ⟨(some 26), none, (.ld none (.tmp 4))⟩
  (.op false ⟨none, none, (.st 1 (.tmp 4) (.tmp 26))⟩
  (.op false ⟨none, none, (.st 1 (.tmp 5) (.const (.int .i64 0)))⟩ .done)))) .ret))⟩

def g_chain_taken_1 (f_pager_Pager_Drop : Nat) : GFun :=
 ⟨17, [],
 (.seq
 (.reg false (.op false ⟨(some 5), none, (.ld none (.tmp 0))⟩
  (.op false ⟨(some 6), none, (.bin .neq (.tmp 5) (.const (.int .i64 0)))⟩ .done))) (.cond (.tmp 6)
 (.seq (.seq
 (.reg false (.op false ⟨(some 7), none, (.ld none (.tmp 1))⟩
  (.op false ⟨(some 8), none, (.len (.tmp 7))⟩
  (.op false ⟨(some 9), none, (.mv (.const (.int .i64 0)))⟩ .done)))) (.block 0 (.loop
 (.seq
 (.reg false (.op false ⟨(some 10), none, (.bin .lss (.tmp 9) (.tmp 8))⟩ .done))
 (.seq (.cond (.tmp 10) .skip (.exit 0))
 (.seq (.block 1
 (.seq
 (.reg false (.op false ⟨(some 11), none, (.idx 1 (.tmp 7) (.tmp 9))⟩
  (.op false ⟨(some 12), none, (.ld none (.tmp 11))⟩
  (.op false ⟨(some 4), none, (.mv (.tmp 12))⟩ .done))))
 (.reg false (.op false ⟨(some 13), none, (.ld none (.tmp 2))⟩
  (.op false ⟨(some 14), none, (.mv (.tmp 4))⟩
  (.op false ⟨(some 15), none, (.call f_pager_Pager_Drop [(.tmp 13), (.tmp 14)])⟩ .done))))))
 (.reg false (.op false ⟨(some 16), none, (.bin .add (.tmp 9) (.const (.int .i64 1)))⟩
  (.op false ⟨(some 9), none, (.mv (.tmp 16))⟩ .done)))))))))
 (.reg false (.op false ⟨none, none, (.st 1 (.tmp 1) (.const (.slice none 0 0)))⟩ .done))) .skip))⟩

def TkClOk (P : Program) (f : FuncId) : Prop := ∃ f3, dec P f = some (g_chain_taken_1 f3) ∧ DropOk P f3
theorem tkcl_ok {P : Program} {f f3 : FuncId} (hd : dec P f = some (g_chain_taken_1 f3)) (h : DropOk P f3) : TkClOk P f := ⟨f3, hd, h⟩
set_option maxRecDepth 4000 in
set_option maxHeartbeats 1000000 in
theorem taken_ok {P : Program} {f f1 f2 : FuncId} (hd : decD false P f = some (g_chain_taken f1 f2)) (h0 : TkClOk P f1) (h1 : TakeOk P f2) : TakenOk P f := by
  obtain ⟨f3, hv, h2⟩ := h0
  intro d s dv pv L n hp hn
  obtain ⟨bp, rfl⟩ := hp.ptr
  refine GCallN_of hd hv rfl (Nat.le_of_ble_eq_true rfl) (Nat.le_of_ble_eq_true rfl) ?_
  show gwp P _ _ _ _ _
  (apply w_reg)
  refine w_box rfl (fun b2 T2 => ?_)
  refine w_alo (fun b4 T4 => ?_)
  refine w_alo (fun b5 T5 => ?_)
  refine w_doneE ⟨d, bx b5 T5 [.int .i64 0] :: bx b4 T4 [.slice none 0 0] :: bx b2 T2 [.pointer (some ⟨bp, 0, none⟩)] :: emp :: L, (Vs.emp (L := _)).trans (Vs.perm ((List.Perm.swap _ _ _).trans (List.Perm.cons _ ((List.Perm.swap _ _ _).trans (List.Perm.cons _ (List.Perm.swap _ _ _)))))), ?_⟩
  show gwp P _ _ _ _ _
  (apply w_sq; apply w_sq; apply w_reg; apply w_mvi; rfl; apply w_mvi; rfl; apply w_done0; apply w_block)
  refine w_loopS (α := Nat × PD × List Int × Option Addr × Nat) (fun x => [(2, .pointer (some ⟨b2, 0, none⟩)), (4, .pointer (some ⟨b4, 0, none⟩)), (5, .pointer (some ⟨b5, 0, none⟩)), (9, .int .i64 n), (10, .int .i64 x.1)])
    (fun x d' L' => Le d d' ∧ x.1 ≤ n ∧ takeL s [] n = takeL x.2.1 x.2.2.1 (n - x.1) ∧ x.2.2.1.length = x.1 ∧ ∃ hv L3, L' = bx b5 T5 [.int .i64 0] :: bx b4 T4 [.slice x.2.2.2.1 x.2.2.1.length x.2.2.2.2] :: bx b2 T2 [.pointer (some ⟨bp, 0, none⟩)] :: hv :: L3 ∧
      GRow 1 RInt d' (.slice x.2.2.2.1 x.2.2.1.length x.2.2.2.2) x.2.2.1 hv ∧ Pg d' x.2.1 dv (.pointer (some ⟨bp, 0, none⟩)) L3)
    (fun x => n - x.1) (0, s, [], none, 0) ⟨rfl, rfl, rfl, rfl, rfl, trivial⟩ ⟨Le.refl _, Nat.zero_le _, rfl, rfl, emp, L, rfl, GRow.nil, hp⟩ ?_
  rintro ⟨i, s1, l, va, vc⟩ ρ d' L' ⟨hle, hi, hT, hll, hv, L3, rfl, hrow, hp1⟩
  simp only at hi hT hll hrow hp1 ⊢
  by_cases e : i < n
  · have hni : n - i = (n - (i + 1)) + 1 := by omega
    rw [hni, takeL] at hT
    (apply w_sq; apply w_reg; apply w_lss; rfl; rfl; apply w_done0; apply w_sq; refine w_ifdT rfl (by omega) ?_; apply w_skip; apply w_sq; apply w_block; apply w_sq; apply w_reg; apply w_ld; rfl; exact hc_i 2 rfl rfl)
    refine w_callQ (h1 hp1) (List.perm_append_comm (l₁ := [_, _, _, _])) rfl (fun u d2 L2 hl2 ⟨q1, hp2⟩ => ?_)
    subst q1
    refine ⟨d2, _ :: _ :: _ :: _ :: L2, Vs.perm (List.perm_append_comm (l₂ := [_, _, _, _])), ?_⟩
    have hrow2 : GRow 1 RInt d2 (.slice va l.length vc) l hv := GRow.mono (R := RInt) mono_int hrow hl2
    by_cases hz : s1.takeR.2.2 = 0
    · rw [if_pos hz] at hT
      (apply w_mvu; rfl; apply w_ext; rfl; rfl; apply w_ext; rfl; rfl; apply w_mvi; rfl; apply w_mvi; rfl; apply w_done0; apply w_sq; apply w_sq; apply w_reg; apply w_mvi; rfl; apply w_neq; rfl; rfl; apply w_done0; refine w_ifdF rfl (by omega) ?_; apply w_skip; apply w_reg; apply w_ld; rfl; exact hc_i 1 rfl rfl; apply w_mvi; rfl)
      have hrg := takeR_rng hp1.good
      refine w_bs1 (v0 := .int .i64 s1.takeR.2.1) rfl rfl (fun b3 T3 => ?_)
      refine w_appL (R := RInt) 3 rfl rfl hrow2 rfl (GRow.lit1 (x := s1.takeR.2.1) rfl ⟨rfl, by omega, by omega⟩) cell1_int (by omega) (by simp; omega) (by simp; omega) (fun v' h' ho' => ?_)
      obtain ⟨va', vc', rfl⟩ := ho'.val
      refine w_stE 1 [.slice va' (l ++ [s1.takeR.2.1]).length vc'] rfl rfl rfl rfl (Nat.le_refl _) rfl rfl ?_
      (apply w_done0; apply w_reg; apply w_add; rfl; rfl; omega; omega; apply w_mvi; rfl; apply w_done0)
      exact ⟨(i + 1, s1.takeR.1, l ++ [s1.takeR.2.1], va', vc'), by simp only; omega, ⟨rfl, rfl, rfl, rfl, rfl, trivial⟩, hle.trans hl2, e, hT, by simp only [List.length_append, List.length_cons, List.length_nil]; omega, h', L2, rfl, ho', hp2⟩
    · rw [if_neg hz] at hT
      (apply w_mvu; rfl; apply w_ext; rfl; rfl; apply w_ext; rfl; rfl; apply w_mvi; rfl; apply w_mvi; rfl; apply w_done0; apply w_sq; apply w_sq; apply w_reg; apply w_mvi; rfl; apply w_neq; rfl; rfl; apply w_done0; refine w_ifdT rfl (by omega) ?_; apply w_sq; apply w_reg; apply w_ld; rfl; exact hc_i 1 rfl rfl; apply w_mvi; rfl)
      refine w_stE 1 [.slice va l.length vc] rfl rfl rfl rfl (Nat.le_refl _) rfl rfl ?_
      refine w_stE 0 [.int .i64 s1.takeR.2.2] rfl rfl rfl rfl (Nat.le_refl _) rfl rfl ?_
      have hF : takenF s n = (dropL s1.takeR.1 l, [], s1.takeR.2.2) := by unfold takenF; rw [hT, if_neg hz]
      rw [hF]
      have hbl : (s1.takeR.1).kinds.length ≤ 8192 := hp2.good.len
      (apply w_done0; apply w_ret; apply w_sq; apply w_reg; apply w_ld; rfl; exact hc_i 0 rfl rfl; apply w_neq; rfl; rfl; apply w_done0; refine w_ifdT rfl (by omega) ?_; apply w_sq; apply w_sq; apply w_reg; apply w_ld; rfl; exact hc_i 1 rfl rfl; apply w_len; rfl; apply w_mvi; rfl; apply w_done0; apply w_block)
      show gwp P _ _ _ _ _
      skip
      refine w_loopS (α := Nat) (fun i => [(1, .pointer (some ⟨b4, 0, none⟩)), (2, .pointer (some ⟨b2, 0, none⟩)), (7, .slice va l.length vc), (8, .int .i64 l.length), (9, .int .i64 i)])
        (fun i d' L' => Le d2 d' ∧ i ≤ l.length ∧ ∃ L4, L' = bx b5 T5 [.int .i64 s1.takeR.2.2] :: bx b4 T4 [.slice va l.length vc] :: bx b2 T2 [.pointer (some ⟨bp, 0, none⟩)] :: hv :: L4 ∧ Pg d' (dropL s1.takeR.1 (l.take i)) dv (.pointer (some ⟨bp, 0, none⟩)) L4)
        (fun i => l.length - i) 0 ⟨rfl, rfl, rfl, rfl, rfl, trivial⟩ ⟨Le.refl _, Nat.zero_le _, L2, rfl, hp2⟩ ?_
      rintro j ρ d' L' ⟨hle', hj, L4, rfl, hp4⟩
      by_cases ej : j < l.length
      · have hn' : dropL s1.takeR.1 (l.take (j + 1)) = ((dropL s1.takeR.1 (l.take j)).drop l[j]).1 := by rw [List.take_succ_eq_append_getElem ej, dropL_snoc]
        obtain ⟨b1, T1, l1, c1, cs, q1, rfl, hcl, hcs, hle1, ⟨rfl, hb1, hb2⟩, -⟩ := GRow.at (by omega) hrow ej
        cases q1
        have c0 := hcs 0 _ rfl
        (apply w_sq; apply w_reg; apply w_lss; rfl; rfl; apply w_done0; apply w_sq; refine w_ifdT rfl (by omega) ?_; apply w_skip; apply w_sq; apply w_block; apply w_sq; apply w_reg; refine w_idxN _ rfl rfl rfl (by omega) ?_; apply w_ld; rfl; exact hc_i 3 rfl (by assumption); apply w_mvi; rfl; apply w_done0; apply w_reg; apply w_ld; rfl; exact hc_i 2 rfl rfl; apply w_mvi; rfl)
        refine w_callQ (h2 (k := l[j]) hp4) (List.perm_append_comm (l₁ := [_, _, _, _])) rfl (fun u d5 L5 hl5 ⟨q1, hp5⟩ => ?_)
        subst q1
        refine ⟨d5, _ :: _ :: _ :: _ :: L5, Vs.perm (List.perm_append_comm (l₂ := [_, _, _, _])), ?_⟩
        (apply w_done0; apply w_reg; apply w_add; rfl; rfl; omega; omega; apply w_mvi; rfl; apply w_done0)
        exact ⟨j + 1, by omega, ⟨rfl, rfl, rfl, rfl, rfl, trivial⟩, hle'.trans hl5, ej, L5, rfl, by rw [hn']; exact hp5⟩
      · have : j = l.length := by omega
        subst this
        rw [List.take_length] at hp4
        (apply w_sq; apply w_reg; apply w_lss; rfl; rfl; apply w_done0; apply w_sq; refine w_ifdF rfl (by omega) ?_; apply w_exit; apply w_reg)
        refine w_stE 1 [.slice none 0 0] rfl rfl rfl rfl (Nat.le_refl _) rfl rfl ?_
        (apply w_done0)
        exact finV [.slice none 0 0, .int .i64 s1.takeR.2.2] ⟨⟨_, _, rfl, hc_i 1 rfl rfl⟩, ⟨_, _, rfl, hc_i 0 rfl rfl⟩, trivial⟩ (d' := d') (L' := L4) (Vs.drop (.cons _ (.cons _ (.cons _ (.cons _ (List.Sublist.refl _)))))) ⟨(hle.trans hl2).trans hle', _, rfl, RSl.nil, hp4⟩
  · have : i = n := by omega
    subst this
    rw [Nat.sub_self, takeL] at hT
    have hF : takenF s i = (s1, l, 0) := by unfold takenF; rw [hT, if_pos rfl]
    rw [hF]
    (apply w_sq; apply w_reg; apply w_lss; rfl; rfl; apply w_done0; apply w_sq; refine w_ifdF rfl (by omega) ?_; apply w_exit; apply w_sq; apply w_reg; apply w_ld; rfl; exact hc_i 1 rfl rfl)
    refine w_stE 1 [.slice va l.length vc] rfl rfl rfl rfl (Nat.le_refl _) rfl rfl ?_
    refine w_stE 0 [.int .i64 0] rfl rfl rfl rfl (Nat.le_refl _) rfl rfl ?_
    (apply w_done0; apply w_ret; apply w_sq; apply w_reg; apply w_ld; rfl; exact hc_i 0 rfl rfl; apply w_neq; rfl; rfl; apply w_done0; refine w_ifdF rfl (by omega) ?_; apply w_skip)
    exact finV [.slice va l.length vc, .int .i64 0] ⟨⟨_, _, rfl, hc_i 1 rfl rfl⟩, ⟨_, _, rfl, hc_i 0 rfl rfl⟩, trivial⟩ (d' := join d' hv) (L' := L3) (taken_vs _ _ _ _ _ _) ⟨hle.trans (Le.join_left _ _), _, rfl, GRow.rsl (R := RInt) (sz := 1) hrow mono_int (by omega) (Le.join_left _ _) (Le.join_right _ _), hp1.mono (Le.join_left _ _)⟩
end Go.Gk.Chn
end

section
namespace Go.Gk.Chn
open Go Go.Gk Go.Gk.Dev Go.Gk.Cch Go.Gk.Pgr Go.Gk.Node
section
variable {P : Program} {pan : List PanicEntry → Post} {Qn : Env → Post} {Ls L : List PHeap} {ρ : Env} {d : PHeap} {s : GS} {t : Nat} {tk : Bool}
theorem w_cpyB {x y : Operand} {b o n c i : Nat} {T : TypeId} {ls : List Value} {w : Value} {l : List UInt8} {t : Option Nat} (ex : ev ρ x = .slice (some ⟨b, o, none⟩) n c) (ey : ev ρ y = w) (hw : RBytes d w l) (hi : L[i]? = some (bx b T ls)) (hn : o + n ≤ ls.length)
    (h : gws P pan Qn s Ls (put ρ t (.int .i64 ((min l.length n : Nat) : Int))) d (L.set i (bx b T (patch ls o ((l.take n).map byteV))))) : gws P pan Qn (.op false ⟨t, none, .mop (.cpy 1 x y)⟩ s) Ls ρ d L := by
  obtain ⟨a, c', b', o', rfl, h2, h3, h4, h5, h6, h7, h8⟩ := hw
  refine ⟨d, L, Vs.refl d L, ?_⟩
  simp only [gop, gi, mi]
  refine ⟨_, n, c, a, l.length, c', (l.take n).map byteV, ex, ey, by simp [Nat.min_comm], oneCell_bytes _, fun e => ?_, fun a' ha j u hu => ?_, .inr ⟨i, b, o, T, ls, rfl, hi, by simp; omega, d, _, Vs.refl d _, h⟩⟩
  · have : l = [] := List.eq_nil_of_length_eq_zero (by have := h4 e; omega)
    subst this; simp
  · rw [List.getElem?_map, List.getElem?_take] at hu
    split at hu
    · cases q : l[j]? with
      | none => rw [q] at hu; cases hu
      | some y =>
        rw [q] at hu
        cases hu
        obtain ⟨hj, rfl⟩ := List.getElem?_eq_some_iff.1 q
        obtain ⟨cs, j1, j2, j3⟩ := h8 j hj
        obtain rfl := j3
        have ha2 := h2 (by omega)
        rw [ha] at ha2
        cases ha2
        have h9 := j2.at (i := 0) rfl
        have h0 : HC d (Ls ++ L ++ L) ⟨b', o' + j, none⟩ (byteV l[j]) := hc_d (by simpa using h9)
        have ea : (⟨b', o', none⟩ : Addr).add j = ⟨b', o' + j, none⟩ := by
          unfold Addr.add; simp
        rw [ea]; exact h0
    · cases hu
theorem w_slaFrom {x y : Operand} {b len : Nat} {kk : IntKind} (k : Nat) (ex : ev ρ x = .pointer (some ⟨b, 0, none⟩)) (ey : ev ρ y = .int kk (k : Nat)) (hk : k < len) (h : gws P pan Qn s Ls (upd ρ t (.slice (some ⟨b, k, none⟩) (len - k) (len - k))) d L) :
    gws P pan Qn (.op tk ⟨some t, none, .sla len 1 x (some y) none none⟩ s) Ls ρ d L := by
  refine w_q rfl ⟨b, 0, k, len, len, ex, ?_, rfl⟩ ?_
  · simp only [cutV, cutM, cutH, cutL, Option.bind_some, Option.map_some, Option.map_none, ey, bnd]
    have : k ≤ len := by omega
    simp [this]
  · rw [if_neg (by omega)]; simpa using h
theorem w_slaAll {x : Operand} {b len : Nat} (ex : ev ρ x = .pointer (some ⟨b, 0, none⟩)) (hk : 0 < len) (h : gws P pan Qn s Ls (upd ρ t (.slice (some ⟨b, 0, none⟩) len len)) d L) :
    gws P pan Qn (.op tk ⟨some t, none, .sla len 1 x none none none⟩ s) Ls ρ d L := by
  refine w_q rfl ⟨b, 0, 0, len, len, ex, ?_, rfl⟩ ?_
  · simp [cutV, cutM, cutH, cutL]
  · rw [if_neg (by omega)]; simpa using h
end
attribute [local irreducible] gwp gws xwp

def pagesN (n : Nat) : Nat := max 1 ((n + 253) / 254)
def PagesOk (P : Program) (f : FuncId) : Prop := ∀ {d : PHeap} {n : Nat}, n ≤ 1000000 → GPure P f [.int .i64 n] d (.int .i64 (pagesN n))
def g_chain_Pages : GFun :=
 ⟨10, [(.tmp 2)],
 (.seq
 (.reg false (.op false ⟨(some 2), none, (.mv (.const (.int .i64 0)))⟩ .done))
 (.seq (.seq
 (.reg false (.op false ⟨(some 3), none, (.mv (.tmp 0))⟩
  (.op false ⟨(some 4), none, (.bin .lss (.tmp 3) (.const (.int .i64 0)))⟩ .done))) (.cond (.tmp 4)
 (.seq
 (.reg false (.op false ⟨(some 2), none, (.mv (.const (.int .i64 0)))⟩ .done)) .ret) .skip))
 (.seq
 (.reg false (.op false ⟨(some 5), none, (.mv (.tmp 0))⟩
  (.op false ⟨(some 6), none, (.bin .sub (.tmp 5) (.const (.int .i64 1)))⟩
  (.op false ⟨(some 7), none, (.bin .quo (.tmp 6) (.const (.int .i64 254)))⟩
  (.op false ⟨(some 8), none, (.bin .add (.tmp 7) (.const (.int .i64 1)))⟩
  (.op false ⟨(some 9), none, (.mx2 (.const (.int .i64 1)) (.tmp 8))⟩
  (.op false ⟨(some 2), none, (.mv (.tmp 9))⟩ .done))))))) .ret)))⟩

theorem pages_eq {n : Nat} : max (1 : Int) (((n : Int) - 1).tdiv 254 + 1) = (pagesN n : Nat) := by
  unfold pagesN
  by_cases h : n = 0
  · subst h; rfl
  · have h1 : ((n : Int) - 1).tdiv 254 = ((n : Int) - 1) / 254 := Int.tdiv_eq_ediv_of_nonneg (by omega)
    rw [h1]; omega
theorem pages_ok {P : Program} {f : FuncId} (hd : dec P f = some g_chain_Pages) : PagesOk P f := by
  intro d n hn
  refine GCall_of hd (Nat.le_of_ble_eq_true rfl) ?_
  show gwp P _ _ _ _ _
  have hb : -1 ≤ ((n : Int) - 1).tdiv 254 ∧ ((n : Int) - 1).tdiv 254 ≤ 1000000 := by
    by_cases h : n = 0
    · subst h; decide
    · rw [Int.tdiv_eq_ediv_of_nonneg (by omega)]; omega
  (apply w_sq; apply w_reg; apply w_mvi; rfl; apply w_done0; apply w_sq; apply w_sq; apply w_reg; apply w_mvi; rfl; apply w_lss; rfl; rfl; apply w_done0; refine w_ifdF rfl (by omega) ?_; apply w_skip; apply w_sq; apply w_reg; apply w_mvi; rfl; apply w_sub; rfl; rfl; omega; omega; apply w_quoT; rfl; rfl; omega; omega; omega; apply w_add; rfl; rfl; omega; omega; apply w_mx2; rfl; rfl; apply w_mvi; rfl; apply w_done0; apply w_ret)
  refine finPi rfl ?_
  rw [pages_eq]
def pageF (next : Int) (c : List UInt8) : Sec := UInt8.ofNat (next / 256 % 256).toNat :: UInt8.ofNat (next % 256).toNat :: (c ++ List.replicate (254 - c.length) 0)
theorem page_patch (x y : UInt8) {c : List UInt8} (hc : c.length ≤ 254) : patch (patch (patch z256 0 [byteV x]) 1 [byteV y]) 2 (c.map byteV) = (x :: y :: (c ++ List.replicate (254 - c.length) 0)).map byteV := by
  have hz : z256 = byteV 0 :: byteV 0 :: List.replicate 254 (byteV 0) := rfl
  have e1 : patch (byteV 0 :: byteV 0 :: List.replicate 254 (byteV 0)) 0 [byteV x] = byteV x :: byteV 0 :: List.replicate 254 (byteV 0) := rfl
  have e2 : patch (byteV x :: byteV 0 :: List.replicate 254 (byteV 0)) 1 [byteV y] = byteV x :: byteV y :: List.replicate 254 (byteV 0) := rfl
  rw [hz, e1, e2]
  unfold patch
  rw [List.length_map, Nat.add_comm 2]
  show byteV x :: byteV y :: (c.map byteV ++ (List.replicate 254 (byteV 0)).drop c.length) = _
  rw [List.drop_replicate, List.map_cons, List.map_cons, List.map_append, List.map_replicate]

def chunkF (b : List UInt8) (i : Nat) : List UInt8 := (b.drop (i * 254)).take 254
def putL (s : PD) (l : List Int) (b : List UInt8) : Nat → PD
  | 0 => s
  | i + 1 => ((putL s l b i).put (l.getD i 0) (pageF (l.getD (i + 1) 65535) (chunkF b i))).1
def cputF (s : PD) (b : List UInt8) : PD × Int × Int :=
  let t := takenF s (pagesN b.length)
  if t.2.2 = 0 then (putL t.1 t.2.1 b t.2.1.length, t.2.1.getD 0 0, 0) else (t.1, 0, t.2.2)
theorem takeL_len : ∀ {n : Nat} {s : PD} {l : List Int}, (takeL s l n).2.2 = 0 → (takeL s l n).2.1.length = l.length + n
  | 0, s, l, _ => rfl
  | n + 1, s, l, h => by
    rw [takeL] at h ⊢
    split at h
    · rename_i e
      rw [if_pos e, takeL_len h]; simp; omega
    · rename_i e
      exact absurd h e
theorem taken_len {s : PD} {n : Nat} (h : (takenF s n).2.2 = 0) : (takenF s n).2.1.length = n := by
  unfold takenF at h ⊢
  split
  · rename_i e
    have := takeL_len (s := s) e
    simpa using this
  · rename_i e
    rw [if_neg e] at h
    exact absurd h e
theorem pages_mul {n i : Nat} (h : i < pagesN n) : i * 254 ≤ n := by unfold pagesN at h; omega
def CPutOk (P : Program) (f : FuncId) : Prop := ∀ {d : PHeap} {s : PD} {dv pv bv : Value} {L : List PHeap} {b : List UInt8}, Pg d s dv pv L → RBytes d bv b → b.length ≤ 16384 →
  GCall P f [pv, bv] d L (Ret fun r d' L' => Le d d' ∧ r = .tuple #[.int .i64 (cputF s b).2.1, .int .i64 (cputF s b).2.2] ∧ Pg d' (cputF s b).1 dv pv L')
def g_chain_Put (f_chain_Pages f_chain_taken f_pager_Pager_Put : Nat) : GFun :=
 ⟨64, [(.tmp 4), (.tmp 5)],
 (.seq
 (.reg false (.op false ⟨(some 4), none, (.mv (.const (.int .i64 0)))⟩
  (.op false ⟨(some 5), none, (.mv (.const (.int .i64 0)))⟩ .done)))
 (.seq (.seq
 (.reg false (.op false ⟨(some 12), none, (.mv (.tmp 1))⟩
  (.op false ⟨(some 13), none, (.len (.tmp 12))⟩
  (.op false ⟨(some 14), none, (.bin .gtr (.tmp 13) (.const (.int .i64 16384)))⟩ .done)))) (.cond (.tmp 14)
 (.seq
 (.reg false (.op false ⟨(some 4), none, (.mv (.const (.int .i64 0)))⟩
  (.op false ⟨(some 5), none, (.mv (.const (.int .i64 3)))⟩ .done))) .ret) .skip))
 (.seq
 (.reg false (.op false ⟨(some 16), none, (.mv (.tmp 0))⟩
  (.op false ⟨(some 17), none, (.mv (.tmp 1))⟩
  (.op false ⟨(some 18), none, (.len (.tmp 17))⟩
  (.op false ⟨(some 19), none, (.call f_chain_Pages [(.tmp 18)])⟩
  (.op false ⟨(some 20), none, (.call f_chain_taken [(.tmp 16), (.tmp 19)])⟩
  (.op false ⟨(some 15), none, (.mv (.tmp 20))⟩
  (.op false ⟨(some 21), none, (.ext (.tmp 15) 0)⟩
  (.op false ⟨(some 22), none, (.ext (.tmp 15) 1)⟩
  (.op false ⟨(some 6), none, (.mv (.tmp 21))⟩
  (.op false ⟨(some 7), none, (.mv (.tmp 22))⟩ .done)))))))))))
 (.seq (.seq
 (.reg false (.op false ⟨(some 23), none, (.mv (.tmp 7))⟩
  (.op false ⟨(some 24), none, (.bin .neq (.tmp 23) (.const (.int .i64 0)))⟩ .done))) (.cond (.tmp 24)
 (.seq
 (.reg false (.op false ⟨(some 25), none, (.mv (.tmp 7))⟩
  (.op false ⟨(some 4), none, (.mv (.const (.int .i64 0)))⟩
  (.op false ⟨(some 5), none, (.mv (.tmp 25))⟩ .done)))) .ret) .skip))
 (.seq (.seq
 (.reg false (.op false ⟨(some 26), none, (.mv (.tmp 6))⟩
  (.op false ⟨(some 27), none, (.len (.tmp 26))⟩
  (.op false ⟨(some 28), none, (.mv (.const (.int .i64 0)))⟩ .done)))) (.block 0 (.loop
 (.seq
 (.reg false (.op false ⟨(some 29), none, (.bin .lss (.tmp 28) (.tmp 27))⟩ .done))
 (.seq (.cond (.tmp 29) .skip (.exit 0))
 (.seq (.block 1
 (.seq
 (.reg false (.op false ⟨(some 30), none, (.mv (.tmp 28))⟩
  (.op false ⟨(some 31), none, (.idx 1 (.tmp 26) (.tmp 28))⟩
  (.op false ⟨(some 32), none, (.ld none (.tmp 31))⟩
  (.op false ⟨(some 8), none, (.mv (.tmp 30))⟩
  (.op false ⟨(some 9), none, (.mv (.tmp 32))⟩ .done))))))
 (.seq
 (.reg false (.op false ⟨(some 10), none, (.mv (.const (.int .i64 65535)))⟩ .done))
 (.seq (.seq
 (.reg false (.op false ⟨(some 33), none, (.mv (.tmp 8))⟩
  (.op false ⟨(some 34), none, (.bin .add (.tmp 33) (.const (.int .i64 1)))⟩
  (.op false ⟨(some 35), none, (.mv (.tmp 6))⟩
  (.op false ⟨(some 36), none, (.len (.tmp 35))⟩
  (.op false ⟨(some 37), none, (.bin .lss (.tmp 34) (.tmp 36))⟩ .done)))))) (.cond (.tmp 37)
 (.reg false (.op false ⟨(some 38), none, (.mv (.tmp 6))⟩
  (.op false ⟨(some 39), none, (.mv (.tmp 8))⟩
  (.op false ⟨(some 40), none, (.bin .add (.tmp 39) (.const (.int .i64 1)))⟩
  (.op false ⟨(some 41), none, (.idx 1 (.tmp 38) (.tmp 40))⟩
  (.op false ⟨(some 42), none, (.ld none (.tmp 41))⟩
  (.op false ⟨(some 10), none, (.mv (.tmp 42))⟩ .done))))))) .skip))
 (.seq
 (.reg false (.op false ⟨(some 11), none, (.alo (.agg z256.toArray))⟩ .done))
 (.seq
 (.reg false (.op false ⟨(some 43), none, (.mv (.tmp 10))⟩
  (.op false ⟨(some 44), none, (.bin .shr (.tmp 43) (.const (.int .u64 8)))⟩
  (.op false ⟨(some 45), none, (.cvi .u8 (.tmp 44))⟩
  (.op false ⟨(some 46), none, (.mv (.tmp 10))⟩
  (.op false ⟨(some 47), none, (.cvi .u8 (.tmp 46))⟩
  (.op false ⟨(some 48), none, (.idxa 256 1 (.tmp 11) (.const (.int .i64 0)))⟩
  (.op false ⟨none, none, (.st 1 (.tmp 48) (.tmp 45))⟩
  (.op false ⟨(some 49), none, (.idxa 256 1 (.tmp 11) (.const (.int .i64 1)))⟩
  (.op false ⟨none, none, (.st 1 (.tmp 49) (.tmp 47))⟩ .done))))))))))
 (.seq
 (.reg true (.op true ⟨(some 50), none, (.sla 256 1 (.tmp 11) (some (.const (.int .i64 2))) none none)⟩
  (.op true ⟨(some 51), none, (.mv (.tmp 1))⟩
  (.op true ⟨(some 52), none, (.mv (.tmp 8))⟩
  (.op true ⟨(some 53), none, (.bin .mul (.tmp 52) (.const (.int .i64 254)))⟩
  (.op true ⟨(some 54), none, (.sl 1 (.tmp 51) (some (.tmp 53)) none none)⟩
  (.op false ⟨(some 55), none, (.mop (.cpy 1 (.tmp 50) (.tmp 54)))⟩ .done)))))))
 (.reg false (.op false ⟨(some 56), none, (.mv (.tmp 0))⟩
  (.op false ⟨(some 57), none, (.mv (.tmp 9))⟩
  (.op false ⟨(some 58), none, (.sla 256 1 (.tmp 11) none none none)⟩
  (.op false ⟨(some 59), none, (.call f_pager_Pager_Put [(.tmp 56), (.tmp 57), (.tmp 58)])⟩ .done))))))))))))
 (.reg false (.op false ⟨(some 60), none, (.bin .add (.tmp 28) (.const (.int .i64 1)))⟩
  (.op false ⟨(some 28), none, (.mv (.tmp 60))⟩ .done)))))))))
 (.seq
 (.reg false (.op false ⟨(some 61), none, (.mv (.tmp 6))⟩
  (.op false ⟨(some 62), none, (.idx 1 (.tmp 61) (.const (.int .i64 0)))⟩
  (.op false ⟨(some 63), none, (.ld none (.tmp 62))⟩
  (.op false ⟨(some 4), none, (.mv (.tmp 63))⟩
  (.op false ⟨(some 5), none, (.mv (.const (.int .i64 0)))⟩ .done)))))) .ret))))))⟩

set_option maxRecDepth 4000 in
set_option maxHeartbeats 1000000 in
theorem cput_ok {P : Program} {f f1 f2 f3 : FuncId} (hd : dec P f = some (g_chain_Put f1 f2 f3)) (h1 : PagesOk P f1) (h2 : TakenOk P f2) (h3 : PutOk P f3) : CPutOk P f := by
  intro d s dv pv bv L b hp hb hbl
  obtain ⟨bp, rfl⟩ := hp.ptr
  have hpn : 1 ≤ pagesN b.length ∧ pagesN b.length ≤ 8192 := by unfold pagesN; omega
  refine GCall_of hd (Nat.le_of_ble_eq_true rfl) ?_
  show gwp P _ _ _ _ _
  (apply w_sq; apply w_reg; apply w_mvi; rfl; apply w_mvi; rfl; apply w_done0; apply w_sq; apply w_sq; apply w_reg; apply w_mv; apply w_lenR; rfl; assumption; apply w_gtr; rfl; rfl; apply w_done0; refine w_ifdF rfl (by omega) ?_; apply w_skip; apply w_sq; apply w_reg; apply w_mvp; rfl; apply w_mv; apply w_lenR; rfl; assumption)
  refine w_call0 rfl (h1 (n := b.length) (by omega)) (fun u d1 L1 _ ⟨e1, e2, e3⟩ => ?_)
  subst e1; subst e2; subst e3
  rw [List.nil_append]
  refine w_callO (h2 hp hpn.2) rfl (fun u d2 L2 hl2 ⟨_, v, e1, hv, hp2⟩ => ?_)
  subst e1
  by_cases hz : (takenF s (pagesN b.length)).2.2 = 0
  · have hF : cputF s b = (putL (takenF s (pagesN b.length)).1 (takenF s (pagesN b.length)).2.1 b (takenF s (pagesN b.length)).2.1.length, (takenF s (pagesN b.length)).2.1.getD 0 0, 0) := by unfold cputF; simp only [hz, if_true]
    rw [hF, hz]
    have hlen := taken_len hz
    generalize (takenF s (pagesN b.length)).2.1 = l at hv hlen
    generalize (takenF s (pagesN b.length)).1 = t at hp2
    have hll := hv.len_le
    (apply w_mvu; rfl; apply w_ext; rfl; rfl; apply w_ext; rfl; rfl; apply w_mv; apply w_mvi; rfl; apply w_done0; apply w_sq; apply w_sq; apply w_reg; apply w_mvi; rfl; apply w_neq; rfl; rfl; apply w_done0; refine w_ifdF rfl (by omega) ?_; apply w_skip; apply w_sq; apply w_sq; apply w_reg; apply w_mv; apply w_lenR; rfl; assumption; apply w_mvi; rfl; apply w_done0; apply w_block)
    refine w_loopS (α := Nat) (fun i => [(0, .pointer (some ⟨bp, 0, none⟩)), (1, bv), (6, v), (26, v), (27, .int .i64 l.length), (28, .int .i64 i)])
      (fun i d' L' => Le d2 d' ∧ i ≤ l.length ∧ Pg d' (putL t l b i) dv (.pointer (some ⟨bp, 0, none⟩)) L') (fun i => l.length - i) 0 ⟨rfl, rfl, rfl, rfl, rfl, rfl, trivial⟩ ⟨Le.refl _, Nat.zero_le _, hp2⟩ ?_
    rintro i ρ d' L' ⟨hle, hi, hp'⟩
    have hv' := RSl.mono (R := RInt) mono_int hv hle
    have hb' := RSl.mono (R := RByte) mono_byte hb (hl2.trans hle)
    by_cases e : i < l.length
    · have him : i * 254 ≤ b.length := pages_mul (by omega)
      by_cases en : i + 1 < l.length
      · have hput : putL t l b (i + 1) = ((putL t l b i).put l[i] (pageF l[i + 1] (chunkF b i))).1 := by
          rw [putL, show l.getD i 0 = l[i] by rw [List.getD_eq_getElem?_getD, List.getElem?_eq_getElem e]; rfl, show l.getD (i + 1) 65535 = l[i + 1] by rw [List.getD_eq_getElem?_getD, List.getElem?_eq_getElem en]; rfl]
        (apply w_sq; apply w_reg; apply w_lss; rfl; rfl; apply w_done0; apply w_sq; refine w_ifdT rfl (by omega) ?_; apply w_skip; apply w_sq; apply w_block; apply w_sq; apply w_reg; apply w_mvi; rfl; refine w_idxR (sz := 1) (R := RInt) (by rfl) (by assumption) (by rfl) rfl (by omega) ?_; rintro _ _ _ _ _ ⟨rfl, _, _⟩; apply w_ld; rfl; exact hc_ds0 (by assumption) rfl; apply w_mvi; rfl; apply w_mvi; rfl; apply w_done0; apply w_sq; apply w_reg; apply w_mvi; rfl; apply w_done0; apply w_sq; apply w_sq; apply w_reg; apply w_mvi; rfl; apply w_add; rfl; rfl; omega; omega; apply w_mv; apply w_lenR; rfl; assumption; apply w_lss; rfl; rfl; apply w_done0; refine w_ifdT rfl (by omega) ?_; apply w_reg; apply w_mv; apply w_mvi; rfl; apply w_add; rfl; rfl; omega; omega; refine w_idxR (sz := 1) (R := RInt) (by rfl) (by assumption) (by rfl) rfl (by omega) ?_; rintro _ _ _ _ _ ⟨rfl, _, _⟩; apply w_ld; rfl; exact hc_ds0 (by assumption) rfl; apply w_mvi; rfl; apply w_done0; apply w_sq; apply w_reg; apply w_aloL; intro _ _; apply w_done0; apply w_sq; apply w_reg; apply w_mvi; rfl; apply w_shr8; rfl; rfl; decide; apply w_cvb; rfl; apply w_mvi; rfl; apply w_cvb; rfl)
        rename_i b11 T11
        refine w_idxa 0 rfl rfl rfl (by omega) ?_
        refine w_stE 0 (patch z256 0 [byteV (UInt8.ofNat (l[i + 1] / 256 % 256).toNat)]) rfl rfl rfl rfl (by rw [z256_len]; decide) rfl rfl ?_
        have hl1 : (patch z256 0 [byteV (UInt8.ofNat (l[i + 1] / 256 % 256).toNat)]).length = 256 := by rw [patch_len (by rw [z256_len]; simp)]; exact z256_len
        refine w_idxa 1 rfl rfl rfl (by omega) ?_
        refine w_stE 0 (patch (patch z256 0 [byteV (UInt8.ofNat (l[i + 1] / 256 % 256).toNat)]) 1 [byteV (UInt8.ofNat (l[i + 1] % 256).toNat)]) rfl rfl rfl rfl (by rw [hl1]; decide) rfl rfl ?_
        have hl2' : (patch (patch z256 0 [byteV (UInt8.ofNat (l[i + 1] / 256 % 256).toNat)]) 1 [byteV (UInt8.ofNat (l[i + 1] % 256).toNat)]).length = 256 := by rw [patch_len (by rw [hl1]; simp)]; exact hl1
        (apply w_done0; apply w_sq)
        refine w_drawnA [] (bx b11 T11 (patch (patch z256 0 [byteV (UInt8.ofNat (l[i + 1] / 256 % 256).toNat)]) 1 [byteV (UInt8.ofNat (l[i + 1] % 256).toNat)]) :: L') rfl ?_
        refine w_slaFrom 2 rfl rfl (by omega) ?_
        (apply w_mv; apply w_mvi; rfl; apply w_mul; rfl; rfl; omega; omega)
        refine w_slFrom (R := RByte) (sz := 1) (n := i * 254) rfl hb' rfl (by omega) him (fun w hw => ?_)
        refine w_cpyB (i := 0) rfl rfl hw rfl (by rw [hl2']; omega) ?_
        have hpp := page_patch (UInt8.ofNat (l[i + 1] / 256 % 256).toNat) (UInt8.ofNat (l[i + 1] % 256).toNat) (c := chunkF b i) (by unfold chunkF; rw [List.length_take]; omega)
        (apply w_done0; apply w_reg; apply w_mvp; rfl; apply w_mvi; rfl)
        refine w_slaAll rfl (by omega) ?_
        have hpl : (pageF l[i + 1] (chunkF b i)).length = 256 := by
          have : (chunkF b i).length ≤ 254 := by unfold chunkF; rw [List.length_take]; omega
          unfold pageF; simp only [List.length_cons, List.length_append, List.length_replicate]; omega
        refine w_vs (join d' (bx b11 T11 (patch (patch (patch z256 0 [byteV (UInt8.ofNat (l[i + 1] / 256 % 256).toNat)]) 1 [byteV (UInt8.ofNat (l[i + 1] % 256).toNat)]) 2 ((chunkF b i).map byteV)))) L' Vs.freeze ?_
        have hlj : Le d' (join d' (bx b11 T11 (patch (patch (patch z256 0 [byteV (UInt8.ofNat (l[i + 1] / 256 % 256).toNat)]) 1 [byteV (UInt8.ofNat (l[i + 1] % 256).toNat)]) 2 ((chunkF b i).map byteV)))) := Le.join_left _ _
        have hB : RBytes (join d' (bx b11 T11 (patch (patch (patch z256 0 [byteV (UInt8.ofNat (l[i + 1] / 256 % 256).toNat)]) 1 [byteV (UInt8.ofNat (l[i + 1] % 256).toNat)]) 2 ((chunkF b i).map byteV)))) (.slice (some ⟨b11, 0, none⟩) 256 256) (pageF l[i + 1] (chunkF b i)) :=
          GRow.rsl (R := RByte) (sz := 1) (GRow.litB (d := d') hpp hpl.symm (Nat.le_trans (Nat.le_of_eq hpl) (by decide))) mono_byte (by omega) (Le.join_left _ _) (Le.join_right _ _)
        refine w_callO (h3 (k := l[i]) (hp'.mono hlj) hB) rfl (fun u d5 L5 hl5 ⟨q1, hp5⟩ => ?_)
        (apply w_done0; apply w_reg; apply w_add; rfl; rfl; omega; omega; apply w_mvi; rfl; apply w_done0)
        exact ⟨i + 1, by omega, ⟨rfl, rfl, rfl, rfl, rfl, rfl, trivial⟩, (hle.trans hlj).trans hl5, e, by rw [hput]; exact hp5⟩
      · have hput : putL t l b (i + 1) = ((putL t l b i).put l[i] (pageF (65535 : Int) (chunkF b i))).1 := by
          rw [putL, show l.getD i 0 = l[i] by rw [List.getD_eq_getElem?_getD, List.getElem?_eq_getElem e]; rfl, show l.getD (i + 1) 65535 = (65535 : Int) by rw [List.getD_eq_getElem?_getD, List.getElem?_eq_none (by omega)]; rfl]
        (apply w_sq; apply w_reg; apply w_lss; rfl; rfl; apply w_done0; apply w_sq; refine w_ifdT rfl (by omega) ?_; apply w_skip; apply w_sq; apply w_block; apply w_sq; apply w_reg; apply w_mvi; rfl; refine w_idxR (sz := 1) (R := RInt) (by rfl) (by assumption) (by rfl) rfl (by omega) ?_; rintro _ _ _ _ _ ⟨rfl, _, _⟩; apply w_ld; rfl; exact hc_ds0 (by assumption) rfl; apply w_mvi; rfl; apply w_mvi; rfl; apply w_done0; apply w_sq; apply w_reg; apply w_mvi; rfl; apply w_done0; apply w_sq; apply w_sq; apply w_reg; apply w_mvi; rfl; apply w_add; rfl; rfl; omega; omega; apply w_mv; apply w_lenR; rfl; assumption; apply w_lss; rfl; rfl; apply w_done0; refine w_ifdF rfl (by omega) ?_; apply w_skip; apply w_sq; apply w_reg; apply w_aloL; intro _ _; apply w_done0; apply w_sq; apply w_reg; apply w_mvi; rfl; apply w_shr8; rfl; rfl; decide; apply w_cvb; rfl; apply w_mvi; rfl; apply w_cvb; rfl)
        rename_i b11 T11
        refine w_idxa 0 rfl rfl rfl (by omega) ?_
        refine w_stE 0 (patch z256 0 [byteV (UInt8.ofNat ((65535 : Int) / 256 % 256).toNat)]) rfl rfl rfl rfl (by rw [z256_len]; decide) rfl rfl ?_
        have hl1 : (patch z256 0 [byteV (UInt8.ofNat ((65535 : Int) / 256 % 256).toNat)]).length = 256 := by rw [patch_len (by rw [z256_len]; simp)]; exact z256_len
        refine w_idxa 1 rfl rfl rfl (by omega) ?_
        refine w_stE 0 (patch (patch z256 0 [byteV (UInt8.ofNat ((65535 : Int) / 256 % 256).toNat)]) 1 [byteV (UInt8.ofNat ((65535 : Int) % 256).toNat)]) rfl rfl rfl rfl (by rw [hl1]; decide) rfl rfl ?_
        have hl2' : (patch (patch z256 0 [byteV (UInt8.ofNat ((65535 : Int) / 256 % 256).toNat)]) 1 [byteV (UInt8.ofNat ((65535 : Int) % 256).toNat)]).length = 256 := by rw [patch_len (by rw [hl1]; simp)]; exact hl1
        (apply w_done0; apply w_sq)
        refine w_drawnA [] (bx b11 T11 (patch (patch z256 0 [byteV (UInt8.ofNat ((65535 : Int) / 256 % 256).toNat)]) 1 [byteV (UInt8.ofNat ((65535 : Int) % 256).toNat)]) :: L') rfl ?_
        refine w_slaFrom 2 rfl rfl (by omega) ?_
        (apply w_mv; apply w_mvi; rfl; apply w_mul; rfl; rfl; omega; omega)
        refine w_slFrom (R := RByte) (sz := 1) (n := i * 254) rfl hb' rfl (by omega) him (fun w hw => ?_)
        refine w_cpyB (i := 0) rfl rfl hw rfl (by rw [hl2']; omega) ?_
        have hpp := page_patch (UInt8.ofNat ((65535 : Int) / 256 % 256).toNat) (UInt8.ofNat ((65535 : Int) % 256).toNat) (c := chunkF b i) (by unfold chunkF; rw [List.length_take]; omega)
        (apply w_done0; apply w_reg; apply w_mvp; rfl; apply w_mvi; rfl)
        refine w_slaAll rfl (by omega) ?_
        have hpl : (pageF (65535 : Int) (chunkF b i)).length = 256 := by
          have : (chunkF b i).length ≤ 254 := by unfold chunkF; rw [List.length_take]; omega
          unfold pageF; simp only [List.length_cons, List.length_append, List.length_replicate]; omega
        refine w_vs (join d' (bx b11 T11 (patch (patch (patch z256 0 [byteV (UInt8.ofNat ((65535 : Int) / 256 % 256).toNat)]) 1 [byteV (UInt8.ofNat ((65535 : Int) % 256).toNat)]) 2 ((chunkF b i).map byteV)))) L' Vs.freeze ?_
        have hlj : Le d' (join d' (bx b11 T11 (patch (patch (patch z256 0 [byteV (UInt8.ofNat ((65535 : Int) / 256 % 256).toNat)]) 1 [byteV (UInt8.ofNat ((65535 : Int) % 256).toNat)]) 2 ((chunkF b i).map byteV)))) := Le.join_left _ _
        have hB : RBytes (join d' (bx b11 T11 (patch (patch (patch z256 0 [byteV (UInt8.ofNat ((65535 : Int) / 256 % 256).toNat)]) 1 [byteV (UInt8.ofNat ((65535 : Int) % 256).toNat)]) 2 ((chunkF b i).map byteV)))) (.slice (some ⟨b11, 0, none⟩) 256 256) (pageF (65535 : Int) (chunkF b i)) :=
          GRow.rsl (R := RByte) (sz := 1) (GRow.litB (d := d') hpp hpl.symm (Nat.le_trans (Nat.le_of_eq hpl) (by decide))) mono_byte (by omega) (Le.join_left _ _) (Le.join_right _ _)
        refine w_callO (h3 (k := l[i]) (hp'.mono hlj) hB) rfl (fun u d5 L5 hl5 ⟨q1, hp5⟩ => ?_)
        (apply w_done0; apply w_reg; apply w_add; rfl; rfl; omega; omega; apply w_mvi; rfl; apply w_done0)
        exact ⟨i + 1, by omega, ⟨rfl, rfl, rfl, rfl, rfl, rfl, trivial⟩, (hle.trans hlj).trans hl5, e, by rw [hput]; exact hp5⟩
    · have : i = l.length := by omega
      subst this
      have h0 : 0 < l.length := by omega
      have hg0 : l.getD 0 0 = l[0] := by rw [List.getD_eq_getElem?_getD, List.getElem?_eq_getElem h0]; rfl
      rw [hg0]
      (apply w_sq; apply w_reg; apply w_lss; rfl; rfl; apply w_done0; apply w_sq; refine w_ifdF rfl (by omega) ?_; apply w_exit; apply w_sq; apply w_reg; apply w_mv; refine w_idxR (sz := 1) (R := RInt) (by rfl) (by assumption) (by rfl) rfl (by omega) ?_; rintro _ _ _ _ _ ⟨rfl, _, _⟩; apply w_ld; rfl; exact hc_ds0 (by assumption) rfl; apply w_mvi; rfl; apply w_mvi; rfl; apply w_done0; apply w_ret)
      exact fin2 rfl rfl (List.Sublist.refl _) ⟨hl2.trans hle, rfl, hp'⟩
  · have hF : cputF s b = ((takenF s (pagesN b.length)).1, 0, (takenF s (pagesN b.length)).2.2) := by unfold cputF; simp only [hz, if_false]
    rw [hF]
    (apply w_mvu; rfl; apply w_ext; rfl; rfl; apply w_ext; rfl; rfl; apply w_mv; apply w_mvi; rfl; apply w_done0; apply w_sq; apply w_sq; apply w_reg; apply w_mvi; rfl; apply w_neq; rfl; rfl; apply w_done0; refine w_ifdT rfl (by omega) ?_; apply w_sq; apply w_reg; apply w_mvi; rfl; apply w_mvi; rfl; apply w_mvi; rfl; apply w_done0; apply w_ret)
    exact fin2 rfl rfl (List.Sublist.refl _) ⟨hl2, rfl, hp2⟩
end Go.Gk.Chn
end

section
namespace Go.Gk.Chn
open Go Go.Gk Go.Gk.Dev Go.Gk.Cch Go.Gk.Pgr Go.Gk.Node

section
variable {P : Program} {pan : List PanicEntry → Post} {Qn : Env → Post} {Ls L : List PHeap} {ρ : Env} {d : PHeap} {s : GS} {t : Nat} {tk : Bool}
theorem or8 {a b : Nat} (ha : a < 256) (hb : b < 256) : IntKind.i64.wrap ((BitVec.ofInt 64 ((a * 256 : Nat) : Int) ||| BitVec.ofInt 64 (b : Int)).toNat : Int) = ((a * 256 + b : Nat) : Int) := by
  have h : (BitVec.ofInt 64 ((a * 256 : Nat) : Int) ||| BitVec.ofInt 64 (b : Int)).toNat = a * 256 + b := by
    rw [BitVec.toNat_or, BitVec.toNat_ofInt, BitVec.toNat_ofInt]
    have e1 : (((a * 256 : Nat) : Int) % ((2 ^ 64 : Nat) : Int)).toNat = 2 ^ 8 * a := by omega
    have e2 : ((b : Int) % ((2 ^ 64 : Nat) : Int)).toNat = b := by omega
    rw [e1, e2, ← Nat.two_pow_add_eq_or_of_lt (by omega)]
    omega
  rw [h, wrap64_eq (by omega) (by omega)]
theorem w_or8 {x y : Operand} {a b : Nat} (ex : ev ρ x = .int .i64 ((a * 256 : Nat) : Int)) (ey : ev ρ y = .int .i64 (b : Int)) (ha : a < 256) (hb : b < 256) (h : gws P pan Qn s Ls (upd ρ t (.int .i64 ((a * 256 + b : Nat) : Int))) d L) :
    gws P pan Qn (.op tk ⟨some t, none, .bin .or x y⟩ s) Ls ρ d L := by
  refine w_q rfl (show binV .or (ev ρ x) (ev ρ y) = some (.int .i64 ((a * 256 + b : Nat) : Int)) from ?_) h
  rw [ex, ey]
  exact congrArg (fun z => some (Value.int .i64 z)) (or8 ha hb)
end
attribute [local irreducible] gwp gws xwp

def linkF (b : Sec) : Nat := (b.getD 0 0).toNat * 256 + (b.getD 1 0).toNat
def hdF (s : PD) (h : Int) : Nat → Int
  | 0 => h
  | i + 1 => (linkF (s.bytes (hdF s h i)) : Nat)
def liveK (s : PD) (k : Int) : Prop := s.kind k = 1 ∨ s.kind k = 2
instance (s : PD) (k : Int) : Decidable (liveK s k) := inferInstanceAs (Decidable (_ ∨ _))
theorem err_live {s : PD} {k : Int} (h : liveK s k) : s.errK k = 0 := by
  unfold PD.errK
  by_cases h1 : s.kind k = 1
  · rw [if_pos h1]
  · rw [if_neg h1, if_pos (h.resolve_left h1)]
theorem err_dead {s : PD} {k : Int} (h : ¬ liveK s k) : s.errK k = 240 ∧ s.bytes k = [] := by
  unfold liveK at h
  have h1 : s.kind k ≠ 1 := fun q => h (.inl q)
  have h2 : s.kind k ≠ 2 := fun q => h (.inr q)
  exact ⟨by unfold PD.errK; rw [if_neg h1, if_neg h2], bytes_none h1 h2⟩
theorem _root_.Go.Gk.Pgr.PGetOk.atT {P : Program} {f : FuncId} (h : PGetOk P f) {d : PHeap} {s : PD} {dv pv : Value} {L : List PHeap} {k : Int} (hp : Pg d s dv pv L) :
    GCall P f [pv, .int .i64 k] d L (Ret fun r d' L' => ∃ a c tc, r = .tuple #[.slice a (s.bytes k).length c, .int .i64 (s.errK k)] ∧ RBytes d' (.slice a (s.bytes k).length c) (s.bytes k) ∧ Pg d' { s with tc := tc } dv pv L' ∧ tc = if liveK s k then s.tc + 1 else s.tc) := by
  refine GCall.monoR (h (k := k) hp) (fun r d' L' _ ⟨⟨q, q1, q2⟩, q3⟩ => ⟨d', L', Vs.refl _ _, ?_⟩)
  subst q1
  unfold PD.bytes PD.errK liveK
  unfold PD.get at q2 q3 ⊢
  by_cases h1 : s.kind k = 1
  · simp only [if_pos h1] at q2 q3 ⊢
    obtain ⟨a, c, rfl⟩ := RSl.val q2
    exact ⟨a, c, _, rfl, q2, q3, (if_pos (.inl h1)).symm⟩
  · by_cases h2 : s.kind k = 2
    · simp only [if_neg h1, if_pos h2] at q2 q3 ⊢
      obtain ⟨a, c, rfl⟩ := RSl.val q2
      exact ⟨a, c, _, rfl, q2, q3, (if_pos (.inr h2)).symm⟩
    · simp only [if_neg h1, if_neg h2] at q2 q3 ⊢
      obtain rfl : q = .slice none 0 0 := q2
      exact ⟨none, 0, s.tc, rfl, RSl.nil, q3, (if_neg (fun q => q.elim h1 h2)).symm⟩
theorem pages_perm1 (x : PHeap) (A R : List PHeap) : (A ++ (x :: R)).Perm (R ++ (x :: A)) := List.perm_append_comm.trans List.perm_middle.symm
theorem pages_vs (d x : PHeap) (A R : List PHeap) : Vs d (R ++ (x :: A)) d (A ++ R) := (Vs.perm (List.perm_middle.trans (List.Perm.cons x List.perm_append_comm))).trans (Vs.drop (List.sublist_cons_self _ _))
theorem pages_perm2 (x : PHeap) (A R : List PHeap) : (R ++ (x :: A)).Perm (x :: (A ++ R)) := List.perm_middle.trans (List.Perm.cons x List.perm_append_comm)
def g_chain_pages_1 (f_chain_Pages f_pager_Pager_Get : Nat) : GFunX :=
 (.mk 39 []
 (.seq (.g
 (.reg false (.op false ⟨(some 7), none, (.ld none (.tmp 1))⟩
  (.op false ⟨(some 8), none, (.call f_chain_Pages [(.tmp 7)])⟩
  (.op false ⟨(some 9), none, (.mv (.const (.int .i64 0)))⟩ .done))))) (.block 0 (.loop
 (.seq (.g
 (.reg false (.op false ⟨(some 10), none, (.bin .lss (.tmp 9) (.tmp 8))⟩ .done)))
 (.seq (.g (.cond (.tmp 10) .skip (.exit 0)))
 (.seq (.block 1
 (.seq (.g
 (.reg false (.op false ⟨(some 12), none, (.ld none (.tmp 2))⟩
  (.op false ⟨(some 13), none, (.ld none (.tmp 3))⟩
  (.op false ⟨(some 14), none, (.call f_pager_Pager_Get [(.tmp 12), (.tmp 13)])⟩
  (.op false ⟨(some 11), none, (.mv (.tmp 14))⟩
  (.op false ⟨(some 15), none, (.ext (.tmp 11) 0)⟩
  (.op false ⟨(some 16), none, (.ext (.tmp 11) 1)⟩
  (.op false ⟨(some 5), none, (.mv (.tmp 15))⟩
  (.op false ⟨(some 6), none, (.mv (.tmp 16))⟩ .done))))))))))
 (.seq (.seq (.g
 (.reg false (.op false ⟨(some 17), none, (.mv (.tmp 6))⟩
  (.op false ⟨(some 18), none, (.bin .neq (.tmp 17) (.const (.int .i64 0)))⟩ .done)))) (.cond (.tmp 18)
 (.seq (.yl (.op false ⟨(some 19), none, (.mv (.tmp 0))⟩
  (.op false ⟨(some 20), none, (.mv (.tmp 6))⟩
  (.op false ⟨(some 21), none, (.un .neg (.tmp 20))⟩ .done))) (some 22) (.tmp 19) [(.tmp 21), (.const (.slice none 0 0))] .done) (.g .ret)) (.g .skip)))
 (.seq (.seq (.yl (.op false ⟨(some 23), none, (.mv (.tmp 0))⟩
  (.op false ⟨(some 24), none, (.ld none (.tmp 3))⟩
  (.op false ⟨(some 25), none, (.mv (.tmp 5))⟩ .done))) (some 26) (.tmp 23) [(.tmp 24), (.tmp 25)] (.op false ⟨(some 27), none, (.un .not (.tmp 26))⟩ .done)) (.g (.cond (.tmp 27) .ret .skip))) (.g
 (.reg true (.op true ⟨(some 28), none, (.mv (.tmp 5))⟩
  (.op true ⟨(some 29), none, (.idx 1 (.tmp 28) (.const (.int .i64 0)))⟩
  (.op true ⟨(some 30), none, (.ld none (.tmp 29))⟩
  (.op true ⟨(some 31), none, (.cvi .i64 (.tmp 30))⟩
  (.op true ⟨(some 32), none, (.bin .shl (.tmp 31) (.const (.int .u64 8)))⟩
  (.op true ⟨(some 33), none, (.mv (.tmp 5))⟩
  (.op true ⟨(some 34), none, (.idx 1 (.tmp 33) (.const (.int .i64 1)))⟩
  (.op true ⟨(some 35), none, (.ld none (.tmp 34))⟩
  (.op true ⟨(some 36), none, (.cvi .i64 (.tmp 35))⟩
  (.op true ⟨(some 37), none, (.bin .or (.tmp 32) (.tmp 36))⟩
  (.bar (.op false ⟨none, none, (.st 1 (.tmp 3) (.tmp 37))⟩ .done)))))))))))))))))) (.g
 (.reg false (.op false ⟨(some 38), none, (.bin .add (.tmp 9) (.const (.int .i64 1)))⟩
  (.op false ⟨(some 9), none, (.mv (.tmp 38))⟩ .done)))))))))))

set_option maxRecDepth 4000 in
set_option maxHeartbeats 1000000 in
theorem pages1_ok {P : Program} {f f1 f2 : FuncId} (hd : decx true false P f = some (g_chain_pages_1 f1 f2)) (h1 : PagesOk P f1) (h2 : PGetOk P f2) {s : PD} {dv pv : Value} {LP : List PHeap} {bz bq bh l n : Nat} {Th : TypeId} {h : Int} {rc : Loop} (J : Nat → PHeap → List PHeap → Prop) (Jf : Loop → PHeap → List PHeap → Prop) {d : PHeap} {E : List PHeap}
    (hp : Pg d s dv pv LP) (hz : DC d bz 0 (.int .i64 n)) (hq : DC d bq 0 pv) (hn : n ≤ 16384) (h0 : J 0 d E) (hJm : ∀ {i : Nat} {d d' : PHeap} {E : List PHeap}, Le d d' → J i d E → J i d' E)
    (hlive : ∀ i, i < pagesN n → ∀ d1 E1 v, Le d d1 → J i d1 E1 → liveK s (hdF s h i) → RBytes d1 v (s.bytes (hdF s h i)) → GYield P l [.int .i64 (hdF s h i), v] d1 (sg l (.loop rc) :: E1)
      (fun u d' L' => (u = .bool true ∧ ∃ E', L' = sg l (.loop rc) :: E' ∧ J (i + 1) d' E') ∨ (u = .bool false ∧ ∃ rc' E', L' = sg l (.loop rc') :: E' ∧ Jf rc' d' E')))
    (hdead : ∀ i, i < pagesN n → ∀ d1 E1, Le d d1 → J i d1 E1 → ¬ liveK s (hdF s h i) → GYield P l [.int .i64 (-240), .slice none 0 0] d1 (sg l (.loop rc) :: E1)
      (fun u d' L' => u = .bool false ∧ ∃ rc' E', L' = sg l (.loop rc') :: E' ∧ Jf rc' d' E')) :
    GCall P f [.func (.yield l) #[] #[], .pointer (some ⟨bz, 0, none⟩), .pointer (some ⟨bq, 0, none⟩), .pointer (some ⟨bh, 0, none⟩)] d (bx bh Th [.int .i64 h] :: (LP ++ (sg l (.loop rc) :: E)))
      (Ret fun u d' L' => ∃ LP' E' rc' tc, L' = LP' ++ (sg l (.loop rc') :: E') ∧ Pg d' { s with tc := tc } dv pv LP' ∧ ((rc' = rc ∧ tc = s.tc + pagesN n ∧ J (pagesN n) d' E') ∨ Jf rc' d' E')) := by
  obtain ⟨bp, rfl⟩ := hp.ptr
  have hpn : pagesN n ≤ 8192 := by unfold pagesN; omega
  refine GCallX_of hd (Nat.le_of_ble_eq_true rfl) ?_
  show xwp P _ _ _ _ _
  (apply x_sq; apply x_g; apply w_reg; apply w_ld; rfl; exact hc_d (by assumption))
  refine w_callA (A := []) (B := bx bh Th [.int .i64 h] :: (LP ++ (sg l (.loop rc) :: E))) rfl rfl (h1 (n := n) (by omega)) (fun u d1 L1 _ ⟨e1, e2, e3⟩ => ?_)
  subst e1; subst e2; subst e3
  rw [List.nil_append]
  (apply w_mvi; rfl; apply w_done0; apply x_block)
  refine x_loopS (α := Nat) (fun i => [(0, .func (.yield l) #[] #[]), (2, .pointer (some ⟨bq, 0, none⟩)), (3, .pointer (some ⟨bh, 0, none⟩)), (8, .int .i64 (pagesN n)), (9, .int .i64 i)])
    (fun i d' L' => Le d1 d' ∧ i ≤ pagesN n ∧ ∃ LP' E' tc, L' = bx bh Th [.int .i64 (hdF s h i)] :: (LP' ++ (sg l (.loop rc) :: E')) ∧ Pg d' { s with tc := tc } dv (.pointer (some ⟨bp, 0, none⟩)) LP' ∧ tc = s.tc + i ∧ J i d' E')
    (fun i => pagesN n - i) 0 ⟨rfl, rfl, rfl, rfl, rfl, trivial⟩ ⟨Le.refl _, Nat.zero_le _, LP, E, s.tc, rfl, hp, rfl, h0⟩ ?_
  rintro i ρ d' L' ⟨hle, hi, LP', E', tc, rfl, hp', htc, hJ⟩
  have hq' := hq.mono hle
  by_cases e : i < pagesN n
  · (apply x_sq; apply x_g; apply w_reg; apply w_lss; rfl; rfl; apply w_done0; apply x_sq; apply x_g; refine w_ifdT rfl (by omega) ?_; apply w_skip; apply x_sq; apply x_block; apply x_sq; apply x_g; apply w_reg; apply w_ld; rfl; exact hc_d (by assumption); apply w_ld; rfl; exact hc_i 0 rfl rfl)
    refine w_callQ (h2.atT (k := hdF s h i) hp') (List.perm_append_comm_assoc [_] LP' _) rfl (fun u d7 L7 hl7 ⟨qa, qc, tc', q1, q2, q3, q4⟩ => ?_)
    rw [bytes_tc, errK_tc] at q1
    rw [bytes_tc] at q2
    subst q1
    refine ⟨d7, (sg l (.loop rc) :: E') ++ (bx bh Th [.int .i64 (hdF s h i)] :: L7), Vs.perm (pages_perm1 _ _ _), ?_⟩
    by_cases hlv : liveK s (hdF s h i)
    · rw [err_live hlv]
      (apply w_mvu; rfl; apply w_ext; rfl; rfl; apply w_ext; rfl; rfl; apply w_mvs; rfl; apply w_mvi; rfl; apply w_done0; apply x_sq; apply x_sq; apply x_g; apply w_reg; apply w_mvi; rfl; apply w_neq; rfl; rfl; apply w_done0; apply x_ifF; rfl; apply x_g; apply w_skip; apply x_sq; apply x_sq; apply x_yl; apply w_mvf; rfl)
      refine w_ld (v := .int .i64 (hdF s h i)) rfl (hc_i (T := Th) (l := [.int .i64 (hdF s h i)]) (E'.length + 1) (by simp [lk]) rfl) ?_
      (apply w_mvs; rfl; apply w_done0)
      refine x_yield _ _ rfl rfl rfl (hlive i e d7 E' _ (hle.trans hl7) (hJm hl7 hJ) hlv q2) (fun u d8 L8 hl8 hr8 => ?_)
      rcases hr8 with ⟨rfl, E8, rfl, hJ8⟩ | ⟨rfl, rc8, E8, rfl, hJ8⟩
      · refine w_vs d8 (bx bh Th [.int .i64 (hdF s h i)] :: (L7 ++ (sg l (.loop rc) :: E8))) (Vs.perm (pages_perm2 _ _ _)) ?_
        have hfl : (s.bytes (hdF s h i)).length = 256 := hp.full hlv
        have q8 : RBytes d8 (.slice qa (s.bytes (hdF s h i)).length qc) (s.bytes (hdF s h i)) := RSl.mono (R := RByte) mono_byte q2 hl8
        have g0 : (s.bytes (hdF s h i)).getD 0 0 = (s.bytes (hdF s h i))[0] := by rw [List.getD_eq_getElem?_getD, List.getElem?_eq_getElem (by omega)]; rfl
        have g1 : (s.bytes (hdF s h i)).getD 1 0 = (s.bytes (hdF s h i))[1] := by rw [List.getD_eq_getElem?_getD, List.getElem?_eq_getElem (by omega)]; rfl
        have l0 := UInt8.toNat_lt (s.bytes (hdF s h i))[0]
        have l1 := UInt8.toNat_lt (s.bytes (hdF s h i))[1]
        have hnx : hdF s h (i + 1) = (((s.bytes (hdF s h i))[0].toNat * 256 + (s.bytes (hdF s h i))[1].toNat : Nat) : Int) := by rw [hdF, linkF, g0, g1]
        (apply w_not; rfl; apply w_done0; apply x_g; apply w_ifF; rfl; apply w_skip; apply x_g; apply w_drawn; apply w_mvs; rfl; refine w_idxR (m := 0) (sz := 1) (R := RByte) (by rfl) (by assumption) (by rfl) rfl (by omega) ?_; rintro _ _ _ _ _ rfl; apply w_ld; rfl; exact hc_ds0 (by assumption) rfl; apply w_cvi64; rfl; omega; omega)
        refine w_shl8 (a := (s.bytes (hdF s h i))[0].toNat) rfl rfl (by omega) ?_
        (apply w_mvs; rfl; refine w_idxR (m := 1) (sz := 1) (R := RByte) (by rfl) (by assumption) (by rfl) rfl (by omega) ?_; rintro _ _ _ _ _ rfl; apply w_ld; rfl; exact hc_ds0 (by assumption) rfl; apply w_cvi64; rfl; omega; omega)
        refine w_or8 (a := (s.bytes (hdF s h i))[0].toNat) (b := (s.bytes (hdF s h i))[1].toNat) rfl rfl l0 l1 ?_
        (apply w_bar)
        refine w_stE 0 [.int .i64 (((s.bytes (hdF s h i))[0].toNat * 256 + (s.bytes (hdF s h i))[1].toNat : Nat) : Int)] rfl rfl rfl rfl (Nat.le_refl _) rfl rfl ?_
        (apply w_done0; apply x_g; apply w_reg; apply w_add; rfl; rfl; omega; omega; apply w_mvi; rfl; apply w_done0)
        exact ⟨i + 1, by omega, ⟨rfl, rfl, rfl, rfl, rfl, trivial⟩, (hle.trans hl7).trans hl8, e, L7, E8, tc', by rw [hnx]; exact congrArg (List.cons _) (List.append_nil _), q3.mono hl8, by have q4' : tc' = tc + 1 := q4.trans (if_pos hlv); omega, hJ8⟩
      · (apply w_not; rfl; apply w_done0; apply x_g; apply w_ifT; rfl; apply w_ret)
        exact finV [] trivial (d' := d8) (L' := L7 ++ (sg l (.loop rc8) :: E8)) (pages_vs _ _ _ _) ⟨L7, E8, rc8, _, rfl, q3.mono hl8, .inr hJ8⟩
    · obtain ⟨x1, x2⟩ := err_dead hlv
      rw [x1]
      (apply w_mvu; rfl; apply w_ext; rfl; rfl; apply w_ext; rfl; rfl; apply w_mvs; rfl; apply w_mvi; rfl; apply w_done0; apply x_sq; apply x_sq; apply x_g; apply w_reg; apply w_mvi; rfl; apply w_neq; rfl; rfl; apply w_done0; apply x_ifT; rfl; apply x_sq; apply x_yl; apply w_mvf; rfl; apply w_mvi; rfl; apply w_neg; rfl; omega; omega; apply w_done0)
      refine x_yield _ _ rfl rfl rfl (hdead i e d7 E' (hle.trans hl7) (hJm hl7 hJ) hlv) (fun u d8 L8 hl8 hr8 => ?_)
      obtain ⟨rfl, rc8, E8, rfl, hJ8⟩ := hr8
      (apply w_done0; apply x_g; apply w_ret)
      exact finV [] trivial (d' := d8) (L' := L7 ++ (sg l (.loop rc8) :: E8)) (pages_vs _ _ _ _) ⟨L7, E8, rc8, _, rfl, q3.mono hl8, .inr hJ8⟩
  · have : i = pagesN n := by omega
    subst this
    (apply x_sq; apply x_g; apply w_reg; apply w_lss; rfl; rfl; apply w_done0; apply x_sq; apply x_g; refine w_ifdF rfl (by omega) ?_; apply w_exit)
    exact finS [] trivial (List.sublist_cons_self _ _) ⟨LP', E', rc, tc, rfl, hp', .inl ⟨rfl, htc, hJ⟩⟩

def g_chain_pages (f_chain_pages_1 : Nat) : GFunX :=
 (.mk 8 [(.tmp 6)] (.g
 (.seq
 (.reg false (.op false ⟨(some 3), none, (.box (.tmp 0))⟩
  (.op false ⟨(some 4), none, (.box (.tmp 1))⟩
  (.op false ⟨(some 5), none, (.box (.tmp 2))⟩
  (.op false ⟨(some 6), none, (.mv (.const .nilFunc))⟩ .done)))))
 (.seq
 (.reg false (.op false ⟨(some 7), none, (.mkf (.func f_chain_pages_1) [] [(.tmp 5), (.tmp 3), (.tmp 4)])⟩
  (.op false ⟨(some 6), none, (.mv (.tmp 7))⟩ .done))) .ret))))

theorem pages_fn {P : Program} {f f1 : FuncId} (hd : decx true false P f = some (g_chain_pages f1)) {d : PHeap} {b : Nat} {h n : Int} : GCall P f [.pointer (some ⟨b, 0, none⟩), .int .i64 h, .int .i64 n] d [] (Ret fun r d' L' => ∃ bz bq bh Th, r = .func (.func f1) #[] #[.pointer (some ⟨bz, 0, none⟩), .pointer (some ⟨bq, 0, none⟩), .pointer (some ⟨bh, 0, none⟩)] ∧
    DC d' bz 0 (.int .i64 n) ∧ DC d' bq 0 (.pointer (some ⟨b, 0, none⟩)) ∧ L' = [bx bh Th [.int .i64 h]]) := by
  refine GCallX_of hd (Nat.le_of_ble_eq_true rfl) ?_
  show xwp P _ _ _ _ _
  (apply x_g; apply w_sq; apply w_reg)
  refine w_box rfl (fun bq Tq => ?_)
  refine w_box rfl (fun bh Th => ?_)
  refine w_box rfl (fun bz Tz => ?_)
  (apply w_mv; apply w_done0; apply w_sq; apply w_reg; apply w_mkf; apply w_mvf; rfl; apply w_done0; apply w_ret)
  exact finV [.func (.func f1) #[] #[.pointer (some ⟨bz, 0, none⟩), .pointer (some ⟨bq, 0, none⟩), .pointer (some ⟨bh, 0, none⟩)]] ⟨rfl, trivial⟩ (d' := join (join d (bx bz Tz [.int .i64 n])) (bx bq Tq [.pointer (some ⟨b, 0, none⟩)])) (L' := [bx bh Th [.int .i64 h]])
    ((Vs.perm (List.Perm.cons _ (List.Perm.swap _ _ _))).trans (Vs.freeze.trans Vs.freeze)) ⟨bz, bq, bh, Th, rfl, (Le.dcs ((Le.join_right _ _).trans (Le.join_left _ _))).at (i := 0) rfl, (Le.dcs (Le.join_right _ _)).at (i := 0) rfl, rfl⟩
end Go.Gk.Chn
end

section
namespace Go.Gk.Chn
open Go Go.Gk Go.Gk.Dev Go.Gk.Cch Go.Gk.Pgr Go.Gk.Node
attribute [local irreducible] gwp gws xwp

def readL (s : PD) (size n : Nat) (k : Int) (l : List Int) (out : List UInt8) : Nat → List Int × List UInt8 × Int
  | 0 => (l, out, 0)
  | m + 1 =>
    if liveK s k then
      if (linkF (s.bytes k) = 65535) = (l.length + 1 = n) then
        if ((s.bytes k).drop (2 + min 254 (size - out.length))).all (· == 0) then
          readL s size n (linkF (s.bytes k) : Nat) (l ++ [k]) (out ++ ((s.bytes k).drop 2).take (min 254 (size - out.length))) m
        else ([], [], 200)
      else ([], [], 200)
    else ([], [], 240)
def readF (s : PD) (k : Int) (size : Int) : List Int × List UInt8 × Int := if 0 ≤ size ∧ size ≤ 16384 then readL s size.toNat (pagesN size.toNat) k [] [] (pagesN size.toNat) else ([], [], 2)
def RJ (s : PD) (n : Nat) (k : Int) (b5 b6 b7 b8 b9 b10 : Nat) (T5 T6 T7 T8 T9 T10 : TypeId) (i : Nat) (d : PHeap) (E : List PHeap) : Prop := ∃ l out la lc oa oc hl ho,
  E = [bx b10 T10 [.slice oa (List.length (α := UInt8) out) oc], bx b9 T9 [.slice la (List.length (α := Int) l) lc], bx b8 T8 [.int .i64 0], bx b7 T7 [.slice none 0 0], bx b6 T6 [.slice none 0 0], bx b5 T5 [.int .i64 n], ho, hl] ∧
  GRow 1 RInt d (.slice la l.length lc) l hl ∧ GRow 1 RByte d (.slice oa out.length oc) out ho ∧ l.length = i ∧ out.length ≤ n ∧ readL s n (pagesN n) k [] [] (pagesN n) = readL s n (pagesN n) (hdF s k i) l out (pagesN n - i)
def RF (rc : Loop) (s : PD) (n : Nat) (k : Int) (b6 b7 b8 : Nat) (T6 T7 T8 : TypeId) (rc' : Loop) (_ : PHeap) (E : List PHeap) : Prop :=
  rc' = { rc with state := .done, pending := some .ret } ∧ ∃ e x y R, readL s n (pagesN n) k [] [] (pagesN n) = ([], [], e) ∧ e ≠ 0 ∧ E = x :: y :: bx b8 T8 [.int .i64 e] :: bx b7 T7 [.slice none 0 0] :: bx b6 T6 [.slice none 0 0] :: R
def CReadOk (P : Program) (f : FuncId) : Prop := ∀ {d : PHeap} {s : PD} {dv pv : Value} {L : List PHeap} {k size : Int}, Pg d s dv pv L →
  GCall P f [pv, .int .i64 k, .int .i64 size] d L (Ret fun r d' L' => Le d d' ∧ ∃ v w tc, r = .tuple #[v, w, .int .i64 (readF s k size).2.2] ∧ RInts d' v (readF s k size).1 ∧ RBytes d' w (readF s k size).2.1 ∧ Pg d' { s with tc := tc } dv pv L' ∧ ((readF s k size).2.2 = 0 → tc = s.tc + pagesN size.toNat))
theorem link_same {a m N : Nat} (h : (a = 65535) = (m = N)) : (true ^^ (decide ((a : Int) = 65535) == decide ((m : Int) = (N : Int)))) = false := by
  rw [show decide ((a : Int) = 65535) = decide (a = 65535) from decide_eq_decide.2 (by omega), show decide ((m : Int) = (N : Int)) = decide (m = N) from decide_eq_decide.2 (by omega), show decide (a = 65535) = decide (m = N) from decide_eq_decide.2 (by rw [h])]
  simp
theorem link_diff {a m N : Nat} (h : ¬ ((a = 65535) = (m = N))) : (true ^^ (decide ((a : Int) = 65535) == decide ((m : Int) = (N : Int)))) = true := by
  rw [show decide ((a : Int) = 65535) = decide (a = 65535) from decide_eq_decide.2 (by omega), show decide ((m : Int) = (N : Int)) = decide (m = N) from decide_eq_decide.2 (by omega)]
  have : decide (a = 65535) ≠ decide (m = N) := fun e => h (propext (decide_eq_decide.1 e))
  simp [this]
theorem read_perm (g h : PHeap) (E L : List PHeap) : (g :: ([h] ++ (E ++ L))).Perm (h :: (L ++ (g :: E))) :=
  (List.Perm.swap h g (E ++ L)).trans (List.Perm.cons h ((List.Perm.cons g List.perm_append_comm).trans List.perm_middle.symm))
theorem read_vs (d a b c x y z o h : PHeap) (L : List PHeap) : Vs d (a :: b :: c :: x :: y :: z :: o :: h :: L) (join (join d o) h) L :=
  (Vs.drop (.cons _ (.cons _ (.cons _ (.cons _ (.cons _ (.cons _ (List.Sublist.refl _)))))))).trans (Vs.freeze.trans Vs.freeze)
def CPagesOk (P : Program) (f : FuncId) : Prop := ∃ f1 f2 f3, decx true false P f = some (g_chain_pages f1) ∧ decx true false P f1 = some (g_chain_pages_1 f2 f3) ∧ PagesOk P f2 ∧ PGetOk P f3
def P1Ok (P : Program) (f : FuncId) : Prop := ∃ f2 f3, decx true false P f = some (g_chain_pages_1 f2 f3) ∧ PagesOk P f2 ∧ PGetOk P f3
theorem p1_ok {P : Program} {f f2 f3 : FuncId} (hd : decx true false P f = some (g_chain_pages_1 f2 f3)) (h1 : PagesOk P f2) (h2 : PGetOk P f3) : P1Ok P f := ⟨f2, f3, hd, h1, h2⟩
theorem cpages_ok {P : Program} {f f1 : FuncId} (hd : decx true false P f = some (g_chain_pages f1)) (h : P1Ok P f1) : CPagesOk P f := let ⟨f2, f3, h1, h2, h3⟩ := h; ⟨f1, f2, f3, hd, h1, h2, h3⟩
def g_chain_read (f_chain_pages f_chain_Pages : Nat) : GFunX :=
 (.mk 80 [(.cell 6 none), (.cell 7 none), (.cell 8 none)]
 (.seq (.g
 (.reg false (.op false ⟨(some 5), none, (.box (.tmp 2))⟩
  (.op false ⟨(some 6), none, (.alo (.slice none 0 0))⟩
  (.op false ⟨(some 7), none, (.alo (.slice none 0 0))⟩
  (.op false ⟨(some 8), none, (.alo (.int .i64 0))⟩ .done))))))
 (.seq (.g
 (.seq
 (.reg false (.op false ⟨(some 17), none, (.ld none (.tmp 5))⟩
  (.op false ⟨(some 18), none, (.bin .lss (.tmp 17) (.const (.int .i64 0)))⟩
  (.op false ⟨(some 19), none, (.mv (.tmp 18))⟩
  (.op false ⟨(some 20), (some (19, false)), (.ld none (.tmp 5))⟩
  (.op false ⟨(some 21), (some (19, false)), (.bin .gtr (.tmp 20) (.const (.int .i64 16384)))⟩
  (.op false ⟨(some 22), none, (.pick (.tmp 19) (.const (.bool true)) (.tmp 21))⟩ .done))))))) (.cond (.tmp 22)
 (.seq
 (.reg false (.op false ⟨none, none, (.st 1 (.tmp 6) (.const (.slice none 0 0)))⟩
  (.op false ⟨none, none, (.st 1 (.tmp 7) (.const (.slice none 0 0)))⟩
  (.op false ⟨none, none, (.st 1 (.tmp 8) (.const (.int .i64 2)))⟩ .done)))) .ret) .skip)))
 (.seq (.g
 (.reg false (.op false ⟨(some 9), none, (.alo (.slice none 0 0))⟩ .done)))
 (.seq (.g
 (.reg false (.op false ⟨(some 10), none, (.alo (.slice none 0 0))⟩ .done)))
 (.seq (.seq (.g
 (.reg false (.op false ⟨(some 23), none, (.mv (.tmp 0))⟩
  (.op false ⟨(some 24), none, (.mv (.tmp 1))⟩
  (.op false ⟨(some 25), none, (.ld none (.tmp 5))⟩
  (.op false ⟨(some 26), none, (.call f_chain_pages [(.tmp 23), (.tmp 24), (.tmp 25)])⟩ .done)))))) (.block 0 (.rf (.tmp 26) [27, 28]
 (.seq
 (.reg false (.op false ⟨(some 11), none, (.mv (.tmp 27))⟩ .done))
 (.reg false (.op false ⟨(some 12), none, (.mv (.tmp 28))⟩ .done))) (.block 1
 (.seq (.seq
 (.reg false (.op false ⟨(some 29), none, (.mv (.tmp 12))⟩
  (.op false ⟨(some 30), none, (.eqs false (.tmp 29) (.const (.slice none 0 0)))⟩ .done))) (.cond (.tmp 30)
 (.seq
 (.reg false (.op false ⟨(some 31), none, (.mv (.tmp 11))⟩
  (.op false ⟨(some 32), none, (.un .neg (.tmp 31))⟩
  (.op false ⟨none, none, (.st 1 (.tmp 6) (.const (.slice none 0 0)))⟩
  (.op false ⟨none, none, (.st 1 (.tmp 7) (.const (.slice none 0 0)))⟩
  (.op false ⟨none, none, (.st 1 (.tmp 8) (.tmp 32))⟩ .done)))))) .ret) .skip))
 (.seq
 (.reg false (.op false ⟨(some 33), none, (.ld none (.tmp 9))⟩
  (.op false ⟨(some 34), none, (.mv (.tmp 11))⟩
  (.op false ⟨(some 35), none, (.bsl 1 1 [(.int .i64 0)] [(0, (.tmp 34))])⟩
  (.op false ⟨(some 36), none, (.app 1 8 [(.int .i64 0)] (.tmp 33) (.tmp 35))⟩
  (.op false ⟨none, none, (.st 1 (.tmp 9) (.tmp 36))⟩ .done))))))
 (.seq
 (.reg true (.op true ⟨(some 37), none, (.mv (.tmp 12))⟩
  (.op true ⟨(some 38), none, (.idx 1 (.tmp 37) (.const (.int .i64 0)))⟩
  (.op true ⟨(some 39), none, (.ld none (.tmp 38))⟩
  (.op true ⟨(some 40), none, (.cvi .i64 (.tmp 39))⟩
  (.op true ⟨(some 41), none, (.bin .shl (.tmp 40) (.const (.int .u64 8)))⟩
  (.op true ⟨(some 42), none, (.mv (.tmp 12))⟩
  (.op true ⟨(some 43), none, (.idx 1 (.tmp 42) (.const (.int .i64 1)))⟩
  (.op true ⟨(some 44), none, (.ld none (.tmp 43))⟩
  (.op true ⟨(some 45), none, (.cvi .i64 (.tmp 44))⟩
  (.op true ⟨(some 46), none, (.bin .or (.tmp 41) (.tmp 45))⟩
  (.bar (.op true ⟨(some 13), none, (.mv (.tmp 46))⟩ .done)))))))))))))
 (.seq (.seq
 (.reg true (.op true ⟨(some 47), none, (.mv (.tmp 13))⟩
  (.op true ⟨(some 48), none, (.bin .eql (.tmp 47) (.const (.int .i64 65535)))⟩
  (.op true ⟨(some 49), none, (.ld none (.tmp 9))⟩
  (.op true ⟨(some 50), none, (.len (.tmp 49))⟩
  (.op true ⟨(some 51), none, (.ld none (.tmp 5))⟩
  (.op false ⟨(some 52), none, (.call f_chain_Pages [(.tmp 51)])⟩
  (.op true ⟨(some 53), none, (.bin .eql (.tmp 50) (.tmp 52))⟩
  (.op true ⟨(some 54), none, (.eqb true (.tmp 48) (.tmp 53))⟩ .done))))))))) (.cond (.tmp 54)
 (.seq
 (.reg false (.op false ⟨none, none, (.st 1 (.tmp 6) (.const (.slice none 0 0)))⟩
  (.op false ⟨none, none, (.st 1 (.tmp 7) (.const (.slice none 0 0)))⟩
  (.op false ⟨none, none, (.st 1 (.tmp 8) (.const (.int .i64 200)))⟩ .done)))) .ret) .skip))
 (.seq
 (.reg false (.op false ⟨(some 55), none, (.ld none (.tmp 5))⟩
  (.op false ⟨(some 56), none, (.ld none (.tmp 10))⟩
  (.op false ⟨(some 57), none, (.len (.tmp 56))⟩
  (.op false ⟨(some 58), none, (.bin .sub (.tmp 55) (.tmp 57))⟩
  (.op false ⟨(some 59), none, (.mn2 (.const (.int .i64 254)) (.tmp 58))⟩
  (.op false ⟨(some 14), none, (.mv (.tmp 59))⟩ .done)))))))
 (.seq (.seq
 (.reg false (.op false ⟨(some 60), none, (.mv (.tmp 12))⟩
  (.op false ⟨(some 61), none, (.mv (.tmp 14))⟩
  (.op false ⟨(some 62), none, (.bin .add (.const (.int .i64 2)) (.tmp 61))⟩
  (.op false ⟨(some 63), none, (.sl 1 (.tmp 60) (some (.tmp 62)) none none)⟩
  (.op false ⟨(some 64), none, (.len (.tmp 63))⟩
  (.op false ⟨(some 65), none, (.mv (.const (.int .i64 0)))⟩ .done))))))) (.block 2 (.loop
 (.seq
 (.reg false (.op false ⟨(some 66), none, (.bin .lss (.tmp 65) (.tmp 64))⟩ .done))
 (.seq (.cond (.tmp 66) .skip (.exit 2))
 (.seq (.block 3
 (.seq
 (.reg false (.op false ⟨(some 67), none, (.idx 1 (.tmp 63) (.tmp 65))⟩
  (.op false ⟨(some 68), none, (.ld none (.tmp 67))⟩
  (.op false ⟨(some 16), none, (.mv (.tmp 68))⟩ .done))))
 (.seq
 (.reg false (.op false ⟨(some 69), none, (.mv (.tmp 16))⟩
  (.op false ⟨(some 70), none, (.bin .neq (.tmp 69) (.const (.int .u8 0)))⟩ .done))) (.cond (.tmp 70)
 (.seq
 (.reg false (.op false ⟨none, none, (.st 1 (.tmp 6) (.const (.slice none 0 0)))⟩
  (.op false ⟨none, none, (.st 1 (.tmp 7) (.const (.slice none 0 0)))⟩
  (.op false ⟨none, none, (.st 1 (.tmp 8) (.const (.int .i64 200)))⟩ .done)))) .ret) .skip))))
 (.reg false (.op false ⟨(some 71), none, (.bin .add (.tmp 65) (.const (.int .i64 1)))⟩
  (.op false ⟨(some 65), none, (.mv (.tmp 71))⟩ .done)))))))))
 (.reg true (.op true ⟨(some 73), none, (.mv (.tmp 12))⟩
  (.op true ⟨(some 74), none, (.mv (.tmp 14))⟩
  (.op true ⟨(some 75), none, (.bin .add (.const (.int .i64 2)) (.tmp 74))⟩
  (.op true ⟨(some 76), none, (.sl 1 (.tmp 73) (some (.const (.int .i64 2))) (some (.tmp 75)) none)⟩
  (.op false ⟨(some 72), none, (.ld none (.tmp 10))⟩
  (.op false ⟨(some 77), none, (.app 1 1 [(.int .u8 0)] (.tmp 72) (.tmp 76))⟩
  (.bar (.op false ⟨none, none, (.st 1 (.tmp 10) (.tmp 77))⟩ .done))))))))))))))))))) (.g
 (.seq
 (.reg true (.op true ⟨(some 78), none, (.ld none (.tmp 9))⟩
  (.op true ⟨(some 79), none, (.ld none (.tmp 10))⟩
  (.op false ⟨none, none, (.st 1 (.tmp 6) (.tmp 78))⟩
  (.op false ⟨none, none, (.st 1 (.tmp 7) (.tmp 79))⟩
  (.op false ⟨none, none, (.st 1 (.tmp 8) (.const (.int .i64 0)))⟩ .done)))))) .ret))))))))

set_option maxRecDepth 4000 in
set_option maxHeartbeats 2000000 in
theorem cread_ok {P : Program} {f f1 f2 : FuncId} (hd : decx false false P f = some (g_chain_read f1 f2)) (h1 : CPagesOk P f1) (h2 : PagesOk P f2) : CReadOk P f := by
  obtain ⟨f3, f4, f5, g1, g2, g3, g4⟩ := h1
  intro d s dv pv L k size hp
  obtain ⟨bp, rfl⟩ := hp.ptr
  refine GCallX_of hd (Nat.le_of_ble_eq_true rfl) ?_
  show xwp P _ _ _ _ _
  (apply x_sq; apply x_g; apply w_reg)
  refine w_box rfl (fun b5 T5 => ?_)
  refine w_alo (fun b6 T6 => ?_)
  refine w_alo (fun b7 T7 => ?_)
  refine w_alo (fun b8 T8 => ?_)
  refine w_doneE ⟨d, bx b8 T8 [.int .i64 0] :: bx b7 T7 [.slice none 0 0] :: bx b6 T6 [.slice none 0 0] :: bx b5 T5 [.int .i64 size] :: L, Vs.refl _ _, ?_⟩
  by_cases hsz : 0 ≤ size ∧ size ≤ 16384
  · obtain ⟨n, rfl⟩ : ∃ n : Nat, size = n := ⟨size.toNat, by omega⟩
    have hn : n ≤ 16384 := by omega
    have hF : readF s k n = readL s n (pagesN n) k [] [] (pagesN n) := by unfold readF; rw [if_pos hsz]; rfl
    rw [hF]
    (apply x_sq; apply x_g; apply w_sq; apply w_reg; apply w_ld; rfl; exact hc_i 3 rfl rfl; apply w_lss; rfl; rfl; apply w_mvb; rfl; refine w_gdF rfl (by omega) ?_; apply w_gT; rfl; apply w_ld; rfl; exact hc_i 3 rfl rfl; apply w_gT; rfl; apply w_gtr; rfl; rfl; apply w_pickFb; rfl; rfl; apply w_done0; refine w_ifdF rfl (by omega) ?_; apply w_skip; apply x_sq; apply x_g; apply w_reg; apply w_alo; intro _ _; apply w_done0; apply x_sq; apply x_g; apply w_reg; apply w_alo; intro _ _; apply w_done0; apply x_sq; apply x_sq; apply x_g; apply w_reg; apply w_mvp; rfl; apply w_mvi; rfl; apply w_ld; rfl; exact hc_i 5 rfl rfl)
    rename_i b9 T9 b10 T10
    refine w_vs d (bx b10 T10 [.slice none 0 0] :: bx b9 T9 [.slice none 0 0] :: bx b8 T8 [.int .i64 0] :: bx b7 T7 [.slice none 0 0] :: bx b6 T6 [.slice none 0 0] :: bx b5 T5 [.int .i64 n] :: emp :: emp :: L)
      ((Vs.emp.trans Vs.emp).trans (Vs.perm (List.perm_append_comm_assoc [emp, emp] [_, _, _, _, _, _] L))) ?_
    refine w_callA (A := []) (B := bx b10 T10 [.slice none 0 0] :: bx b9 T9 [.slice none 0 0] :: bx b8 T8 [.int .i64 0] :: bx b7 T7 [.slice none 0 0] :: bx b6 T6 [.slice none 0 0] :: bx b5 T5 [.int .i64 n] :: emp :: emp :: L) rfl rfl (pages_fn g1 (h := k) (n := n)) (fun u d1 L1 hl1 ⟨bz, bq, bh, Th, e1, hz, hq, e2⟩ => ?_)
    subst e1; subst e2
    (apply w_done0; apply x_block)
    refine x_rf rfl (fun l rc hrec hst hpd => ?_)
    refine GCall.reorder (L1 := bx bh Th [.int .i64 k] :: (L ++ (sg l (.loop rc) :: [bx b10 T10 [.slice none 0 0], bx b9 T9 [.slice none 0 0], bx b8 T8 [.int .i64 0], bx b7 T7 [.slice none 0 0], bx b6 T6 [.slice none 0 0], bx b5 T5 [.int .i64 n], emp, emp]))) ?_ (GCall.monoR
      (pages1_ok g2 g3 g4 (rc := rc) (l := l) (RJ s n k b5 b6 b7 b8 b9 b10 T5 T6 T7 T8 T9 T10) (RF rc s n k b6 b7 b8 T6 T7 T8) (hp.mono hl1) hz hq hn ?_ ?_ ?_ ?_) ?_)
    · exact read_perm _ _ [_, _, _, _, _, _, _, _] L
    · exact ⟨[], [], none, 0, none, 0, emp, emp, rfl, GRow.nil, GRow.nil, rfl, Nat.zero_le _, rfl⟩
    · rintro i d2 d3 E hle ⟨l1, o1, la, lc, oa, oc, hl, ho, q1, q2, q3, q4, q5, q6⟩
      exact ⟨l1, o1, la, lc, oa, oc, hl, ho, q1, GRow.mono (R := RInt) mono_int q2 hle, GRow.mono (R := RByte) mono_byte q3 hle, q4, q5, q6⟩
    · rintro i hi d2 E2 v hle ⟨l1, o1, la, lc, oa, oc, hl, ho, rfl, q2, q3, q4, q5, q6⟩ hlv hv
      refine gyield_of hrec hst rfl ?_
      have hfl : (s.bytes (hdF s k i)).length = 256 := hp.full hlv
      have hv0 := hv
      obtain ⟨va, vc, vb, vo, rfl, w2, -, -, -, -, -, w8⟩ := hv
      obtain rfl : va = some ⟨vb, vo, none⟩ := w2 (by omega)
      have dd0 : DCs d2 vb (vo + 0 * 1) [byteV (s.bytes (hdF s k i))[0]] := by
        obtain ⟨cs, c1, c2, c3⟩ := w8 0 (by omega)
        rw [show cs = [byteV (s.bytes (hdF s k i))[0]] from c3] at c2; exact c2
      have dd1 : DCs d2 vb (vo + 1 * 1) [byteV (s.bytes (hdF s k i))[1]] := by
        obtain ⟨cs, c1, c2, c3⟩ := w8 1 (by omega)
        rw [show cs = [byteV (s.bytes (hdF s k i))[1]] from c3] at c2; exact c2
      have hkr : 0 ≤ hdF s k i ∧ hdF s k i ≤ 16384 := by
        have := hp.good.inn
        have := hp.good.syn
        rcases hlv with q | q <;> (obtain ⟨j, j1, j2, -, -⟩ := kind_in q (by omega); omega)
      have q4' := q4
      have hpn : pagesN n ≤ 8192 := by unfold pagesN; omega
      (apply w_sq; apply w_reg; apply w_mvi; rfl; apply w_done0; apply w_reg; apply w_mvs; rfl; apply w_done0; apply w_block; apply w_sq; apply w_sq; apply w_reg; apply w_mvs; rfl; apply w_eqsS; rfl; rfl; apply w_done0; apply w_ifF; rfl; apply w_skip; apply w_sq; apply w_reg; apply w_ld; rfl; exact hc_i 1 rfl rfl; apply w_mvi; rfl)
      refine w_bs1 (v0 := .int .i64 (hdF s k i)) rfl rfl (fun b3 T3 => ?_)
      refine w_appL (R := RInt) 7 rfl rfl q2 rfl (GRow.lit1 (x := hdF s k i) rfl ⟨rfl, by omega, by omega⟩) cell1_int (by omega) (by simp; omega) (by simp; omega) (fun v' h' ho' => ?_)
      obtain ⟨la', lc', rfl⟩ := ho'.val
      refine w_stE 1 [.slice la' (l1 ++ [hdF s k i]).length lc'] rfl rfl rfl rfl (Nat.le_refl _) rfl rfl ?_
      have g0 : (s.bytes (hdF s k i)).getD 0 0 = (s.bytes (hdF s k i))[0] := by rw [List.getD_eq_getElem?_getD, List.getElem?_eq_getElem (by omega)]; rfl
      have g1' : (s.bytes (hdF s k i)).getD 1 0 = (s.bytes (hdF s k i))[1] := by rw [List.getD_eq_getElem?_getD, List.getElem?_eq_getElem (by omega)]; rfl
      have l0 := UInt8.toNat_lt (s.bytes (hdF s k i))[0]
      have l1' := UInt8.toNat_lt (s.bytes (hdF s k i))[1]
      have hlk : linkF (s.bytes (hdF s k i)) = (s.bytes (hdF s k i))[0].toNat * 256 + (s.bytes (hdF s k i))[1].toNat := by rw [linkF, g0, g1']
      (apply w_done0; apply w_sq; apply w_drawn; apply w_mvs; rfl; apply w_idx 0; rfl; rfl; rfl; omega; assumption; apply w_ld; rfl; exact hc_ds (by assumption) rfl; apply w_cvi64; rfl; omega; omega)
      refine w_shl8 (a := (s.bytes (hdF s k i))[0].toNat) rfl rfl (by omega) ?_
      (apply w_mvs; rfl; refine w_idxR (m := 1) (sz := 1) (R := RByte) (by rfl) (by assumption) (by rfl) rfl (by omega) ?_; rintro _ _ _ _ _ rfl; apply w_ld; rfl; exact hc_ds0 (by assumption) rfl; apply w_cvi64; rfl; omega; omega)
      refine w_or8 (a := (s.bytes (hdF s k i))[0].toNat) (b := (s.bytes (hdF s k i))[1].toNat) rfl rfl l0 l1' ?_
      rw [← hlk]
      (apply w_bar; apply w_mvi; rfl; apply w_done0; apply w_sq; apply w_sq; apply w_drawn; apply w_mvi; rfl; apply w_eql; rfl; rfl; apply w_ld; rfl; exact hc_i 1 rfl rfl; apply w_len; rfl; apply w_ld; rfl; exact hc_i 5 rfl rfl)
      refine w_call0 rfl (h2 (n := n) (by omega)) (fun u d3 L3 _ ⟨e1, e2, e3⟩ => ?_)
      subst e1; subst e2; subst e3
      rw [List.nil_append]
      have hl1' : (l1 ++ [hdF s k i]).length = l1.length + 1 := by simp
      have hst' : pagesN n - i = (pagesN n - (i + 1)) + 1 := by omega
      (apply w_eql; rfl; rfl; apply w_eqb; rfl; rfl; apply w_done)
      by_cases hh : (linkF (s.bytes (hdF s k i)) = 65535) = (l1.length + 1 = pagesN n)
      · refine w_ifF (congrArg Value.bool (link_same (by rw [hl1']; exact hh))) ?_
        have ht2 : 2 + min 254 (n - o1.length) ≤ (s.bytes (hdF s k i)).length := by omega
        (apply w_skip; apply w_sq; apply w_reg; apply w_ld; rfl; exact hc_i 5 rfl rfl; apply w_ld; rfl; exact hc_i 0 rfl rfl; apply w_len; rfl; apply w_sub; rfl; rfl; omega; omega; apply w_mn2; rfl; rfl; apply w_mvi; rfl; apply w_done0; apply w_sq; apply w_sq; apply w_reg; apply w_mvs; rfl; apply w_mvi; rfl; apply w_add; rfl; rfl; omega; omega)
        refine w_slFrom (R := RByte) (sz := 1) (n := 2 + min 254 (n - o1.length)) rfl hv0 rfl (by omega) ht2 (fun vz hvz => ?_)
        obtain ⟨zs, hzs⟩ : ∃ zs, zs = (s.bytes (hdF s k i)).drop (2 + min 254 (n - o1.length)) := ⟨_, rfl⟩
        rw [← hzs] at hvz
        have hzl := hvz.len_le
        (apply w_lenR; rfl; assumption; apply w_mvi; rfl; apply w_done0; apply w_block)
        refine w_loopN (α := Nat) (fun j => [(6, .pointer (some ⟨b6, 0, none⟩)), (7, .pointer (some ⟨b7, 0, none⟩)), (8, .pointer (some ⟨b8, 0, none⟩)), (10, .pointer (some ⟨b10, 0, none⟩)), (12, .slice (some ⟨vb, vo, none⟩) (s.bytes (hdF s k i)).length vc), (14, .int .i64 ((min 254 (n - o1.length) : Nat) : Int)), (63, vz), (64, .int .i64 zs.length), (65, .int .i64 j)])
          (fun _ => [bx b10 T10 [.slice oa o1.length oc], bx b9 T9 [.slice la' (l1 ++ [hdF s k i]).length lc'], bx b8 T8 [.int .i64 0], bx b7 T7 [.slice none 0 0], bx b6 T6 [.slice none 0 0], bx b5 T5 [.int .i64 n], ho, h'])
          (fun j => j ≤ zs.length ∧ (zs.take j).all (· == 0) = true) (fun j => zs.length - j) 0 ⟨rfl, rfl, rfl, rfl, rfl, by show Value.int _ _ = Value.int _ _; congr 1; omega, rfl, rfl, rfl, trivial⟩ rfl ⟨Nat.zero_le _, rfl⟩ ?_
        rintro j ρ ⟨hj, hja⟩
        by_cases ej : j < zs.length
        · have hjn : (zs.take (j + 1)).all (· == 0) = ((zs.take j).all (· == 0) && (zs[j] == 0)) := by rw [List.take_succ_eq_append_getElem ej, List.all_append]; simp
          by_cases hz0 : zs[j] = 0
          · have hz1 : zs[j].toNat = 0 := by rw [hz0]; rfl
            (apply w_sq; apply w_reg; apply w_lss; rfl; rfl; apply w_done0; apply w_sq; refine w_ifdT rfl (by omega) ?_; apply w_skip; apply w_sq; apply w_block; apply w_sq; apply w_reg; refine w_idxR (sz := 1) (R := RByte) (by rfl) (by assumption) (by rfl) rfl (by omega) ?_; rintro _ _ _ _ _ rfl; apply w_ld; rfl; exact hc_ds0 (by assumption) rfl; apply w_mvi; rfl; apply w_done0; apply w_sq; apply w_reg; apply w_mvi; rfl; apply w_neq; rfl; rfl; apply w_done0; refine w_ifdF rfl (by omega) ?_; apply w_skip; apply w_reg; apply w_add; rfl; rfl; omega; omega; apply w_mvi; rfl; apply w_done0)
            exact ⟨j + 1, by omega, ⟨rfl, rfl, rfl, rfl, rfl, rfl, rfl, rfl, rfl, trivial⟩, rfl, rfl, ej, by rw [hjn, hja, hz0]; rfl⟩
          · have hz1 : zs[j].toNat ≠ 0 := fun q => hz0 (UInt8.toNat_inj.1 q)
            have hrd : readL s n (pagesN n) k [] [] (pagesN n) = ([], [], 200) := by
              rw [q6, hst', readL, if_pos hlv, if_pos hh, if_neg]
              rw [← hzs]
              intro hall
              exact hz0 (by simpa using List.all_eq_true.1 hall _ (List.getElem_mem ej))
            (apply w_sq; apply w_reg; apply w_lss; rfl; rfl; apply w_done0; apply w_sq; refine w_ifdT rfl (by omega) ?_; apply w_skip; apply w_sq; apply w_block; apply w_sq; apply w_reg; refine w_idxR (sz := 1) (R := RByte) (by rfl) (by assumption) (by rfl) rfl (by omega) ?_; rintro _ _ _ _ _ rfl; apply w_ld; rfl; exact hc_ds0 (by assumption) rfl; apply w_mvi; rfl; apply w_done0; apply w_sq; apply w_reg; apply w_mvi; rfl; apply w_neq; rfl; rfl; apply w_done0; refine w_ifdT rfl (by omega) ?_; apply w_sq; apply w_reg)
            refine w_stE 4 [.slice none 0 0] rfl rfl rfl rfl (Nat.le_refl _) rfl rfl ?_
            refine w_stE 3 [.slice none 0 0] rfl rfl rfl rfl (Nat.le_refl _) rfl rfl ?_
            refine w_stE 2 [.int .i64 200] rfl rfl rfl rfl (Nat.le_refl _) rfl rfl ?_
            (apply w_done0; apply w_ret)
            exact Or.inr ⟨rfl, _, _, rfl, rfl, 200, _, _, _, hrd, (by decide), rfl⟩
        · have : j = zs.length := by omega
          subst this
          rw [List.take_length, hzs] at hja
          have hstep : readL s n (pagesN n) k [] [] (pagesN n) = readL s n (pagesN n) (hdF s k (i + 1)) (l1 ++ [hdF s k i]) (o1 ++ ((s.bytes (hdF s k i)).drop 2).take (min 254 (n - o1.length))) (pagesN n - (i + 1)) := by
            rw [q6, hst', readL, if_pos hlv, if_pos hh, if_pos hja]; rfl
          have htl : (((s.bytes (hdF s k i)).drop 2).take (min 254 (n - o1.length))).length = min 254 (n - o1.length) := by rw [List.length_take, List.length_drop]; omega
          (apply w_sq; apply w_reg; apply w_lss; rfl; rfl; apply w_done0; apply w_sq; refine w_ifdF rfl (by omega) ?_; apply w_exit)
          show gwp P _ _ _ _ _
          skip
          refine w_drawnA [] [bx b10 T10 [.slice oa o1.length oc], bx b9 T9 [.slice la' (l1 ++ [hdF s k i]).length lc'], bx b8 T8 [.int .i64 0], bx b7 T7 [.slice none 0 0], bx b6 T6 [.slice none 0 0], bx b5 T5 [.int .i64 n], ho, h'] rfl ?_
          (apply w_mvs; rfl; apply w_mvi; rfl; apply w_add; rfl; rfl; omega; omega)
          refine w_slMid (R := RByte) (sz := 1) (n := 2) (m := 2 + min 254 (n - o1.length)) rfl hv0 rfl rfl rfl (by omega) (by omega) ht2 (fun vm hvm => ?_)
          rw [Nat.add_sub_cancel_left] at hvm
          (apply w_ld; rfl; exact hc_i 0 rfl rfl)
          refine w_appG (R := RByte) 6 rfl rfl q3 rfl (RSl.src hvm cell1_byte (by omega) _) (by omega) (by rw [htl]; omega) (by rw [htl]; omega) (fun v'' h'' ho'' => ?_)
          obtain ⟨oa', oc', rfl⟩ := ho''.val
          (apply w_bar)
          refine w_stE 0 [.slice oa' (o1 ++ ((s.bytes (hdF s k i)).drop 2).take (min 254 (n - o1.length))).length oc'] rfl rfl rfl rfl (Nat.le_refl _) rfl rfl ?_
          (apply w_done0)
          exact Or.inl ⟨rfl, [bx b10 T10 [.slice oa' (o1 ++ ((s.bytes (hdF s k i)).drop 2).take (min 254 (n - o1.length))).length oc'], bx b9 T9 [.slice la' (l1 ++ [hdF s k i]).length lc'], bx b8 T8 [.int .i64 0], bx b7 T7 [.slice none 0 0], bx b6 T6 [.slice none 0 0], bx b5 T5 [.int .i64 n], h'', h'], by rw [rc_same hst hpd]; rfl, l1 ++ [hdF s k i], _, la', lc', oa', oc', h', h'', rfl, ho', ho'', by rw [hl1', q4], by rw [List.length_append, htl]; omega, hstep⟩
      · have hrd : readL s n (pagesN n) k [] [] (pagesN n) = ([], [], 200) := by rw [q6, hst', readL, if_pos hlv, if_neg hh]
        refine w_ifT (congrArg Value.bool (link_diff (by rw [hl1']; exact hh))) ?_
        (apply w_sq; apply w_reg)
        refine w_stE 4 [.slice none 0 0] rfl rfl rfl rfl (Nat.le_refl _) rfl rfl ?_
        refine w_stE 3 [.slice none 0 0] rfl rfl rfl rfl (Nat.le_refl _) rfl rfl ?_
        refine w_stE 2 [.int .i64 200] rfl rfl rfl rfl (Nat.le_refl _) rfl rfl ?_
        (apply w_done0; apply w_ret)
        exact Or.inr ⟨rfl, _, _, rfl, rfl, 200, _, _, _, hrd, (by decide), rfl⟩
    · rintro i hi d2 E2 hle ⟨l1, o1, la, lc, oa, oc, hl, ho, rfl, q2, q3, q4, q5, q6⟩ hlv
      refine gyield_of hrec hst rfl ?_
      have hrd : readL s n (pagesN n) k [] [] (pagesN n) = ([], [], 240) := by
        rw [q6, show pagesN n - i = (pagesN n - (i + 1)) + 1 by omega, readL, if_neg hlv]
      (apply w_sq; apply w_reg; apply w_mvi; rfl; apply w_done0; apply w_reg; apply w_mvs; rfl; apply w_done0; apply w_block; apply w_sq; apply w_sq; apply w_reg; apply w_mvs; rfl; apply w_eqsN; rfl; rfl; apply w_done0; apply w_ifT; rfl; apply w_sq; apply w_reg; apply w_mvi; rfl; apply w_neg; rfl; omega; omega)
      refine w_stE 4 [.slice none 0 0] rfl rfl rfl rfl (Nat.le_refl _) rfl rfl ?_
      refine w_stE 3 [.slice none 0 0] rfl rfl rfl rfl (Nat.le_refl _) rfl rfl ?_
      refine w_stE 2 [.int .i64 240] rfl rfl rfl rfl (Nat.le_refl _) rfl rfl ?_
      (apply w_done0; apply w_ret)
      exact ⟨rfl, _, _, rfl, rfl, 240, _, _, _, hrd, (by decide), rfl⟩
    · rintro u d3 L3 hl3 ⟨LP', E', rc', tc, rfl, hp3, h⟩
      refine ⟨d3, sg l (.loop rc') :: (E' ++ LP'), Vs.perm List.perm_append_comm, rc', _, rfl, ?_⟩
      rcases h with ⟨rfl, htc, l1, o1, la, lc, oa, oc, hl, ho, rfl, q2, q3, q4, q5, q6⟩ | ⟨rfl, e, x, y, R, hrd, hne, rfl⟩
      · refine ⟨(by rw [hst]; intro q; cases q), ?_⟩
        rw [hpd]
        have hll := q2.len_le
        rw [Nat.sub_self, readL] at q6
        rw [q6]
        show xwp P _ _ _ _ _
        (apply x_g; apply w_sq)
        refine w_drawnA [_, _] (bx b8 T8 [.int .i64 0] :: bx b7 T7 [.slice none 0 0] :: bx b6 T6 [.slice none 0 0] :: bx b5 T5 [.int .i64 n] :: ho :: hl :: LP') rfl ?_
        (apply w_ld; rfl; exact hc_i 1 rfl rfl; apply w_ld; rfl; exact hc_i 0 rfl rfl)
        refine w_stE 2 [.slice la l1.length lc] rfl rfl rfl rfl (Nat.le_refl _) rfl rfl ?_
        skip
        refine w_stE 1 [.slice oa o1.length oc] rfl rfl rfl rfl (Nat.le_refl _) rfl rfl ?_
        skip
        refine w_stE 0 [.int .i64 0] rfl rfl rfl rfl (Nat.le_refl _) rfl rfl ?_
        (apply w_done; apply w_ret)
        exact finV [.slice la l1.length lc, .slice oa o1.length oc, .int .i64 0] ⟨⟨_, _, rfl, hc_i 4 rfl rfl⟩, ⟨_, _, rfl, hc_i 3 rfl rfl⟩, ⟨_, _, rfl, hc_i 2 rfl rfl⟩, trivial⟩ (d' := join (join d3 ho) hl) (L' := LP') (read_vs _ _ _ _ _ _ _ _ _ _)
          ⟨(hl1.trans hl3).trans ((Le.join_left _ _).trans (Le.join_left _ _)), _, _, tc, rfl, GRow.rsl (R := RInt) (sz := 1) q2 mono_int (by omega) ((Le.join_left _ _).trans (Le.join_left _ _)) (Le.join_right _ _),
            GRow.rsl (R := RByte) (sz := 1) q3 mono_byte (by omega) ((Le.join_left _ _).trans (Le.join_left _ _)) ((Le.join_right _ _).trans (Le.join_left _ _)), hp3.mono ((Le.join_left _ _).trans (Le.join_left _ _)), fun _ => htc⟩
      · refine ⟨(by intro q; cases q), ?_⟩
        rw [hrd]
        exact finV [.slice none 0 0, .slice none 0 0, .int .i64 e] ⟨⟨_, _, rfl, hc_i 4 rfl rfl⟩, ⟨_, _, rfl, hc_i 3 rfl rfl⟩, ⟨_, _, rfl, hc_i 2 rfl rfl⟩, trivial⟩ (d' := d3) (L' := LP') (Vs.drop (List.sublist_append_right _ _)) ⟨hl1.trans hl3, _, _, tc, rfl, RSl.nil, RSl.nil, hp3, fun q => absurd q hne⟩
  · have hF : readF s k size = ([], [], 2) := by unfold readF; rw [if_neg hsz]
    rw [hF]
    by_cases hneg : size < 0
    · (apply x_sq; apply x_g; apply w_sq; apply w_reg; apply w_ld; rfl; exact hc_i 3 rfl rfl; apply w_lss; rfl; rfl; apply w_mvb; rfl; refine w_gdT rfl (by omega) ?_; apply w_gF; rfl; apply w_gF; rfl; apply w_pickTb; rfl; rfl; apply w_done0; apply w_ifT; rfl; apply w_sq; apply w_reg)
      refine w_stE 2 [.slice none 0 0] rfl rfl rfl rfl (Nat.le_refl _) rfl rfl ?_
      refine w_stE 1 [.slice none 0 0] rfl rfl rfl rfl (Nat.le_refl _) rfl rfl ?_
      refine w_stE 0 [.int .i64 2] rfl rfl rfl rfl (Nat.le_refl _) rfl rfl ?_
      (apply w_done0; apply w_ret)
      exact finV [.slice none 0 0, .slice none 0 0, .int .i64 2] ⟨⟨_, _, rfl, hc_i 2 rfl rfl⟩, ⟨_, _, rfl, hc_i 1 rfl rfl⟩, ⟨_, _, rfl, hc_i 0 rfl rfl⟩, trivial⟩ (d' := d) (L' := L) (Vs.drop (.cons _ (.cons _ (.cons _ (.cons _ (List.Sublist.refl _)))))) ⟨Le.refl _, _, _, s.tc, rfl, RSl.nil, RSl.nil, hp, fun q => absurd q (by decide)⟩
    · have hbig : 16384 < size := by omega
      (apply x_sq; apply x_g; apply w_sq; apply w_reg; apply w_ld; rfl; exact hc_i 3 rfl rfl; apply w_lss; rfl; rfl; apply w_mvb; rfl; refine w_gdF rfl (by omega) ?_; apply w_gT; rfl; apply w_ld; rfl; exact hc_i 3 rfl rfl; apply w_gT; rfl; apply w_gtr; rfl; rfl; apply w_pickFb; rfl; rfl; apply w_done0; refine w_ifdT rfl (by omega) ?_; apply w_sq; apply w_reg)
      refine w_stE 2 [.slice none 0 0] rfl rfl rfl rfl (Nat.le_refl _) rfl rfl ?_
      refine w_stE 1 [.slice none 0 0] rfl rfl rfl rfl (Nat.le_refl _) rfl rfl ?_
      refine w_stE 0 [.int .i64 2] rfl rfl rfl rfl (Nat.le_refl _) rfl rfl ?_
      (apply w_done0; apply w_ret)
      exact finV [.slice none 0 0, .slice none 0 0, .int .i64 2] ⟨⟨_, _, rfl, hc_i 2 rfl rfl⟩, ⟨_, _, rfl, hc_i 1 rfl rfl⟩, ⟨_, _, rfl, hc_i 0 rfl rfl⟩, trivial⟩ (d' := d) (L' := L) (Vs.drop (.cons _ (.cons _ (.cons _ (.cons _ (List.Sublist.refl _)))))) ⟨Le.refl _, _, _, s.tc, rfl, RSl.nil, RSl.nil, hp, fun q => absurd q (by decide)⟩
end Go.Gk.Chn
end

section
namespace Go.Gk.Chn
open Go Go.Gk Go.Gk.Dev Go.Gk.Cch Go.Gk.Pgr Go.Gk.Node
attribute [local irreducible] gwp gws xwp

def CGetsOk (P : Program) (f : FuncId) : Prop := ∀ {d : PHeap} {s : PD} {dv pv : Value} {L : List PHeap} {k size : Int}, Pg d s dv pv L →
  GCall P f [pv, .int .i64 k, .int .i64 size] d L (Ret fun r d' L' => Le d d' ∧ ∃ w tc, r = .tuple #[w, .int .i64 (readF s k size).2.2] ∧ RBytes d' w (readF s k size).2.1 ∧ Pg d' { s with tc := tc } dv pv L' ∧ ((readF s k size).2.2 = 0 → tc = s.tc + pagesN size.toNat))
def g_chain_Get (f_chain_read : Nat) : GFun :=
 ⟨21, [(.tmp 6), (.tmp 7)],
 (.seq
 (.reg false (.op false ⟨(some 6), none, (.mv (.const (.slice none 0 0)))⟩
  (.op false ⟨(some 7), none, (.mv (.const (.int .i64 0)))⟩ .done)))
 (.seq
 (.reg false (.op false ⟨(some 12), none, (.mv (.tmp 0))⟩
  (.op false ⟨(some 13), none, (.mv (.tmp 1))⟩
  (.op false ⟨(some 14), none, (.mv (.tmp 2))⟩
  (.op false ⟨(some 15), none, (.call f_chain_read [(.tmp 12), (.tmp 13), (.tmp 14)])⟩
  (.op false ⟨(some 11), none, (.mv (.tmp 15))⟩
  (.op false ⟨(some 16), none, (.ext (.tmp 11) 0)⟩
  (.op false ⟨(some 17), none, (.ext (.tmp 11) 1)⟩
  (.op false ⟨(some 18), none, (.ext (.tmp 11) 2)⟩
  (.op false ⟨(some 8), none, (.mv (.tmp 16))⟩
  (.op false ⟨(some 9), none, (.mv (.tmp 17))⟩
  (.op false ⟨(some 10), none, (.mv (.tmp 18))⟩ .done))))))))))))
 (.seq
 (.reg false (.op false ⟨(some 19), none, (.mv (.tmp 9))⟩
  (.op false ⟨(some 20), none, (.mv (.tmp 10))⟩
  (.op false ⟨(some 6), none, (.mv (.tmp 19))⟩
  (.op false ⟨(some 7), none, (.mv (.tmp 20))⟩ .done))))) .ret)))⟩

theorem cgets_ok {P : Program} {f f1 : FuncId} (hd : dec P f = some (g_chain_Get f1)) (h1 : CReadOk P f1) : CGetsOk P f := by
  intro d s dv pv L k size hp
  obtain ⟨bp, rfl⟩ := hp.ptr
  refine GCall_of hd (Nat.le_of_ble_eq_true rfl) ?_
  show gwp P _ _ _ _ _
  (apply w_sq; apply w_reg; apply w_mvs; rfl; apply w_mvi; rfl; apply w_done0; apply w_sq; apply w_reg; apply w_mvp; rfl; apply w_mvi; rfl; apply w_mvi; rfl)
  refine w_callO (h1 (k := k) (size := size) hp) rfl (fun u d2 L2 hl2 ⟨_, v, w, tc, e1, hv, hw, hp2, htc⟩ => ?_)
  subst e1
  (apply w_mvu; rfl; apply w_ext; rfl; rfl; apply w_ext; rfl; rfl; apply w_ext; rfl; rfl; apply w_mv; apply w_mv; apply w_mvi; rfl; apply w_done0; apply w_sq; apply w_reg; apply w_mv; apply w_mvi; rfl; apply w_mv; apply w_mvi; rfl; apply w_done0; apply w_ret)
  exact fin2 rfl rfl (List.Sublist.refl _) ⟨hl2, w, tc, rfl, hw, hp2, htc⟩
def CListOk (P : Program) (f : FuncId) : Prop := ∀ {d : PHeap} {s : PD} {dv pv : Value} {L : List PHeap} {k size : Int}, Pg d s dv pv L →
  GCall P f [pv, .int .i64 k, .int .i64 size] d L (Ret fun r d' L' => Le d d' ∧ ∃ w tc, r = .tuple #[w, .int .i64 (readF s k size).2.2] ∧ RInts d' w (readF s k size).1 ∧ Pg d' { s with tc := tc } dv pv L')
def g_chain_List (f_chain_read : Nat) : GFun :=
 ⟨21, [(.tmp 6), (.tmp 7)],
 (.seq
 (.reg false (.op false ⟨(some 6), none, (.mv (.const (.slice none 0 0)))⟩
  (.op false ⟨(some 7), none, (.mv (.const (.int .i64 0)))⟩ .done)))
 (.seq
 (.reg false (.op false ⟨(some 12), none, (.mv (.tmp 0))⟩
  (.op false ⟨(some 13), none, (.mv (.tmp 1))⟩
  (.op false ⟨(some 14), none, (.mv (.tmp 2))⟩
  (.op false ⟨(some 15), none, (.call f_chain_read [(.tmp 12), (.tmp 13), (.tmp 14)])⟩
  (.op false ⟨(some 11), none, (.mv (.tmp 15))⟩
  (.op false ⟨(some 16), none, (.ext (.tmp 11) 0)⟩
  (.op false ⟨(some 17), none, (.ext (.tmp 11) 1)⟩
  (.op false ⟨(some 18), none, (.ext (.tmp 11) 2)⟩
  (.op false ⟨(some 8), none, (.mv (.tmp 16))⟩
  (.op false ⟨(some 9), none, (.mv (.tmp 17))⟩
  (.op false ⟨(some 10), none, (.mv (.tmp 18))⟩ .done))))))))))))
 (.seq
 (.reg false (.op false ⟨(some 19), none, (.mv (.tmp 8))⟩
  (.op false ⟨(some 20), none, (.mv (.tmp 10))⟩
  (.op false ⟨(some 6), none, (.mv (.tmp 19))⟩
  (.op false ⟨(some 7), none, (.mv (.tmp 20))⟩ .done))))) .ret)))⟩

theorem clist_ok {P : Program} {f f1 : FuncId} (hd : dec P f = some (g_chain_List f1)) (h1 : CReadOk P f1) : CListOk P f := by
  intro d s dv pv L k size hp
  obtain ⟨bp, rfl⟩ := hp.ptr
  refine GCall_of hd (Nat.le_of_ble_eq_true rfl) ?_
  show gwp P _ _ _ _ _
  (apply w_sq; apply w_reg; apply w_mvs; rfl; apply w_mvi; rfl; apply w_done0; apply w_sq; apply w_reg; apply w_mvp; rfl; apply w_mvi; rfl; apply w_mvi; rfl)
  refine w_callO (h1 (k := k) (size := size) hp) rfl (fun u d2 L2 hl2 ⟨_, v, w, tc, e1, hv, hw, hp2, htc⟩ => ?_)
  subst e1
  (apply w_mvu; rfl; apply w_ext; rfl; rfl; apply w_ext; rfl; rfl; apply w_ext; rfl; rfl; apply w_mv; apply w_mv; apply w_mvi; rfl; apply w_done0; apply w_sq; apply w_reg; apply w_mv; apply w_mvi; rfl; apply w_mv; apply w_mvi; rfl; apply w_done0; apply w_ret)
  exact fin2 rfl rfl (List.Sublist.refl _) ⟨hl2, v, tc, rfl, hv, hp2⟩
def dropsF (s : PD) : List Int → PD × Int
  | [] => (s, 0)
  | k :: l => if (s.drop k).2 = 0 then dropsF (s.drop k).1 l else ((s.drop k).1, (s.drop k).2)
def cdropF (s : PD) (k size : Int) : PD × Int := if (readF s k size).2.2 = 0 then dropsF s (readF s k size).1 else (s, (readF s k size).2.2)
def CDropOk (P : Program) (f : FuncId) : Prop := ∀ {d : PHeap} {s : PD} {dv pv : Value} {L : List PHeap} {k size : Int}, Pg d s dv pv L →
  GCall P f [pv, .int .i64 k, .int .i64 size] d L (Ret fun r d' L' => Le d d' ∧ r = .int .i64 (cdropF s k size).2 ∧ ∃ tc, Pg d' { (cdropF s k size).1 with tc := tc } dv pv L')
theorem drop_tc {s : PD} {n : Nat} {k : Int} : PD.drop { s with tc := n } k = ({ (s.drop k).1 with tc := n }, (s.drop k).2) := by
  unfold PD.drop
  show (if s.kind k = 1 then _ else if s.kind k = 2 then _ else _) = _
  by_cases h1 : s.kind k = 1
  · simp only [if_pos h1]
  · by_cases h2 : s.kind k = 2
    · simp only [if_neg h1, if_pos h2]
    · simp only [if_neg h1, if_neg h2]
def g_chain_Drop (f_chain_read f_pager_Pager_Drop : Nat) : GFun :=
 ⟨37, [(.tmp 6)],
 (.seq
 (.reg false (.op false ⟨(some 6), none, (.mv (.const (.int .i64 0)))⟩ .done))
 (.seq
 (.reg false (.op false ⟨(some 14), none, (.mv (.tmp 0))⟩
  (.op false ⟨(some 15), none, (.mv (.tmp 1))⟩
  (.op false ⟨(some 16), none, (.mv (.tmp 2))⟩
  (.op false ⟨(some 17), none, (.call f_chain_read [(.tmp 14), (.tmp 15), (.tmp 16)])⟩
  (.op false ⟨(some 13), none, (.mv (.tmp 17))⟩
  (.op false ⟨(some 18), none, (.ext (.tmp 13) 0)⟩
  (.op false ⟨(some 19), none, (.ext (.tmp 13) 1)⟩
  (.op false ⟨(some 20), none, (.ext (.tmp 13) 2)⟩
  (.op false ⟨(some 7), none, (.mv (.tmp 18))⟩
  (.op false ⟨(some 8), none, (.mv (.tmp 19))⟩
  (.op false ⟨(some 9), none, (.mv (.tmp 20))⟩ .done))))))))))))
 (.seq (.seq
 (.reg false (.op false ⟨(some 21), none, (.mv (.tmp 9))⟩
  (.op false ⟨(some 22), none, (.bin .neq (.tmp 21) (.const (.int .i64 0)))⟩ .done))) (.cond (.tmp 22)
 (.seq
 (.reg false (.op false ⟨(some 23), none, (.mv (.tmp 9))⟩
  (.op false ⟨(some 6), none, (.mv (.tmp 23))⟩ .done))) .ret) .skip))
 (.seq (.seq
 (.reg false (.op false ⟨(some 24), none, (.mv (.tmp 7))⟩
  (.op false ⟨(some 25), none, (.len (.tmp 24))⟩
  (.op false ⟨(some 26), none, (.mv (.const (.int .i64 0)))⟩ .done)))) (.block 0 (.loop
 (.seq
 (.reg false (.op false ⟨(some 27), none, (.bin .lss (.tmp 26) (.tmp 25))⟩ .done))
 (.seq (.cond (.tmp 27) .skip (.exit 0))
 (.seq (.block 1
 (.seq
 (.reg false (.op false ⟨(some 28), none, (.idx 1 (.tmp 24) (.tmp 26))⟩
  (.op false ⟨(some 29), none, (.ld none (.tmp 28))⟩
  (.op false ⟨(some 11), none, (.mv (.tmp 29))⟩ .done))))
 (.seq
 (.reg false (.op false ⟨(some 30), none, (.mv (.tmp 0))⟩
  (.op false ⟨(some 31), none, (.mv (.tmp 11))⟩
  (.op false ⟨(some 32), none, (.call f_pager_Pager_Drop [(.tmp 30), (.tmp 31)])⟩
  (.op false ⟨(some 12), none, (.mv (.tmp 32))⟩ .done)))))
 (.seq
 (.reg false (.op false ⟨(some 33), none, (.mv (.tmp 12))⟩
  (.op false ⟨(some 34), none, (.bin .neq (.tmp 33) (.const (.int .i64 0)))⟩ .done))) (.cond (.tmp 34)
 (.seq
 (.reg false (.op false ⟨(some 35), none, (.mv (.tmp 12))⟩
  (.op false ⟨(some 6), none, (.mv (.tmp 35))⟩ .done))) .ret) .skip)))))
 (.reg false (.op false ⟨(some 36), none, (.bin .add (.tmp 26) (.const (.int .i64 1)))⟩
  (.op false ⟨(some 26), none, (.mv (.tmp 36))⟩ .done)))))))))
 (.seq
 (.reg false (.op false ⟨(some 6), none, (.mv (.const (.int .i64 0)))⟩ .done)) .ret)))))⟩

set_option maxRecDepth 4000 in
theorem cdrop_ok {P : Program} {f f1 f2 : FuncId} (hd : dec P f = some (g_chain_Drop f1 f2)) (h1 : CReadOk P f1) (h2 : DropOk P f2) : CDropOk P f := by
  intro d s dv pv L k size hp
  obtain ⟨bp, rfl⟩ := hp.ptr
  refine GCall_of hd (Nat.le_of_ble_eq_true rfl) ?_
  show gwp P _ _ _ _ _
  (apply w_sq; apply w_reg; apply w_mvi; rfl; apply w_done0; apply w_sq; apply w_reg; apply w_mvp; rfl; apply w_mvi; rfl; apply w_mvi; rfl)
  refine w_callO (h1 (k := k) (size := size) hp) rfl (fun u d2 L2 hl2 ⟨_, v, w, tc, e1, hv, hw, hp2, htc⟩ => ?_)
  subst e1
  by_cases hz : (readF s k size).2.2 = 0
  · have hF : cdropF s k size = dropsF s (readF s k size).1 := by unfold cdropF; rw [if_pos hz]
    rw [hF]
    generalize (readF s k size).1 = l at hv
    have hll := hv.len_le
    (apply w_mvu; rfl; apply w_ext; rfl; rfl; apply w_ext; rfl; rfl; apply w_ext; rfl; rfl; apply w_mv; apply w_mv; apply w_mvi; rfl; apply w_done0; apply w_sq; apply w_sq; apply w_reg; apply w_mvi; rfl; apply w_neq; rfl; rfl; apply w_done0; refine w_ifdF rfl (by omega) ?_; apply w_skip; apply w_sq; apply w_sq; apply w_reg; apply w_mv; apply w_lenR; rfl; assumption; apply w_mvi; rfl; apply w_done0; apply w_block)
    refine w_loopS (α := Nat × PD) (fun x => [(0, .pointer (some ⟨bp, 0, none⟩)), (24, v), (25, .int .i64 l.length), (26, .int .i64 x.1)])
      (fun x d' L' => Le d2 d' ∧ x.1 ≤ l.length ∧ dropsF s l = dropsF x.2 (l.drop x.1) ∧ Pg d' { x.2 with tc := tc } dv (.pointer (some ⟨bp, 0, none⟩)) L') (fun x => l.length - x.1) (0, s) ⟨rfl, rfl, rfl, rfl, trivial⟩ ⟨Le.refl _, Nat.zero_le _, rfl, hp2⟩ ?_
    rintro ⟨i, s1⟩ ρ d' L' ⟨hle, hi, hD, hp'⟩
    simp only at hi hD hp' ⊢
    have hv' := RSl.mono (R := RInt) mono_int hv hle
    by_cases e : i < l.length
    · rw [List.drop_eq_getElem_cons e, dropsF] at hD
      (apply w_sq; apply w_reg; apply w_lss; rfl; rfl; apply w_done0; apply w_sq; refine w_ifdT rfl (by omega) ?_; apply w_skip; apply w_sq; apply w_block; apply w_sq; apply w_reg; refine w_idxR (sz := 1) (R := RInt) (by rfl) (by assumption) (by rfl) rfl (by omega) ?_; rintro _ _ _ _ _ ⟨rfl, _, _⟩; apply w_ld; rfl; exact hc_ds0 (by assumption) rfl; apply w_mvi; rfl; apply w_done0; apply w_sq; apply w_reg; apply w_mvp; rfl; apply w_mvi; rfl)
      refine w_callO (h2 (k := l[i]) hp') rfl (fun u d3 L3 hl3 ⟨q1, q2⟩ => ?_)
      rw [drop_tc] at q1 q2
      subst q1
      by_cases hd0 : (s1.drop l[i]).2 = 0
      · rw [if_pos hd0] at hD
        (apply w_mvi; rfl; apply w_done0; apply w_sq; apply w_reg; apply w_mvi; rfl; apply w_neq; rfl; rfl; apply w_done0; refine w_ifdF rfl (by omega) ?_; apply w_skip; apply w_reg; apply w_add; rfl; rfl; omega; omega; apply w_mvi; rfl; apply w_done0)
        exact ⟨(i + 1, (s1.drop l[i]).1), by simp only; omega, ⟨rfl, rfl, rfl, rfl, trivial⟩, hle.trans hl3, e, hD, q2⟩
      · rw [if_neg hd0] at hD
        rw [hD]
        (apply w_mvi; rfl; apply w_done0; apply w_sq; apply w_reg; apply w_mvi; rfl; apply w_neq; rfl; rfl; apply w_done0; refine w_ifdT rfl (by omega) ?_; apply w_sq; apply w_reg; apply w_mvi; rfl; apply w_mvi; rfl; apply w_done0; apply w_ret)
        exact fin1 rfl (List.Sublist.refl _) ⟨(hl2.trans hle).trans hl3, rfl, tc, q2⟩
    · have : i = l.length := by omega
      subst this
      rw [List.drop_length, dropsF] at hD
      rw [hD]
      (apply w_sq; apply w_reg; apply w_lss; rfl; rfl; apply w_done0; apply w_sq; refine w_ifdF rfl (by omega) ?_; apply w_exit; apply w_sq; apply w_reg; apply w_mvi; rfl; apply w_done0; apply w_ret)
      exact fin1 rfl (List.Sublist.refl _) ⟨hl2.trans hle, rfl, tc, hp'⟩
  · have hF : cdropF s k size = (s, (readF s k size).2.2) := by unfold cdropF; rw [if_neg hz]
    rw [hF]
    (apply w_mvu; rfl; apply w_ext; rfl; rfl; apply w_ext; rfl; rfl; apply w_ext; rfl; rfl; apply w_mv; apply w_mv; apply w_mvi; rfl; apply w_done0; apply w_sq; apply w_sq; apply w_reg; apply w_mvi; rfl; apply w_neq; rfl; rfl; apply w_done0; refine w_ifdT rfl (by omega) ?_; apply w_sq; apply w_reg; apply w_mvi; rfl; apply w_mvi; rfl; apply w_done0; apply w_ret)
    exact fin1 rfl (List.Sublist.refl _) ⟨hl2, rfl, tc, hp2⟩
end Go.Gk.Chn
end

section
namespace Go.Gk.Chn
open Go Go.Gk Go.Gk.Dev Go.Gk.Cch Go.Gk.Pgr

structure Tk (s0 s : PD) (l : List Int) : Prop where
  frm : s.frm = s0.frm
  syn : s.syn = s0.syn
  round : s.round = s0.round
  len : s.kinds.length = s0.kinds.length
  kd : ∀ j, j < s0.kinds.length → s.kd j = if ((s0.frm + j : Nat) : Int) ∈ l then 1 else s0.kd j
  was : ∀ k ∈ l, ∃ j, j < s0.kinds.length ∧ k = ((s0.frm + j : Nat) : Int) ∧ s0.kd j = 0
  nd : l.Nodup
  fb : ∀ j, ((s0.frm + j : Nat) : Int) ∉ l → s.fb j = s0.fb j
  free : s.free + l.length = s0.free
theorem Tk.nil (s : PD) : Tk s s [] := ⟨rfl, rfl, rfl, rfl, fun j _ => (by simp), fun k hk => (by cases hk), List.nodup_nil, fun _ _ => rfl, rfl⟩
theorem free_set {s : PD} {i : Nat} {x : Int} (hi : i < s.kinds.length) : (s.kinds.set i x).countP (· == 0) + (if s.kinds[i] = 0 then 1 else 0) = s.free + (if x = 0 then 1 else 0) := by
  rw [List.countP_set hi]
  have hp : s.kinds[i] = 0 → 0 < s.free := fun h => List.countP_pos_iff.2 ⟨_, List.getElem_mem hi, by simp [h]⟩
  have hf : s.free = s.kinds.countP (· == 0) := rfl
  rw [hf] at hp ⊢
  by_cases h0 : s.kinds[i] = 0
  · have := hp h0
    by_cases hx : x = 0
    · simp [h0, hx]; omega
    · simp [h0, hx]; omega
  · by_cases hx : x = 0
    · simp [h0, hx]
    · simp [h0, hx]
theorem place0_none {l : List Int} (h : place0 0 l = none) : l.countP (· == 0) = 0 := by
  rw [List.countP_eq_zero]
  intro a ha e
  have : a = 0 := by simpa using e
  subst this
  clear e
  induction l with
  | nil => cases ha
  | cons y l ih =>
    rw [place0] at h
    split at h
    · cases h
    · rename_i hne
      rcases List.mem_cons.1 ha with rfl | ha
      · exact hne rfl
      · exact ih (by cases q : place0 0 l with | none => rfl | some j => rw [q] at h; cases h) ha
theorem Tk.take {s0 s : PD} {l : List Int} (h : Tk s0 s l) : (s.takeR.2.2 = 0 ∧ Tk s0 s.takeR.1 (l ++ [s.takeR.2.1])) ∨ (s.takeR.2.2 = 190 ∧ s.takeR.1 = s ∧ s.free = 0) := by
  unfold PD.takeR
  cases hq : place0 0 s.kinds with
  | none => exact .inr ⟨rfl, rfl, place0_none hq⟩
  | some i =>
    obtain ⟨hi, h0⟩ := place0_some hq
    refine .inl ⟨rfl, ?_⟩
    show Tk s0 (s.takeAt i) (l ++ [((s.frm + i : Nat) : Int)])
    have hi0 : i < s0.kinds.length := by rw [← h.len]; exact hi
    have hnot : ((s0.frm + i : Nat) : Int) ∉ l := fun hm => by
      have := h.kd i hi0
      rw [if_pos hm, kd_get hi, h0] at this
      cases this
    have h00 : s0.kd i = 0 := by
      have := h.kd i hi0
      rw [if_neg hnot, kd_get hi, h0] at this
      exact this.symm
    rw [h.frm]
    refine ⟨h.frm, h.syn, h.round, by simp [PD.takeAt, h.len], fun j hj => ?_, fun k hk => ?_, ?_, fun j hj => ?_, ?_⟩
    · show (s.kinds.set i 1).getD j 0 = _
      rw [getD_set hi]
      by_cases e : j = i
      · subst e; rw [if_pos rfl, if_pos (by simp)]
      · rw [if_neg e, show s.kinds.getD j 0 = s.kd j from rfl, h.kd j hj]
        by_cases hm : ((s0.frm + j : Nat) : Int) ∈ l
        · rw [if_pos hm, if_pos (List.mem_append_left _ hm)]
        · rw [if_neg hm, if_neg]
          intro hm'
          rcases List.mem_append.1 hm' with q | q
          · exact hm q
          · have := List.mem_singleton.1 q; omega
    · rcases List.mem_append.1 hk with q | q
      · exact h.was k q
      · exact ⟨i, hi0, List.mem_singleton.1 q, h00⟩
    · refine List.nodup_append.2 ⟨h.nd, by simp, fun a ha b hb => ?_⟩
      rw [List.mem_singleton.1 hb]
      exact fun e => hnot (e ▸ ha)
    · show setB s.fb i zsec j = s0.fb j
      have hne : j ≠ i := fun e => hj (by rw [e]; simp)
      rw [setB, if_neg hne]
      exact h.fb j (fun q => hj (List.mem_append_left _ q))
    · have hf := free_set (s := s) (i := i) (x := 1) hi
      rw [if_pos h0, if_neg (by decide)] at hf
      have := h.free
      show (s.kinds.set i 1).countP (· == 0) + (l ++ [_]).length = s0.free
      rw [List.length_append, List.length_singleton]
      omega
theorem takeL_ok {s0 : PD} : ∀ {n : Nat} {s : PD} {l : List Int}, Tk s0 s l → Tk s0 (takeL s l n).1 (takeL s l n).2.1 ∧ (((takeL s l n).2.2 = 0 ∧ n ≤ s.free) ∨ ((takeL s l n).2.2 = 190 ∧ s.free < n))
  | 0, s, l, h => ⟨h, .inl ⟨rfl, Nat.zero_le _⟩⟩
  | n + 1, s, l, h => by
    rw [takeL]
    rcases h.take with ⟨h1, h2⟩ | ⟨h1, h2, h3⟩
    · rw [if_pos h1]
      obtain ⟨k1, k2⟩ := takeL_ok (n := n) h2
      have hf := h2.free
      have hf0 := h.free
      rw [List.length_append, List.length_singleton] at hf
      refine ⟨k1, ?_⟩
      rcases k2 with ⟨k2, k3⟩ | ⟨k2, k3⟩
      · exact .inl ⟨k2, by omega⟩
      · exact .inr ⟨k2, by omega⟩
    · rw [if_neg (by rw [h1]; decide)]
      simp only
      rw [h2]
      exact ⟨h, .inr ⟨h1, by omega⟩⟩
end Go.Gk.Chn
end

section
namespace Go.Gk.Chn
open Go Go.Gk Go.Gk.Dev Go.Gk.Cch Go.Gk.Pgr

theorem link_page {x : Int} {c : List UInt8} (h0 : 0 ≤ x) (h1 : x < 65536) : ((linkF (pageF x c) : Nat) : Int) = x := by
  unfold linkF pageF
  simp only [List.getD_cons_zero, List.getD_cons_succ, UInt8.toNat_ofNat']
  omega
theorem page_tail {x : Int} {c : List UInt8} : ((pageF x c).drop (2 + c.length)).all (· == 0) = true := by
  unfold pageF
  rw [Nat.add_comm 2]
  show ((c ++ List.replicate (254 - c.length) 0).drop c.length).all (· == 0) = true
  rw [List.drop_left]
  simp
theorem page_mid {x : Int} {c : List UInt8} : ((pageF x c).drop 2).take c.length = c := by
  unfold pageF
  show (c ++ List.replicate (254 - c.length) 0).take c.length = c
  rw [List.take_left]
structure Chain (s : PD) (b : List UInt8) (l : List Int) : Prop where
  len : l.length = pagesN b.length
  rng : ∀ k ∈ l, 0 ≤ k ∧ k < 65535
  live : ∀ j (h : j < l.length), liveK s l[j]
  pg : ∀ j (h : j < l.length), s.bytes l[j] = pageF (l.getD (j + 1) 65535) (chunkF b j)
theorem chunk_len {b : List UInt8} {i : Nat} : (chunkF b i).length = min 254 (b.length - i * 254) := by unfold chunkF; rw [List.length_take, List.length_drop]
theorem chunk_take {b : List UInt8} {i : Nat} : b.take (i * 254) ++ chunkF b i = b.take ((i + 1) * 254) := by
  unfold chunkF
  rw [show (i + 1) * 254 = i * 254 + 254 by omega, List.take_add]
theorem getD_at {l : List Int} {i : Nat} {x : Int} (h : i < l.length) : l.getD i x = l[i] := by rw [List.getD_eq_getElem?_getD, List.getElem?_eq_getElem h]; rfl
theorem getD_end {l : List Int} {i : Nat} {x : Int} (h : l.length ≤ i) : l.getD i x = x := by rw [List.getD_eq_getElem?_getD, List.getElem?_eq_none h]; rfl
theorem readL_chain {s : PD} {b : List UInt8} {l : List Int} (h : Chain s b l) : ∀ {m i : Nat}, i + m = l.length → readL s b.length l.length (l.getD i 65535) (l.take i) (b.take (i * 254)) m = (l, b, 0)
  | 0, i, hm => by
    have hl := h.len
    rw [readL, List.take_of_length_le (by omega), List.take_of_length_le (by unfold pagesN at hl; omega)]
  | m + 1, i, hm => by
    have hi : i < l.length := by omega
    have hl := h.len
    have hb : i * 254 ≤ b.length := pages_mul (by omega)
    rw [getD_at hi, readL, if_pos (h.live i hi), h.pg i hi]
    have hnx : 0 ≤ l.getD (i + 1) 65535 ∧ l.getD (i + 1) 65535 < 65536 := by
      by_cases e : i + 1 < l.length
      · rw [getD_at e]; have := h.rng _ (List.getElem_mem e); omega
      · rw [getD_end (by omega)]; decide
    have hlk := link_page (c := chunkF b i) hnx.1 hnx.2
    have htl : (l.take i).length = i := by rw [List.length_take]; omega
    have hc : (linkF (pageF (l.getD (i + 1) 65535) (chunkF b i)) = 65535) = ((l.take i).length + 1 = l.length) := by
      rw [htl]
      refine propext ⟨fun q => ?_, fun q => ?_⟩
      · by_cases e : i + 1 < l.length
        · rw [getD_at e] at hlk q
          have := h.rng _ (List.getElem_mem e)
          rw [q] at hlk; omega
        · omega
      · rw [getD_end (by omega)] at hlk
        rw [getD_end (by omega)]
        omega
    rw [if_pos hc]
    have hbt : (b.take (i * 254)).length = i * 254 := by rw [List.length_take]; omega
    have hmn : min 254 (b.length - (b.take (i * 254)).length) = (chunkF b i).length := by rw [hbt, chunk_len]
    rw [hmn, page_tail, if_pos rfl, page_mid, chunk_take, hlk, show l.take i ++ [l[i]] = l.take (i + 1) from (List.take_succ_eq_append_getElem hi).symm]
    exact readL_chain h (by omega)
theorem pages_one {n : Nat} : 1 ≤ pagesN n := by unfold pagesN; omega
theorem readF_chain {s : PD} {b : List UInt8} {l : List Int} (h : Chain s b l) (hb : b.length ≤ 16384) : readF s (l.getD 0 0) b.length = (l, b, 0) := by
  unfold readF
  rw [if_pos (by omega), Int.toNat_natCast, ← h.len]
  have h0 : 0 < l.length := by rw [h.len]; exact pages_one
  have := readL_chain h (m := l.length) (i := 0) (by omega)
  rw [getD_at h0] at this ⊢
  simpa using this
end Go.Gk.Chn
end

section
namespace Go.Gk.Chn
open Go Go.Gk Go.Gk.Dev Go.Gk.Cch Go.Gk.Pgr

theorem put_fresh {s : PD} {k : Int} {b : Sec} (hk : s.kind k = 1) (hb : b.length = 256) : (s.put k b).1 = { s with fb := setB s.fb (k - s.frm).toNat b } := by
  unfold PD.put; rw [if_pos hk, if_pos hb]
theorem put_kind {s : PD} {k k' : Int} {b : Sec} (hk : s.kind k = 1) (hb : b.length = 256) : (s.put k b).1.kind k' = s.kind k' := by rw [put_fresh hk hb]; rfl
theorem put_bytes {s : PD} {k k' : Int} {b : Sec} (hk : s.kind k = 1) (hb : b.length = 256) : (s.put k b).1.bytes k' = if k' = k then b else s.bytes k' := by
  have hkk := put_kind (k' := k') hk hb
  unfold PD.bytes
  rw [hkk, put_fresh hk hb]
  obtain ⟨i, i1, rfl, i2, i3⟩ := kind_in hk (by omega)
  by_cases e : k' = ((s.frm + i : Nat) : Int)
  · subst e
    rw [if_pos hk, if_pos rfl]
    show setB s.fb _ b _ = b
    rw [setB, if_pos rfl]
  · rw [if_neg e]
    by_cases h1 : s.kind k' = 1
    · rw [if_pos h1, if_pos h1]
      obtain ⟨j, j1, rfl, j2, j3⟩ := kind_in h1 (by omega)
      show setB s.fb _ b _ = s.fb _
      rw [setB, i3, j3, if_neg (fun q => e (by rw [q]))]
    · rw [if_neg h1, if_neg h1]
theorem page_len {x : Int} {b : List UInt8} {i : Nat} : (pageF x (chunkF b i)).length = 256 := by
  have := chunk_len (b := b) (i := i)
  unfold pageF; simp only [List.length_cons, List.length_append, List.length_replicate]; omega
theorem nodup_inj {l : List Int} (hn : l.Nodup) {i j : Nat} (hi : i < l.length) (hj : j < l.length) (e : l[i] = l[j]) : i = j := by
  rcases Nat.lt_trichotomy i j with h | h | h
  · exact absurd e (List.pairwise_iff_getElem.1 hn i j hi hj h)
  · exact h
  · exact absurd e.symm (List.pairwise_iff_getElem.1 hn j i hj hi h)
structure Like (s t : PD) : Prop where
  frm : t.frm = s.frm
  kinds : t.kinds = s.kinds
  syn : t.syn = s.syn
  round : t.round = s.round
theorem Like.refl (s : PD) : Like s s := ⟨rfl, rfl, rfl, rfl⟩
theorem Like.kind {s t : PD} (h : Like s t) (k : Int) : t.kind k = s.kind k := by unfold PD.kind PD.kd; rw [h.frm, h.kinds]
theorem Like.free {s t : PD} (h : Like s t) : t.free = s.free := by unfold PD.free; rw [h.kinds]
theorem putL_ok {t : PD} {l : List Int} {b : List UInt8} (hf : ∀ k ∈ l, t.kind k = 1) (hn : l.Nodup) : ∀ {i : Nat}, i ≤ l.length → Like t (putL t l b i) ∧
    (∀ j (hj : j < l.length), j < i → (putL t l b i).bytes l[j] = pageF (l.getD (j + 1) 65535) (chunkF b j)) ∧ ∀ k, k ∉ l → (putL t l b i).bytes k = t.bytes k
  | 0, _ => ⟨Like.refl t, fun j _ h => absurd h (Nat.not_lt_zero j), fun _ _ => rfl⟩
  | i + 1, hi => by
    obtain ⟨h1, h2, h3⟩ := putL_ok (b := b) hf hn (i := i) (by omega)
    have hi' : i < l.length := by omega
    have hk : (putL t l b i).kind l[i] = 1 := by rw [h1.kind]; exact hf _ (List.getElem_mem hi')
    rw [putL, getD_at hi']
    refine ⟨?_, fun j hj hji => ?_, fun k hkl => ?_⟩
    · rw [put_fresh hk page_len]; exact ⟨h1.frm, h1.kinds, h1.syn, h1.round⟩
    · rw [put_bytes hk page_len]
      by_cases e : j = i
      · subst e; rw [if_pos rfl]
      · rw [if_neg (fun q => e (nodup_inj hn hj hi' q))]
        exact h2 j hj (by omega)
    · rw [put_bytes hk page_len, if_neg (fun (q : k = l[i]) => hkl (by rw [q]; exact List.getElem_mem hi'))]
      exact h3 k hkl
theorem Tk.kind {s0 s : PD} {l : List Int} (h : Tk s0 s l) (k : Int) : s.kind k = if k ∈ l then 1 else s0.kind k := by
  unfold PD.kind
  rw [h.frm, h.len]
  by_cases e : (s0.frm : Int) ≤ k ∧ k < (s0.frm : Int) + s0.kinds.length
  · rw [if_pos e, if_pos e, h.kd _ (by omega), show ((s0.frm + (k - s0.frm).toNat : Nat) : Int) = k by omega]
  · rw [if_neg e, if_neg e]
    rw [if_neg]
    intro hm
    obtain ⟨j, j1, j2, -⟩ := h.was k hm
    omega
theorem Tk.not {s0 s : PD} {l : List Int} (h : Tk s0 s l) {k : Int} (hk : s0.kind k ≠ 0) : k ∉ l := fun hm => by
  obtain ⟨j, j1, rfl, j3⟩ := h.was k hm
  rw [kind_at j1] at hk
  exact hk j3
theorem Tk.bytes {s0 s : PD} {l : List Int} (h : Tk s0 s l) {k : Int} (hk : k ∉ l) : s.bytes k = s0.bytes k := by
  have hkk := h.kind k
  rw [if_neg hk] at hkk
  unfold PD.bytes
  rw [hkk, h.syn]
  by_cases h1 : s0.kind k = 1
  · rw [if_pos h1, if_pos h1]
    obtain ⟨j, j1, rfl, j2, j3⟩ := kind_in h1 (by omega)
    rw [h.frm, j3]
    exact h.fb j hk
  · rw [if_neg h1, if_neg h1]
theorem cput_room {s : PD} (hG : Pgr.Good s) {b : List UInt8} (hr : pagesN b.length ≤ s.free) : ∃ t l, cputF s b = (t, l.getD 0 0, 0) ∧ Chain t b l ∧ (∀ k ∈ l, t.kind k = 1 ∧ s.kind k = 0) ∧ t.free + l.length = s.free ∧ l.length = pagesN b.length ∧
    (∀ k, k ∉ l → t.kind k = s.kind k ∧ t.bytes k = s.bytes k) ∧ l.Nodup := by
  obtain ⟨h1, h2⟩ := takeL_ok (n := pagesN b.length) (Tk.nil s)
  have hz : (takeL s [] (pagesN b.length)).2.2 = 0 := by
    rcases h2 with ⟨q, -⟩ | ⟨-, q⟩
    · exact q
    · omega
  have ht : takenF s (pagesN b.length) = takeL s [] (pagesN b.length) := by unfold takenF; rw [if_pos hz]
  have hlen : (takeL s [] (pagesN b.length)).2.1.length = pagesN b.length := by have := takeL_len hz; simpa using this
  have hc : cputF s b = (putL (takeL s [] (pagesN b.length)).1 (takeL s [] (pagesN b.length)).2.1 b (takeL s [] (pagesN b.length)).2.1.length, (takeL s [] (pagesN b.length)).2.1.getD 0 0, 0) := by
    unfold cputF; rw [ht]; simp only [hz, if_true]
  rw [hc]
  generalize (takeL s [] (pagesN b.length)).1 = t at h1
  generalize (takeL s [] (pagesN b.length)).2.1 = l at h1 hlen
  have hf : ∀ k ∈ l, t.kind k = 1 := fun k hk => by rw [h1.kind, if_pos hk]
  obtain ⟨p1, p2, p3⟩ := putL_ok (b := b) hf h1.nd (i := l.length) (Nat.le_refl _)
  refine ⟨_, l, rfl, ⟨hlen, fun k hk => ?_, fun j hj => ?_, fun j hj => p2 j hj hj⟩, fun k hk => ⟨by rw [p1.kind]; exact hf k hk, ?_⟩, by rw [p1.free]; exact h1.free, hlen, fun k hk => ⟨?_, ?_⟩, h1.nd⟩
  · obtain ⟨j, j1, rfl, -⟩ := h1.was k hk
    have := hG.inn
    have := hG.syn
    omega
  · exact .inl (by rw [p1.kind]; exact hf _ (List.getElem_mem hj))
  · obtain ⟨j, j1, rfl, j3⟩ := h1.was k hk
    rw [kind_at j1]; exact j3
  · rw [p1.kind, h1.kind, if_neg hk]
  · rw [p3 k hk, h1.bytes hk]
theorem Chain.stay {s t : PD} {b : List UInt8} {l : List Int} (h : Chain s b l) (hs : ∀ k ∈ l, t.kind k = s.kind k ∧ t.bytes k = s.bytes k) : Chain t b l :=
  ⟨h.len, h.rng, fun j hj => by unfold liveK; rw [(hs _ (List.getElem_mem hj)).1]; exact h.live j hj, fun j hj => by rw [(hs _ (List.getElem_mem hj)).2]; exact h.pg j hj⟩
end Go.Gk.Chn
end

section
namespace Go.Gk.Chn
open Go Go.Gk Go.Gk.Dev Go.Gk.Cch Go.Gk.Pgr

theorem drop_fresh {s : PD} {i : Nat} (hi : i < s.kinds.length) (hk : s.kd i = 1) : s.drop ((s.frm + i : Nat) : Int) = ({ s with kinds := s.kinds.set i 0 }, 0) := by
  unfold PD.drop
  rw [if_pos (by rw [kind_at hi]; exact hk), show (((s.frm + i : Nat) : Int) - s.frm).toNat = i by omega]
theorem drop_kind {s : PD} {i : Nat} {k : Int} (hi : i < s.kinds.length) (hk : s.kd i = 1) : (s.drop ((s.frm + i : Nat) : Int)).1.kind k = if k = ((s.frm + i : Nat) : Int) then 0 else s.kind k := by
  rw [drop_fresh hi hk]
  by_cases e : k = ((s.frm + i : Nat) : Int)
  · subst e
    rw [if_pos rfl]
    have : i < ({ s with kinds := s.kinds.set i 0 } : PD).kinds.length := by simpa using hi
    rw [show ((s.frm + i : Nat) : Int) = ((({ s with kinds := s.kinds.set i 0 } : PD).frm + i : Nat) : Int) from rfl, kind_at this]
    show (s.kinds.set i 0).getD i 0 = 0
    rw [getD_set hi, if_pos rfl]
  · rw [if_neg e]
    unfold PD.kind
    simp only [List.length_set]
    by_cases q : (s.frm : Int) ≤ k ∧ k < (s.frm : Int) + s.kinds.length
    · rw [if_pos q, if_pos q]
      show (s.kinds.set i 0).getD _ 0 = s.kinds.getD _ 0
      rw [getD_set hi, if_neg (by omega)]
    · rw [if_neg q, if_neg q]
theorem drop_bytes {s : PD} {i : Nat} {k : Int} (hi : i < s.kinds.length) (hk : s.kd i = 1) (e : k ≠ ((s.frm + i : Nat) : Int)) : (s.drop ((s.frm + i : Nat) : Int)).1.bytes k = s.bytes k := by
  have h := drop_kind (k := k) hi hk
  rw [if_neg e] at h
  unfold PD.bytes
  rw [h, drop_fresh hi hk]
theorem drops_ok : ∀ {l : List Int} {s : PD}, (∀ k ∈ l, s.kind k = 1) → l.Nodup → (dropL s l).free = s.free + l.length ∧ dropsF s l = (dropL s l, 0) ∧ (∀ k ∈ l, (dropL s l).kind k = 0) ∧ ∀ k, k ∉ l → (dropL s l).kind k = s.kind k ∧ (dropL s l).bytes k = s.bytes k
  | [], s, _, _ => ⟨rfl, rfl, fun k h => (by cases h), fun _ _ => ⟨rfl, rfl⟩⟩
  | k :: l, s, hf, hn => by
    obtain ⟨hnk, hn'⟩ := List.nodup_cons.1 hn
    obtain ⟨i, hi, rfl, hki, -⟩ := kind_in (hf k (List.mem_cons_self ..)) (by omega)
    have hd := drop_fresh hi hki
    have hf' : ∀ k' ∈ l, (s.drop ((s.frm + i : Nat) : Int)).1.kind k' = 1 := fun k' hk' => by
      rw [drop_kind hi hki, if_neg (fun (q : k' = ((s.frm + i : Nat) : Int)) => hnk (by rw [← q]; exact hk'))]
      exact hf k' (List.mem_cons_of_mem _ hk')
    obtain ⟨h1, h2, h3, h4⟩ := drops_ok hf' hn'
    have e : dropL s (((s.frm + i : Nat) : Int) :: l) = dropL (s.drop ((s.frm + i : Nat) : Int)).1 l := by simp [dropL]
    have hfr : (s.drop ((s.frm + i : Nat) : Int)).1.free = s.free + 1 := by
      rw [hd]
      have := free_set (s := s) (i := i) (x := 0) hi
      rw [if_neg (by rw [← kd_get hi, hki]; decide), if_pos rfl] at this
      exact this
    rw [e]
    refine ⟨by rw [h1, hfr, List.length_cons]; omega, ?_, fun k' hk' => ?_, fun k' hk' => ?_⟩
    · rw [dropsF, if_pos (by rw [hd]), h2]
    · by_cases q : k' ∈ l
      · exact h3 k' q
      · rcases List.mem_cons.1 hk' with rfl | hk'
        · rw [(h4 _ q).1, drop_kind hi hki, if_pos rfl]
        · exact absurd hk' q
    · have q1 : k' ∉ l := fun q => hk' (List.mem_cons_of_mem _ q)
      have q2 : k' ≠ ((s.frm + i : Nat) : Int) := fun q => hk' (by rw [q]; exact List.mem_cons_self ..)
      obtain ⟨j1, j2⟩ := h4 k' q1
      exact ⟨by rw [j1, drop_kind hi hki, if_neg q2], by rw [j2, drop_bytes hi hki q2]⟩
theorem cput_full {s : PD} {b : List UInt8} (hr : s.free < pagesN b.length) : ∃ t, cputF s b = (t, 0, 190) ∧ t.free = s.free := by
  obtain ⟨h1, h2⟩ := takeL_ok (n := pagesN b.length) (Tk.nil s)
  have hz : (takeL s [] (pagesN b.length)).2.2 = 190 := by
    rcases h2 with ⟨-, q⟩ | ⟨q, -⟩
    · omega
    · exact q
  have ht : takenF s (pagesN b.length) = (dropL (takeL s [] (pagesN b.length)).1 (takeL s [] (pagesN b.length)).2.1, [], 190) := by unfold takenF; rw [if_neg (by rw [hz]; decide), hz]
  refine ⟨dropL (takeL s [] (pagesN b.length)).1 (takeL s [] (pagesN b.length)).2.1, ?_, ?_⟩
  · unfold cputF; rw [ht]; rfl
  · obtain ⟨q, -⟩ := drops_ok (s := (takeL s [] (pagesN b.length)).1) (l := (takeL s [] (pagesN b.length)).2.1) (fun k hk => by rw [h1.kind, if_pos hk]) h1.nd
    rw [q]; exact h1.free
theorem cdrop_chain {s : PD} {b : List UInt8} {l : List Int} (h : Chain s b l) (hb : b.length ≤ 16384) (hf : ∀ k ∈ l, s.kind k = 1) (hn : l.Nodup) : cdropF s (l.getD 0 0) b.length = (dropL s l, 0) := by
  unfold cdropF
  rw [readF_chain h hb, if_pos rfl]
  exact (drops_ok hf hn).2.1
theorem readF_gone {s : PD} {k : Int} {n : Nat} (hn : n ≤ 16384) (hk : s.kind k = 0) : readF s k n = ([], [], 240) := by
  unfold readF
  rw [if_pos (by omega), Int.toNat_natCast]
  obtain ⟨m, hm⟩ : ∃ m, pagesN n = m + 1 := ⟨pagesN n - 1, by have := pages_one (n := n); omega⟩
  rw [hm, readL, if_neg (by unfold liveK; rw [hk]; decide)]
end Go.Gk.Chn
end

section
namespace Go.Gk.Chn
open Go Go.Gk Go.Gk.Dev Go.Gk.Cch Go.Gk.Pgr Go.Gk.Node
theorem w_mksF {P : Program} {pan : List PanicEntry → Post} {Qn : Env → Post} {Ls L : List PHeap} {ρ : Env} {d : PHeap} {s : GS} {t : Nat} {sz by_ : Nat} {z : List Value} {x y : Operand} {k k' : IntKind} {n c : Nat} (ex : ev ρ x = .int k (n : Nat)) (ey : ev ρ y = .int k' (c : Nat)) (h1 : n ≤ c) (h2 : c ≤ 9223372036854775807) (h3 : by_ * c ≤ 281474976710656)
    (h : ∀ b T, gws P pan Qn s Ls (upd ρ t (.slice (some ⟨b, 0, none⟩) n c)) (join d (bx b T (zrow z (c * sz)))) L) : gws P pan Qn (.op false ⟨some t, none, .mks sz by_ z x y⟩ s) Ls ρ d L :=
  ⟨d, L, Vs.refl d L, k, k', n, c, ex, ey, h1, h2, h3, fun b T => ⟨_, _, Vs.freeze, h b T⟩⟩
attribute [local irreducible] gwp gws xwp

def R15Ok (P : Program) (f : FuncId) : Prop := ∀ {d : PHeap} {n : Nat}, 1 ≤ n → n ≤ 8192 → GCall P f [.int .i64 n] d [] (Ret fun r d' L' => L' = [] ∧ ∃ b a c, r = .tuple #[.pointer (some ⟨b, 0, none⟩), .int .i64 0] ∧ DC d' b 0 (.slice a n c))
def g_thimbleref15_New : GFun :=
 ⟨31, [(.tmp 2), (.tmp 3)],
 (.seq
 (.reg false (.op false ⟨(some 2), none, (.mv (.const (.pointer none)))⟩
  (.op false ⟨(some 3), none, (.mv (.const (.int .i64 0)))⟩ .done)))
 (.seq (.seq
 (.reg false (.op false ⟨(some 6), none, (.mv (.tmp 0))⟩
  (.op false ⟨(some 7), none, (.bin .lss (.tmp 6) (.const (.int .i64 1)))⟩
  (.op false ⟨(some 8), none, (.mv (.tmp 7))⟩
  (.op false ⟨(some 9), (some (8, false)), (.mv (.tmp 0))⟩
  (.op false ⟨(some 10), (some (8, false)), (.bin .gtr (.tmp 9) (.const (.int .i64 8192)))⟩
  (.op false ⟨(some 11), none, (.pick (.tmp 8) (.const (.bool true)) (.tmp 10))⟩ .done))))))) (.cond (.tmp 11)
 (.seq
 (.reg false (.op false ⟨(some 2), none, (.mv (.const (.pointer none)))⟩
  (.op false ⟨(some 3), none, (.mv (.const (.int .i64 2)))⟩ .done))) .ret) .skip))
 (.seq
 (.reg false (.op false ⟨(some 12), none, (.bld [(0, 1), (1, 1), (2, 1), (3, 1)] [(.slice none 0 0), (.slice none 0 0), (.int .i64 0), (.int .i64 0)] [(3, (.const (.int .i64 (-1))))])⟩
  (.op false ⟨(some 13), none, (.box (.tmp 12))⟩
  (.op false ⟨(some 4), none, (.mv (.tmp 13))⟩ .done))))
 (.seq (.seq
 (.reg false (.op false ⟨(some 5), none, (.mv (.const (.int .i64 0)))⟩ .done)) (.block 0 (.loop
 (.seq (.seq
 (.reg false (.op false ⟨(some 14), none, (.mv (.tmp 5))⟩
  (.op false ⟨(some 15), none, (.mv (.tmp 0))⟩
  (.op false ⟨(some 16), none, (.bin .lss (.tmp 14) (.tmp 15))⟩ .done)))) (.cond (.tmp 16) .skip (.exit 0)))
 (.seq (.block 1
 (.reg true (.op true ⟨(some 19), none, (.mv (.tmp 4))⟩
  (.op true ⟨(some 20), none, (.mv (.tmp 4))⟩
  (.op true ⟨(some 21), none, (.nilc (.tmp 20))⟩
  (.op true ⟨(some 22), none, (.fld 0 (.tmp 21))⟩ (.par (.op false ⟨(some 24), none, (.mks 1 1 [(.int .u8 0)] (.const (.int .i64 256)) (.const (.int .i64 256)))⟩
  (.op true ⟨(some 25), none, (.b2s (.tmp 24))⟩
  (.op false ⟨(some 26), none, (.bsl 1 1 [(strV [])] [(0, (.tmp 25))])⟩ .done))) (.op false ⟨(some 23), none, (.ld none (.tmp 22))⟩ .done) (.op false ⟨(some 27), none, (.app 1 16 [(strV [])] (.tmp 23) (.tmp 26))⟩
  (.op true ⟨(some 28), none, (.nilc (.tmp 19))⟩
  (.op true ⟨(some 29), none, (.fld 0 (.tmp 28))⟩
  (.op false ⟨none, none, (.st 1 (.tmp 29) (.tmp 27))⟩ .done)))))))))))
 (.reg false (.op false ⟨(some 17), none, (.mv (.tmp 5))⟩
  (.op false ⟨(some 18), none, (.bin .add (.tmp 17) (.const (.int .i64 1)))⟩
  (.op false ⟨(some 5), none, (.mv (.tmp 18))⟩ .done)))))))))
 (.seq
 (.reg false (.op false ⟨(some 30), none, (.mv (.tmp 4))⟩
  (.op false ⟨(some 2), none, (.mv (.tmp 30))⟩
  (.op false ⟨(some 3), none, (.mv (.const (.int .i64 0)))⟩ .done)))) .ret)))))⟩

set_option maxRecDepth 4000 in
set_option maxHeartbeats 1000000 in
theorem r15_ok {P : Program} {f : FuncId} (hd : decp P f = some g_thimbleref15_New) : R15Ok P f := by
  intro d n hn1 hn2
  refine GCall_of hd (Nat.le_of_ble_eq_true rfl) ?_
  show gwp P _ _ _ _ _
  (apply w_sq; apply w_reg)
  refine w_vs d [emp] Vs.emp ?_
  (apply w_mvp; rfl; apply w_mvi; rfl; apply w_done0; apply w_sq; apply w_sq; apply w_reg; apply w_mvi; rfl; apply w_lss; rfl; rfl; apply w_mvb; rfl; refine w_gdF rfl (by omega) ?_; apply w_gT; rfl; apply w_mvi; rfl; apply w_gT; rfl; apply w_gtr; rfl; rfl; apply w_pickFb; rfl; rfl; apply w_done0; refine w_ifdF rfl (by omega) ?_; apply w_skip; apply w_sq; apply w_reg; apply w_bld; rfl; apply w_boxa; rfl; intro _ _; apply w_mvp; rfl; apply w_done0; apply w_sq; apply w_sq; apply w_reg; apply w_mvi; rfl; apply w_done0; apply w_block)
  rename_i b T
  refine w_loopS (α := Nat × Option Addr × Nat) (fun x => [(0, .int .i64 n), (4, .pointer (some ⟨b, 0, none⟩)), (5, .int .i64 x.1)])
    (fun x d' L' => Le d d' ∧ x.1 ≤ n ∧ ∃ h, [bx b T [.slice x.2.1 x.1 x.2.2, .slice none 0 0, .int .i64 0, .int .i64 (-1)], h].Sublist L' ∧ GRow 1 RStr d' (.slice x.2.1 x.1 x.2.2) (List.replicate x.1 (List.replicate 256 0)) h) (fun x => n - x.1) (0, none, 0) ⟨rfl, rfl, rfl, trivial⟩ ⟨Le.refl _, Nat.zero_le _, emp, List.Sublist.refl _, GRow.nil⟩ ?_
  rintro ⟨i, a, c⟩ ρ d' L' ⟨hle, hi, h, hsub, hrow⟩
  simp only at hi hsub hrow ⊢
  apply w_sq; apply w_sq; apply w_reg
  refine w_vs d' _ (Vs.drop hsub) ?_
  by_cases e : i < n
  · (apply w_mvi; rfl; apply w_mvi; rfl; apply w_lss; rfl; rfl; apply w_done0; refine w_ifdT rfl (by omega) ?_; apply w_skip; apply w_sq; apply w_block)
    refine w_drawnA [] [bx b T [.slice a i c, .slice none 0 0, .int .i64 0, .int .i64 (-1)], h] rfl ?_
    (apply w_mvp; rfl; apply w_mvp; rfl; apply w_nilc; rfl; apply w_fld; rfl)
    refine w_par (α := Nat × TypeId) (β := Unit) [(0, .int .i64 n), (4, .pointer (some ⟨b, 0, none⟩)), (5, .int .i64 i), (19, .pointer (some ⟨b, 0, none⟩))] (fun x => [(26, .slice (some ⟨x.1, 0, none⟩) 1 1)]) (fun x d L => L = [bx x.1 x.2 [strV (List.replicate 256 0)]])
      (fun _ => [(23, .slice a i c)]) (fun _ _ L => L = [bx b T [.slice a i c, .slice none 0 0, .int .i64 0, .int .i64 (-1)], h]) [] [bx b T [.slice a i c, .slice none 0 0, .int .i64 0, .int .i64 (-1)], h] rfl ?_ ?_ (fun _ => rfl) (fun _ => rfl) rfl ⟨rfl, rfl, rfl, rfl, trivial⟩ ?_ ?_ ?_
    · exact fun _ _ _ _ _ q => q
    · exact fun _ _ _ _ _ q => q
    · refine w_mksF (n := 256) (c := 256) rfl rfl (Nat.le_refl _) (by omega) (by omega) (fun b24 T24 => ?_)
      have hg : GRow 1 RByte d' (.slice (some ⟨b24, 0, none⟩) 256 256) (List.replicate 256 0) (bx b24 T24 (zrow [.int .u8 0] (256 * 1))) := GRow.zero rfl (by omega) rfl (by omega)
      have hgr := GRow.rsl (R := RByte) (sz := 1) hg mono_byte (by omega) (Le.join_left _ _) (Le.join_right d' (bx b24 T24 (zrow [.int .u8 0] (256 * 1))))
      refine w_b2sR rfl hgr ?_
      refine w_bs1 (v0 := strV (List.replicate 256 0)) rfl rfl (fun b26 T26 => ?_)
      (apply w_done0)
      exact ⟨_, rfl, (b26, T26), ⟨rfl, trivial⟩, rfl⟩
    · (apply w_ld; rfl; exact hc_i 0 rfl rfl; apply w_done0)
      exact ⟨_, rfl, (), ⟨rfl, trivial⟩, rfl⟩
    · rintro ⟨b26, T26⟩ ⟨⟩ ρ2 d2 M1 M2 hl2 rfl rfl
      have hrow2 : GRow 1 RStr d2 (.slice a i c) (List.replicate i (List.replicate 256 0)) h := by
        have := GRow.mono (R := RStr) mono_str hrow hl2
        exact this
      have hil : (List.replicate i (List.replicate 256 (0 : UInt8))).length = i := List.length_replicate
      refine w_appL (R := RStr) 1 rfl rfl hrow2 rfl (GRow.lit1 (R := RStr) (x := List.replicate 256 0) rfl ⟨rfl, by simp⟩) cell1_str (by omega) (by simp; omega) (by simp; omega) (fun v' h' ho' => ?_)
      rw [← List.replicate_succ'] at ho'
      obtain ⟨a', c', rfl⟩ := ho'.val
      rw [List.length_replicate] at ho' ⊢
      (apply w_nilc; rfl; apply w_fld; rfl)
      refine w_stE 0 [.slice a' (i + 1) c', .slice none 0 0, .int .i64 0, .int .i64 (-1)] rfl rfl rfl rfl (Nat.le_of_ble_eq_true rfl) rfl rfl ?_
      (apply w_done0; apply w_reg; apply w_mvi; rfl; apply w_add; rfl; rfl; omega; omega; apply w_mvi; rfl; apply w_done0)
      exact ⟨(i + 1, a', c'), by simp only; omega, ⟨rfl, rfl, rfl, trivial⟩, hle.trans hl2, e, h', List.Sublist.refl _, ho'⟩
  · have : i = n := by omega
    subst this
    (apply w_mvi; rfl; apply w_mvi; rfl; apply w_lss; rfl; rfl; apply w_done0; refine w_ifdF rfl (by omega) ?_; apply w_exit; apply w_sq; apply w_reg; apply w_mvp; rfl; apply w_mvp; rfl; apply w_mvi; rfl; apply w_done0; apply w_ret)
    exact finV [.pointer (some ⟨b, 0, none⟩), .int .i64 0] ⟨rfl, rfl, trivial⟩ (d' := join (join d' (bx b T [.slice a i c, .slice none 0 0, .int .i64 0, .int .i64 (-1)])) h) (L' := []) (Vs.freeze.trans Vs.freeze) ⟨rfl, b, a, c, rfl, (Le.dcs ((Le.join_right _ _).trans (Le.join_left _ _))).at (i := 0) rfl⟩
end Go.Gk.Chn
end

section
namespace Go.Gk.Chn
open Go Go.Gk Go.Gk.Dev Go.Gk.Cch Go.Gk.Pgr Go.Gk.Node
attribute [local irreducible] gwp gws xwp

def R16Ok (P : Program) (f : FuncId) : Prop := ∀ {d : PHeap} {b n c : Nat} {a : Option Addr}, DC d b 0 (.slice a (n + 2) c) → 1 ≤ n → n ≤ 8000 → GPure P f [.pointer (some ⟨b, 0, none⟩), .int .i64 2, .int .i64 n] d (.bool true)
def g_thimbleref16_Region : GFun :=
 ⟨31, [(.tmp 6)],
 (.seq
 (.reg false (.op false ⟨(some 6), none, (.mv (.const (.bool false)))⟩ .done))
 (.seq
 (.reg false (.op false ⟨(some 8), none, (.mv (.tmp 0))⟩
  (.op false ⟨(some 9), none, (.nilc (.tmp 8))⟩
  (.op false ⟨(some 10), none, (.fld 0 (.tmp 9))⟩
  (.op false ⟨(some 11), none, (.ld none (.tmp 10))⟩
  (.op false ⟨(some 12), none, (.len (.tmp 11))⟩
  (.op false ⟨(some 7), none, (.mv (.tmp 12))⟩ .done)))))))
 (.seq
 (.reg false (.op false ⟨(some 13), none, (.mv (.tmp 1))⟩
  (.op false ⟨(some 14), none, (.bin .geq (.tmp 13) (.const (.int .i64 0)))⟩
  (.op false ⟨(some 15), none, (.mv (.tmp 14))⟩
  (.op false ⟨(some 16), (some (15, true)), (.mv (.tmp 1))⟩
  (.op false ⟨(some 17), (some (15, true)), (.mv (.tmp 7))⟩
  (.op false ⟨(some 18), (some (15, true)), (.bin .leq (.tmp 16) (.tmp 17))⟩
  (.op false ⟨(some 19), none, (.pick (.tmp 15) (.tmp 18) (.const (.bool false)))⟩
  (.op false ⟨(some 20), none, (.mv (.tmp 19))⟩
  (.op false ⟨(some 21), (some (20, true)), (.mv (.tmp 2))⟩
  (.op false ⟨(some 22), (some (20, true)), (.bin .geq (.tmp 21) (.const (.int .i64 1)))⟩
  (.op false ⟨(some 23), none, (.pick (.tmp 20) (.tmp 22) (.const (.bool false)))⟩
  (.op false ⟨(some 24), none, (.mv (.tmp 23))⟩
  (.op false ⟨(some 25), (some (24, true)), (.mv (.tmp 2))⟩
  (.op false ⟨(some 26), (some (24, true)), (.mv (.tmp 7))⟩
  (.op false ⟨(some 27), (some (24, true)), (.mv (.tmp 1))⟩
  (.op false ⟨(some 28), (some (24, true)), (.bin .sub (.tmp 26) (.tmp 27))⟩
  (.op false ⟨(some 29), (some (24, true)), (.bin .leq (.tmp 25) (.tmp 28))⟩
  (.op false ⟨(some 30), none, (.pick (.tmp 24) (.tmp 29) (.const (.bool false)))⟩
  (.op false ⟨(some 6), none, (.mv (.tmp 30))⟩ .done)))))))))))))))))))) .ret)))⟩

theorem r16_ok {P : Program} {f : FuncId} (hd : dec P f = some g_thimbleref16_Region) : R16Ok P f := by
  intro d b n c a hb hn1 hn2
  refine GCall_of hd (Nat.le_of_ble_eq_true rfl) ?_
  show gwp P _ _ _ _ _
  have h2 : (2 : Int) ≤ ((n + 2 : Nat) : Int) := by omega
  have h3 : (n : Int) ≤ ((n + 2 : Nat) : Int) - 2 := by omega
  (apply w_sq; apply w_reg; apply w_mvb; rfl; apply w_done0; apply w_sq; apply w_reg; apply w_mvp; rfl; apply w_nilc; rfl; apply w_fld; rfl; apply w_ld; rfl; exact hc_d (by assumption); apply w_len; rfl; apply w_mvi; rfl; apply w_done0; apply w_sq; apply w_reg; apply w_mvi; rfl; apply w_geq; rfl; rfl; apply w_mvb; rfl; refine w_gdT rfl (by omega) ?_; apply w_gT; rfl; apply w_mvi; rfl; apply w_gT; rfl; apply w_mvi; rfl; apply w_gT; rfl; apply w_leq; rfl; rfl; apply w_pickTb; rfl; rfl; apply w_mvb; rfl; refine w_gdT rfl (by omega) ?_; apply w_gT; rfl; apply w_mvi; rfl; apply w_gT; rfl; apply w_geq; rfl; rfl; apply w_pickTb; rfl; rfl; apply w_mvb; rfl; refine w_gdT rfl (by omega) ?_; apply w_gT; rfl; apply w_mvi; rfl; apply w_gT; rfl; apply w_mvi; rfl; apply w_gT; rfl; apply w_mvi; rfl; apply w_gT; rfl; apply w_sub; rfl; rfl; omega; omega; apply w_gT; rfl; apply w_leq; rfl; rfl; apply w_pickTb; rfl; rfl; apply w_mvb; rfl; apply w_done0; apply w_ret)
  exact fin1 (v := .bool (decide ((n : Int) ≤ ((n + 2 : Nat) : Int) - 2))) rfl (List.Sublist.refl _) ⟨congrArg Value.bool (decide_eq_true h3), rfl, rfl⟩
def R19Ok (P : Program) (f : FuncId) : Prop := ∀ {d : PHeap} {b q n c : Nat} {a : Option Addr}, DC d b 0 (.slice a (n + 2) c) → 1 ≤ n → n ≤ 8000 →
  GCall P f [.pointer (some ⟨b, 0, none⟩), .pointer (some ⟨q, 0, none⟩), .int .i64 2, .int .i64 n, .slice none 0 0] d [] (Ret fun r d' L' => L' = [] ∧ ∃ v, r = .tuple #[.pointer (some ⟨v, 0, none⟩), .int .i64 0])
def g_thimbleref19_New (f_thimbleref16_Region f_thimbleref19_Pager_Kind : Nat) : GFun :=
 ⟨52, [(.tmp 10), (.tmp 11)],
 (.seq
 (.reg false (.op false ⟨(some 10), none, (.mv (.const (.pointer none)))⟩
  (.op false ⟨(some 11), none, (.mv (.const (.int .i64 0)))⟩ .done)))
 (.seq (.seq
 (.reg false (.op false ⟨(some 14), none, (.mv (.tmp 0))⟩
  (.op false ⟨(some 15), none, (.mv (.tmp 2))⟩
  (.op false ⟨(some 16), none, (.mv (.tmp 3))⟩
  (.op false ⟨(some 17), none, (.call f_thimbleref16_Region [(.tmp 14), (.tmp 15), (.tmp 16)])⟩
  (.op false ⟨(some 18), none, (.un .not (.tmp 17))⟩ .done)))))) (.cond (.tmp 18)
 (.seq
 (.reg false (.op false ⟨(some 10), none, (.mv (.const (.pointer none)))⟩
  (.op false ⟨(some 11), none, (.mv (.const (.int .i64 2)))⟩ .done))) .ret) .skip))
 (.seq
 (.reg false (.op false ⟨(some 19), none, (.mv (.tmp 0))⟩
  (.op false ⟨(some 20), none, (.mv (.tmp 1))⟩
  (.op false ⟨(some 21), none, (.mv (.tmp 2))⟩
  (.op false ⟨(some 22), none, (.mv (.tmp 3))⟩
  (.op false ⟨(some 23), none, (.mks 2 24 [(.int .i64 0), (strV [])] (.tmp 22) (.tmp 22))⟩
  (.op false ⟨(some 24), none, (.bld [(0, 1), (1, 1), (2, 1), (3, 1), (4, 1), (5, 1)] [(.pointer none), (.pointer none), (.int .i64 0), (.slice none 0 0), (.int .i64 0), (.int .i64 0)] [(0, (.tmp 19)), (1, (.tmp 20)), (2, (.tmp 21)), (3, (.tmp 23))])⟩
  (.op false ⟨(some 25), none, (.box (.tmp 24))⟩
  (.op false ⟨(some 12), none, (.mv (.tmp 25))⟩ .done)))))))))
 (.seq (.seq
 (.reg false (.op false ⟨(some 13), none, (.mv (.const (.int .i64 0)))⟩ .done)) (.block 0 (.loop
 (.seq (.seq
 (.reg false (.op false ⟨(some 26), none, (.mv (.tmp 13))⟩
  (.op false ⟨(some 27), none, (.mv (.tmp 4))⟩
  (.op false ⟨(some 28), none, (.len (.tmp 27))⟩
  (.op false ⟨(some 29), none, (.bin .lss (.tmp 26) (.tmp 28))⟩ .done))))) (.cond (.tmp 29) .skip (.exit 0)))
 (.seq (.block 1
 (.seq (.seq
 (.reg false (.op false ⟨(some 32), none, (.mv (.tmp 12))⟩
  (.op false ⟨(some 33), none, (.mv (.tmp 4))⟩
  (.op false ⟨(some 34), none, (.mv (.tmp 13))⟩
  (.op false ⟨(some 35), none, (.idx 1 (.tmp 33) (.tmp 34))⟩
  (.op false ⟨(some 36), none, (.ld none (.tmp 35))⟩
  (.op false ⟨(some 37), none, (.call f_thimbleref19_Pager_Kind [(.tmp 32), (.tmp 36)])⟩
  (.op false ⟨(some 38), none, (.bin .neq (.tmp 37) (.const (.int .i64 0)))⟩ .done)))))))) (.cond (.tmp 38)
 (.seq
 (.reg false (.op false ⟨(some 10), none, (.mv (.const (.pointer none)))⟩
  (.op false ⟨(some 11), none, (.mv (.const (.int .i64 2)))⟩ .done))) .ret) .skip))
 (.reg true (.op true ⟨(some 39), none, (.mv (.tmp 12))⟩
  (.op true ⟨(some 40), none, (.nilc (.tmp 39))⟩
  (.op true ⟨(some 41), none, (.fld 3 (.tmp 40))⟩
  (.op true ⟨(some 42), none, (.ld none (.tmp 41))⟩
  (.op true ⟨(some 43), none, (.mv (.tmp 4))⟩
  (.op true ⟨(some 44), none, (.mv (.tmp 13))⟩
  (.op true ⟨(some 45), none, (.idx 1 (.tmp 43) (.tmp 44))⟩
  (.op true ⟨(some 46), none, (.ld none (.tmp 45))⟩
  (.op true ⟨(some 47), none, (.mv (.tmp 2))⟩
  (.op true ⟨(some 48), none, (.bin .sub (.tmp 46) (.tmp 47))⟩
  (.op true ⟨(some 49), none, (.idx 2 (.tmp 42) (.tmp 48))⟩
  (.op true ⟨(some 50), none, (.fld 0 (.tmp 49))⟩
  (.op false ⟨none, none, (.st 1 (.tmp 50) (.const (.int .i64 2)))⟩ .done))))))))))))))))
 (.reg false (.op false ⟨(some 30), none, (.mv (.tmp 13))⟩
  (.op false ⟨(some 31), none, (.bin .add (.tmp 30) (.const (.int .i64 1)))⟩
  (.op false ⟨(some 13), none, (.mv (.tmp 31))⟩ .done)))))))))
 (.seq
 (.reg false (.op false ⟨(some 51), none, (.mv (.tmp 12))⟩
  (.op false ⟨(some 10), none, (.mv (.tmp 51))⟩
  (.op false ⟨(some 11), none, (.mv (.const (.int .i64 0)))⟩ .done)))) .ret)))))⟩

set_option maxRecDepth 4000 in
theorem r19_ok {P : Program} {f f1 f2 : FuncId} (hd : dec P f = some (g_thimbleref19_New f1 f2)) (h1 : R16Ok P f1) : R19Ok P f := by
  intro d b q n c a hb hn1 hn2
  refine GCall_of hd (Nat.le_of_ble_eq_true rfl) ?_
  show gwp P _ _ _ _ _
  (apply w_sq; apply w_reg; apply w_mvp; rfl; apply w_mvi; rfl; apply w_done0; apply w_sq; apply w_sq; apply w_reg; apply w_mvp; rfl; apply w_mvi; rfl; apply w_mvi; rfl)
  refine w_call0 rfl (h1 hb hn1 hn2) (fun u d1 L1 _ ⟨e1, e2, e3⟩ => ?_)
  subst e1; subst e2; subst e3
  (apply w_not; rfl; apply w_done0; apply w_ifF; rfl; apply w_skip; apply w_sq; apply w_reg; apply w_mvp; rfl; apply w_mvp; rfl; apply w_mvi; rfl; apply w_mvi; rfl)
  refine w_mks (n := n) (c := n) rfl rfl (Nat.le_refl _) (by omega) (by omega) (fun b23 T23 => ?_)
  (apply w_bld; rfl; apply w_boxa; rfl; intro _ _; apply w_mvp; rfl; apply w_done0; apply w_sq; apply w_sq; apply w_reg; apply w_mvi; rfl; apply w_done0; apply w_block)
  rename_i bb TT
  refine w_loopS (α := Unit) (fun _ => [(4, .slice none 0 0), (12, .pointer (some ⟨bb, 0, none⟩)), (13, .int .i64 0)]) (fun _ _ _ => True) (fun _ => 0) () ⟨rfl, rfl, rfl, trivial⟩ trivial ?_
  rintro - ρ d' L' -
  (apply w_sq; apply w_sq; apply w_reg; apply w_mvi; rfl; apply w_mvs; rfl; apply w_len; rfl; apply w_lss; rfl; rfl; apply w_done0; refine w_ifdF rfl (by omega) ?_; apply w_exit; apply w_sq; apply w_reg; apply w_mvp; rfl; apply w_mvp; rfl; apply w_mvi; rfl; apply w_done0; apply w_ret)
  exact fin2 rfl rfl (List.nil_sublist _) ⟨rfl, _, rfl⟩
def R18Ok (P : Program) (f : FuncId) : Prop := ∀ {d : PHeap} {b : Nat}, GCall P f [.pointer (some ⟨b, 0, none⟩), .int .i64 4] d [] (Ret fun r d' L' => L' = [] ∧ ∃ q, r = .tuple #[.pointer (some ⟨q, 0, none⟩), .int .i64 0])
def g_thimbleref18_New : GFun :=
 ⟨48, [(.tmp 4), (.tmp 5)],
 (.seq
 (.reg false (.op false ⟨(some 4), none, (.mv (.const (.pointer none)))⟩
  (.op false ⟨(some 5), none, (.mv (.const (.int .i64 0)))⟩ .done)))
 (.seq (.seq
 (.reg false (.op false ⟨(some 8), none, (.mv (.tmp 1))⟩
  (.op false ⟨(some 9), none, (.bin .lss (.tmp 8) (.const (.int .i64 1)))⟩
  (.op false ⟨(some 10), none, (.mv (.tmp 9))⟩
  (.op false ⟨(some 11), (some (10, false)), (.mv (.tmp 1))⟩
  (.op false ⟨(some 12), (some (10, false)), (.bin .gtr (.tmp 11) (.const (.int .i64 64)))⟩
  (.op false ⟨(some 13), none, (.pick (.tmp 10) (.const (.bool true)) (.tmp 12))⟩ .done))))))) (.cond (.tmp 13)
 (.seq
 (.reg false (.op false ⟨(some 4), none, (.mv (.const (.pointer none)))⟩
  (.op false ⟨(some 5), none, (.mv (.const (.int .i64 2)))⟩ .done))) .ret) .skip))
 (.seq
 (.reg true (.op true ⟨(some 14), none, (.mv (.tmp 0))⟩
  (.op true ⟨(some 15), none, (.mv (.tmp 1))⟩
  (.op true ⟨(some 17), none, (.mv (.tmp 1))⟩
  (.op true ⟨(some 19), none, (.mv (.tmp 1))⟩ (.par (.op false ⟨(some 20), none, (.mks 1 16 [(strV [])] (.tmp 19) (.tmp 19))⟩ .done) (.par (.op false ⟨(some 16), none, (.mks 1 8 [(.int .i64 0)] (.tmp 15) (.tmp 15))⟩ .done) (.op false ⟨(some 18), none, (.mks 1 1 [(.bool false)] (.tmp 17) (.tmp 17))⟩ .done) .done) (.op true ⟨(some 21), none, (.bld [(0, 1), (1, 1), (2, 1), (3, 1), (4, 1), (5, 1), (6, 1), (7, 1), (8, 1)] [(.pointer none), (.slice none 0 0), (.slice none 0 0), (.slice none 0 0), (.slice none 0 0), (.slice none 0 0), (.int .i64 0), (.int .i64 0), (.int .i64 0)] [(0, (.tmp 14)), (2, (.tmp 16)), (3, (.tmp 18)), (4, (.tmp 20))])⟩
  (.op false ⟨(some 22), none, (.box (.tmp 21))⟩
  (.bar (.op true ⟨(some 6), none, (.mv (.tmp 22))⟩ .done))))))))))
 (.seq (.seq
 (.reg false (.op false ⟨(some 7), none, (.mv (.const (.int .i64 0)))⟩ .done)) (.block 0 (.loop
 (.seq (.seq
 (.reg false (.op false ⟨(some 23), none, (.mv (.tmp 7))⟩
  (.op false ⟨(some 24), none, (.mv (.tmp 1))⟩
  (.op false ⟨(some 25), none, (.bin .lss (.tmp 23) (.tmp 24))⟩ .done)))) (.cond (.tmp 25) .skip (.exit 0)))
 (.seq (.block 1
 (.seq
 (.reg false (.op false ⟨(some 28), none, (.mv (.tmp 6))⟩
  (.op false ⟨(some 29), none, (.mv (.tmp 6))⟩
  (.op false ⟨(some 30), none, (.nilc (.tmp 29))⟩
  (.op false ⟨(some 31), none, (.fld 1 (.tmp 30))⟩
  (.op false ⟨(some 32), none, (.ld none (.tmp 31))⟩
  (.op false ⟨(some 33), none, (.bsl 1 1 [(.int .i64 0)] [(0, (.const (.int .i64 (-1))))])⟩
  (.op false ⟨(some 34), none, (.app 1 8 [(.int .i64 0)] (.tmp 32) (.tmp 33))⟩
  (.op false ⟨(some 35), none, (.nilc (.tmp 28))⟩
  (.op false ⟨(some 36), none, (.fld 1 (.tmp 35))⟩
  (.op false ⟨none, none, (.st 1 (.tmp 36) (.tmp 34))⟩ .done)))))))))))
 (.reg false (.op false ⟨(some 37), none, (.mv (.tmp 6))⟩
  (.op false ⟨(some 38), none, (.mv (.tmp 6))⟩
  (.op false ⟨(some 39), none, (.nilc (.tmp 38))⟩
  (.op false ⟨(some 40), none, (.fld 5 (.tmp 39))⟩
  (.op false ⟨(some 41), none, (.ld none (.tmp 40))⟩
  (.op false ⟨(some 42), none, (.mv (.tmp 7))⟩
  (.op false ⟨(some 43), none, (.bsl 1 1 [(.int .i64 0)] [(0, (.tmp 42))])⟩
  (.op false ⟨(some 44), none, (.app 1 8 [(.int .i64 0)] (.tmp 41) (.tmp 43))⟩
  (.op false ⟨(some 45), none, (.nilc (.tmp 37))⟩
  (.op false ⟨(some 46), none, (.fld 5 (.tmp 45))⟩
  (.op false ⟨none, none, (.st 1 (.tmp 46) (.tmp 44))⟩ .done))))))))))))))
 (.reg false (.op false ⟨(some 26), none, (.mv (.tmp 7))⟩
  (.op false ⟨(some 27), none, (.bin .add (.tmp 26) (.const (.int .i64 1)))⟩
  (.op false ⟨(some 7), none, (.mv (.tmp 27))⟩ .done)))))))))
 (.seq
 (.reg false (.op false ⟨(some 47), none, (.mv (.tmp 6))⟩
  (.op false ⟨(some 4), none, (.mv (.tmp 47))⟩
  (.op false ⟨(some 5), none, (.mv (.const (.int .i64 0)))⟩ .done)))) .ret)))))⟩

set_option maxRecDepth 4000 in
set_option maxHeartbeats 1000000 in
theorem r18_ok {P : Program} {f : FuncId} (hd : decp P f = some g_thimbleref18_New) : R18Ok P f := by
  intro d b
  refine GCall_of hd (Nat.le_of_ble_eq_true rfl) ?_
  show gwp P _ _ _ _ _
  (apply w_sq; apply w_reg; apply w_mvp; rfl; apply w_mvi; rfl; apply w_done0; apply w_sq; apply w_sq; apply w_reg; apply w_mvi; rfl; apply w_lss; rfl; rfl; apply w_mvb; rfl; refine w_gdF rfl (by omega) ?_; apply w_gT; rfl; apply w_mvi; rfl; apply w_gT; rfl; apply w_gtr; rfl; rfl; apply w_pickFb; rfl; rfl; apply w_done0; refine w_ifdF rfl (by omega) ?_; apply w_skip; apply w_sq)
  refine w_drawnA [] [] rfl ?_
  (apply w_mvp; rfl; apply w_mvi; rfl; apply w_mvi; rfl; apply w_mvi; rfl)
  refine w_par (α := Nat) (β := Nat × Nat) [(1, .int .i64 4), (14, .pointer (some ⟨b, 0, none⟩))] (fun x => [(20, .slice (some ⟨x, 0, none⟩) 4 4)]) (fun _ _ L => L = []) (fun y => [(16, .slice (some ⟨y.1, 0, none⟩) 4 4), (18, .slice (some ⟨y.2, 0, none⟩) 4 4)]) (fun _ _ L => L = []) [] [] rfl
    (fun _ _ _ _ _ q => q) (fun _ _ _ _ _ q => q) (fun _ => rfl) (fun _ => rfl) rfl ⟨rfl, rfl, trivial⟩ ?_ ?_ ?_
  · refine w_mksF (n := 4) (c := 4) rfl rfl (Nat.le_refl _) (by omega) (by omega) (fun b20 T20 => ?_)
    (apply w_done0)
    exact ⟨_, rfl, b20, ⟨rfl, trivial⟩, rfl⟩
  · refine w_par (α := Nat) (β := Nat) [] (fun x => [(16, .slice (some ⟨x, 0, none⟩) 4 4)]) (fun _ _ L => L = []) (fun y => [(18, .slice (some ⟨y, 0, none⟩) 4 4)]) (fun _ _ L => L = []) [] [] rfl
      (fun _ _ _ _ _ q => q) (fun _ _ _ _ _ q => q) (fun _ => rfl) (fun _ => rfl) rfl trivial ?_ ?_ ?_
    · refine w_mksF (n := 4) (c := 4) rfl rfl (Nat.le_refl _) (by omega) (by omega) (fun b16 T16 => ?_)
      (apply w_done0)
      exact ⟨_, rfl, b16, ⟨rfl, trivial⟩, rfl⟩
    · refine w_mksF (n := 4) (c := 4) rfl rfl (Nat.le_refl _) (by omega) (by omega) (fun b18 T18 => ?_)
      (apply w_done0)
      exact ⟨_, rfl, b18, ⟨rfl, trivial⟩, rfl⟩
    · rintro b16 b18 ρ2 d2 M1 M2 hl2 rfl rfl
      (apply w_done0)
      exact ⟨_, rfl, (b16, b18), ⟨rfl, rfl, trivial⟩, rfl⟩
  · rintro b20 ⟨b16, b18⟩ ρ2 d2 M1 M2 hl2 rfl rfl
    refine w_bld (cs := [.pointer (some ⟨b, 0, none⟩), .slice none 0 0, .slice (some ⟨b16, 0, none⟩) 4 4, .slice (some ⟨b18, 0, none⟩) 4 4, .slice (some ⟨b20, 0, none⟩) 4 4, .slice none 0 0, .int .i64 0, .int .i64 0, .int .i64 0]) rfl ?_
    refine w_vs d2 [emp, emp] (Vs.emp.trans Vs.emp) ?_
    refine w_boxa rfl (fun q T => ?_)
    (apply w_bar; apply w_mvp; rfl; apply w_done0; apply w_sq; apply w_sq; apply w_reg; apply w_mvi; rfl; apply w_done0; apply w_block)
    refine w_loopS (α := Nat × Option Addr × Nat × Option Addr × Nat) (fun x => [(1, .int .i64 4), (6, .pointer (some ⟨q, 0, none⟩)), (7, .int .i64 x.1)])
      (fun x d' L' => x.1 ≤ 4 ∧ ∃ h1 h5 xs ys, [bx q T [.pointer (some ⟨b, 0, none⟩), .slice x.2.1 x.1 x.2.2.1, .slice (some ⟨b16, 0, none⟩) 4 4, .slice (some ⟨b18, 0, none⟩) 4 4, .slice (some ⟨b20, 0, none⟩) 4 4, .slice x.2.2.2.1 x.1 x.2.2.2.2, .int .i64 0, .int .i64 0, .int .i64 0], h1, h5].Sublist L' ∧
        GRow 1 RInt d' (.slice x.2.1 x.1 x.2.2.1) xs h1 ∧ GRow 1 RInt d' (.slice x.2.2.2.1 x.1 x.2.2.2.2) ys h5 ∧ xs.length = x.1 ∧ ys.length = x.1) (fun x => 4 - x.1) (0, none, 0, none, 0) ⟨rfl, rfl, rfl, trivial⟩ ⟨Nat.zero_le _, emp, emp, [], [], List.Sublist.refl _, GRow.nil, GRow.nil, rfl, rfl⟩ ?_
    rintro ⟨i, a1, c1, a5, c5⟩ ρ d' L' ⟨hi, h1, h5, xs, ys, hsub, r1, r5, x1, y1⟩
    simp only at hi hsub r1 r5 x1 y1 ⊢
    apply w_sq; apply w_sq; apply w_reg
    refine w_vs d' _ (Vs.drop hsub) ?_
    by_cases e : i < 4
    · (apply w_mvi; rfl; apply w_mvi; rfl; apply w_lss; rfl; rfl; apply w_done0; refine w_ifdT rfl (by omega) ?_; apply w_skip; apply w_sq; apply w_block; apply w_sq; apply w_reg; apply w_mvp; rfl; apply w_mvp; rfl; apply w_nilc; rfl; apply w_fld; rfl; apply w_ld; rfl; exact hc_i 0 rfl rfl)
      refine w_bs1 (v0 := .int .i64 (-1)) rfl rfl (fun b33 T33 => ?_)
      refine w_appL (R := RInt) 1 rfl rfl r1 rfl (GRow.lit1 (R := RInt) (x := -1) rfl ⟨rfl, by omega, by omega⟩) cell1_int (by omega) (by simp; omega) (by simp; omega) (fun v1 h1' o1 => ?_)
      obtain ⟨a1', c1', rfl⟩ := o1.val
      rw [List.length_append, x1] at o1 ⊢
      (apply w_nilc; rfl; apply w_fld; rfl)
      refine w_stE 0 [.pointer (some ⟨b, 0, none⟩), .slice a1' (i + 1) c1', .slice (some ⟨b16, 0, none⟩) 4 4, .slice (some ⟨b18, 0, none⟩) 4 4, .slice (some ⟨b20, 0, none⟩) 4 4, .slice a5 i c5, .int .i64 0, .int .i64 0, .int .i64 0] rfl rfl rfl rfl (Nat.le_of_ble_eq_true rfl) rfl rfl ?_
      (apply w_done0; apply w_reg; apply w_mvp; rfl; apply w_mvp; rfl; apply w_nilc; rfl; apply w_fld; rfl; apply w_ld; rfl; exact hc_i 0 rfl rfl; apply w_mvi; rfl)
      refine w_bs1 (v0 := .int .i64 i) rfl rfl (fun b43 T43 => ?_)
      refine w_appL (R := RInt) 2 rfl rfl r5 rfl (GRow.lit1 (R := RInt) (x := (i : Int)) rfl ⟨rfl, by omega, by omega⟩) cell1_int (by omega) (by simp; omega) (by simp; omega) (fun v5 h5' o5 => ?_)
      obtain ⟨a5', c5', rfl⟩ := o5.val
      rw [List.length_append, y1] at o5 ⊢
      (apply w_nilc; rfl; apply w_fld; rfl)
      refine w_stE 0 [.pointer (some ⟨b, 0, none⟩), .slice a1' (i + 1) c1', .slice (some ⟨b16, 0, none⟩) 4 4, .slice (some ⟨b18, 0, none⟩) 4 4, .slice (some ⟨b20, 0, none⟩) 4 4, .slice a5' (i + 1) c5', .int .i64 0, .int .i64 0, .int .i64 0] rfl rfl rfl rfl (Nat.le_of_ble_eq_true rfl) rfl rfl ?_
      (apply w_done0; apply w_reg; apply w_mvi; rfl; apply w_add; rfl; rfl; omega; omega; apply w_mvi; rfl; apply w_done0)
      exact ⟨(i + 1, a1', c1', a5', c5'), by simp only; omega, ⟨rfl, rfl, rfl, trivial⟩, e, h1', h5', _, _, List.Sublist.refl _, o1, o5, by rw [List.length_append, x1]; rfl, by rw [List.length_append, y1]; rfl⟩
    · have : i = 4 := by omega
      subst this
      (apply w_mvi; rfl; apply w_mvi; rfl; apply w_lss; rfl; rfl; apply w_done0; refine w_ifdF rfl (by omega) ?_; apply w_exit; apply w_sq; apply w_reg; apply w_mvp; rfl; apply w_mvp; rfl; apply w_mvi; rfl; apply w_done0; apply w_ret)
      exact fin2 rfl rfl (List.nil_sublist _) ⟨rfl, q, rfl⟩
end Go.Gk.Chn
end

section
namespace Go.Gk.Chn
open Go Go.Gk Go.Gk.Dev Go.Gk.Cch Go.Gk.Pgr Go.Gk.Node
attribute [local irreducible] gwp gws xwp

def pdN (n : Nat) : PD := ⟨2, lives n [], fun _ => [], List.replicate (n + 2) zsec, 0, 0⟩
def Made21Ok (P : Program) (f : FuncId) : Prop := ∀ {d : PHeap} {n : Nat}, 1 ≤ n → n ≤ 1000 → GCall P f [.int .i64 n] d [] (Ret fun r d' L' => ∃ b bd bp, r = .pointer (some ⟨b, 0, none⟩) ∧ DC d' b 0 (.pointer (some ⟨bp, 0, none⟩)) ∧ Pg d' (pdN n) (.pointer (some ⟨bd, 0, none⟩)) (.pointer (some ⟨bp, 0, none⟩)) L')
def g_thimblelaw21_Made (f_device_New f_thimbleref15_New f_cache_New f_thimbleref18_New f_pager_New f_thimbleref19_New : Nat) : GFun :=
 ⟨75, [(.tmp 2)],
 (.seq
 (.reg false (.op false ⟨(some 2), none, (.mv (.const (.pointer none)))⟩ .done))
 (.seq
 (.reg false (.op false ⟨(some 14), none, (.mv (.tmp 0))⟩
  (.op false ⟨(some 15), none, (.bin .add (.tmp 14) (.const (.int .i64 2)))⟩
  (.op false ⟨(some 16), none, (.call f_device_New [(.tmp 15)])⟩
  (.op false ⟨(some 13), none, (.mv (.tmp 16))⟩
  (.op false ⟨(some 17), none, (.ext (.tmp 13) 0)⟩
  (.op false ⟨(some 18), none, (.ext (.tmp 13) 1)⟩
  (.op false ⟨(some 3), none, (.mv (.tmp 17))⟩
  (.op false ⟨(some 4), none, (.mv (.tmp 18))⟩ .done)))))))))
 (.seq
 (.reg false (.op false ⟨(some 20), none, (.mv (.tmp 0))⟩
  (.op false ⟨(some 21), none, (.bin .add (.tmp 20) (.const (.int .i64 2)))⟩
  (.op false ⟨(some 22), none, (.call f_thimbleref15_New [(.tmp 21)])⟩
  (.op false ⟨(some 19), none, (.mv (.tmp 22))⟩
  (.op false ⟨(some 23), none, (.ext (.tmp 19) 0)⟩
  (.op false ⟨(some 24), none, (.ext (.tmp 19) 1)⟩
  (.op false ⟨(some 5), none, (.mv (.tmp 23))⟩
  (.op false ⟨(some 6), none, (.mv (.tmp 24))⟩ .done)))))))))
 (.seq (.seq
 (.reg false (.op false ⟨(some 25), none, (.mv (.tmp 4))⟩
  (.op false ⟨(some 26), none, (.bin .neq (.tmp 25) (.const (.int .i64 0)))⟩
  (.op false ⟨(some 27), none, (.mv (.tmp 26))⟩
  (.op false ⟨(some 28), (some (27, false)), (.mv (.tmp 3))⟩
  (.op false ⟨(some 29), (some (27, false)), (.eqp false (.tmp 28) (.const (.pointer none)))⟩
  (.op false ⟨(some 30), none, (.pick (.tmp 27) (.const (.bool true)) (.tmp 29))⟩
  (.op false ⟨(some 31), none, (.mv (.tmp 30))⟩
  (.op false ⟨(some 32), (some (31, false)), (.mv (.tmp 5))⟩
  (.op false ⟨(some 33), (some (31, false)), (.eqp false (.tmp 32) (.const (.pointer none)))⟩
  (.op false ⟨(some 34), none, (.pick (.tmp 31) (.const (.bool true)) (.tmp 33))⟩ .done))))))))))) (.cond (.tmp 34)
 (.seq
 (.reg false (.op false ⟨(some 2), none, (.mv (.const (.pointer none)))⟩ .done)) .ret) .skip))
 (.seq
 (.reg false (.op false ⟨(some 36), none, (.mv (.tmp 3))⟩
  (.op false ⟨(some 37), none, (.call f_cache_New [(.tmp 36), (.const (.int .i64 4))])⟩
  (.op false ⟨(some 35), none, (.mv (.tmp 37))⟩
  (.op false ⟨(some 38), none, (.ext (.tmp 35) 0)⟩
  (.op false ⟨(some 39), none, (.ext (.tmp 35) 1)⟩
  (.op false ⟨(some 7), none, (.mv (.tmp 38))⟩
  (.op false ⟨(some 4), none, (.mv (.tmp 39))⟩ .done))))))))
 (.seq
 (.reg false (.op false ⟨(some 41), none, (.mv (.tmp 5))⟩
  (.op false ⟨(some 42), none, (.call f_thimbleref18_New [(.tmp 41), (.const (.int .i64 4))])⟩
  (.op false ⟨(some 40), none, (.mv (.tmp 42))⟩
  (.op false ⟨(some 43), none, (.ext (.tmp 40) 0)⟩
  (.op false ⟨(some 44), none, (.ext (.tmp 40) 1)⟩
  (.op false ⟨(some 8), none, (.mv (.tmp 43))⟩
  (.op false ⟨(some 9), none, (.mv (.tmp 44))⟩ .done))))))))
 (.seq (.seq
 (.reg false (.op false ⟨(some 45), none, (.mv (.tmp 4))⟩
  (.op false ⟨(some 46), none, (.bin .neq (.tmp 45) (.const (.int .i64 0)))⟩
  (.op false ⟨(some 47), none, (.mv (.tmp 46))⟩
  (.op false ⟨(some 48), (some (47, false)), (.mv (.tmp 7))⟩
  (.op false ⟨(some 49), (some (47, false)), (.eqp false (.tmp 48) (.const (.pointer none)))⟩
  (.op false ⟨(some 50), none, (.pick (.tmp 47) (.const (.bool true)) (.tmp 49))⟩ .done))))))) (.cond (.tmp 50)
 (.seq
 (.reg false (.op false ⟨(some 2), none, (.mv (.const (.pointer none)))⟩ .done)) .ret) .skip))
 (.seq
 (.reg false (.op false ⟨(some 52), none, (.mv (.tmp 3))⟩
  (.op false ⟨(some 53), none, (.mv (.tmp 7))⟩
  (.op false ⟨(some 54), none, (.mv (.tmp 0))⟩
  (.op false ⟨(some 55), none, (.call f_pager_New [(.tmp 52), (.tmp 53), (.const (.int .i64 2)), (.tmp 54), (.const (.slice none 0 0))])⟩
  (.op false ⟨(some 51), none, (.mv (.tmp 55))⟩
  (.op false ⟨(some 56), none, (.ext (.tmp 51) 0)⟩
  (.op false ⟨(some 57), none, (.ext (.tmp 51) 1)⟩
  (.op false ⟨(some 10), none, (.mv (.tmp 56))⟩
  (.op false ⟨(some 4), none, (.mv (.tmp 57))⟩ .done))))))))))
 (.seq
 (.reg false (.op false ⟨(some 59), none, (.mv (.tmp 5))⟩
  (.op false ⟨(some 60), none, (.mv (.tmp 8))⟩
  (.op false ⟨(some 61), none, (.mv (.tmp 0))⟩
  (.op false ⟨(some 62), none, (.call f_thimbleref19_New [(.tmp 59), (.tmp 60), (.const (.int .i64 2)), (.tmp 61), (.const (.slice none 0 0))])⟩
  (.op false ⟨(some 58), none, (.mv (.tmp 62))⟩
  (.op false ⟨(some 63), none, (.ext (.tmp 58) 0)⟩
  (.op false ⟨(some 64), none, (.ext (.tmp 58) 1)⟩
  (.op false ⟨(some 11), none, (.mv (.tmp 63))⟩
  (.op false ⟨(some 12), none, (.mv (.tmp 64))⟩ .done))))))))))
 (.seq (.seq
 (.reg false (.op false ⟨(some 65), none, (.mv (.tmp 4))⟩
  (.op false ⟨(some 66), none, (.bin .neq (.tmp 65) (.const (.int .i64 0)))⟩
  (.op false ⟨(some 67), none, (.mv (.tmp 66))⟩
  (.op false ⟨(some 68), (some (67, false)), (.mv (.tmp 10))⟩
  (.op false ⟨(some 69), (some (67, false)), (.eqp false (.tmp 68) (.const (.pointer none)))⟩
  (.op false ⟨(some 70), none, (.pick (.tmp 67) (.const (.bool true)) (.tmp 69))⟩ .done))))))) (.cond (.tmp 70)
 (.seq
 (.reg false (.op false ⟨(some 2), none, (.mv (.const (.pointer none)))⟩ .done)) .ret) .skip))
 (.seq
 (.reg false (.op false ⟨(some 71), none, (.mv (.tmp 10))⟩
  (.op false ⟨(some 72), none, (.mv (.tmp 11))⟩
  (.op false ⟨(some 73), none, (.bld [(0, 1), (1, 1)] [(.pointer none), (.pointer none)] [(0, (.tmp 71)), (1, (.tmp 72))])⟩
  (.op false ⟨(some 74), none, (.box (.tmp 73))⟩
  (.op false ⟨(some 2), none, (.mv (.tmp 74))⟩ .done)))))) .ret)))))))))))⟩

set_option maxRecDepth 4000 in
set_option maxHeartbeats 1000000 in
theorem made21_ok {P : Program} {f f1 f2 f3 f4 f5 f6 : FuncId} (hd : dec P f = some (g_thimblelaw21_Made f1 f2 f3 f4 f5 f6)) (h1 : DevNewOk P f1) (h2 : R15Ok P f2) (h3 : CacheNewOk P f3) (h4 : R18Ok P f4) (h5 : PNewOk P f5) (h6 : R19Ok P f6) : Made21Ok P f := by
  intro d n hn1 hn2
  refine GCall_of hd (Nat.le_of_ble_eq_true rfl) ?_
  show gwp P _ _ _ _ _
  (apply w_sq; apply w_reg; apply w_mvp; rfl; apply w_done0; apply w_sq; apply w_reg; apply w_mvi; rfl; apply w_add; rfl; rfl; omega; omega)
  refine w_callO (h1 (n := n + 2) (by omega) (by omega)) rfl (fun u d1 L1 hl1 ⟨dv, e1, e2, e3⟩ => ?_)
  subst e1; subst e2
  obtain ⟨bd, rfl⟩ : ∃ b, dv = .pointer (some ⟨b, 0, none⟩) := let ⟨b, _, _, _, _, _, _, h, _⟩ := e3; ⟨b, h⟩
  (apply w_mvu; rfl; apply w_ext; rfl; rfl; apply w_ext; rfl; rfl; apply w_mvp; rfl; apply w_mvi; rfl; apply w_done0; apply w_sq; apply w_reg; apply w_mvi; rfl; apply w_add; rfl; rfl; omega; omega)
  refine w_callA (A := []) (B := L1) rfl rfl (h2 (n := n + 2) (by omega) (by omega)) (fun u d2 L2 hl2 ⟨q1, br, ar, cr, q2, q3⟩ => ?_)
  subst q1; subst q2
  rw [List.nil_append]
  (apply w_mvu; rfl; apply w_ext; rfl; rfl; apply w_ext; rfl; rfl; apply w_mvp; rfl; apply w_mvi; rfl; apply w_done0; apply w_sq; apply w_sq; apply w_reg; apply w_mvi; rfl; apply w_neq; rfl; rfl; apply w_mvb; rfl; refine w_gdF rfl (by omega) ?_; apply w_gT; rfl; apply w_mvp; rfl; apply w_gT; rfl; apply w_eqpS; rfl; rfl; apply w_pickFb; rfl; rfl; apply w_mvb; rfl; apply w_gT; rfl; apply w_mvp; rfl; apply w_gT; rfl; apply w_eqpS; rfl; rfl; apply w_pickFb; rfl; rfl; apply w_done0; apply w_ifF; rfl; apply w_skip; apply w_sq; apply w_reg; apply w_mvp; rfl)
  refine w_callO (h3 (n := 4) (e3.mono hl2) (show 1 ≤ (List.replicate (n + 2) zsec).length by rw [List.length_replicate]; omega) (by omega) (by omega)) rfl (fun u d3 L3 _ ⟨q4, cv, LC, q5, q6, q7⟩ => ?_)
  subst q4; subst q5; subst q6
  obtain ⟨bc, rfl⟩ : ∃ b, cv = .pointer (some ⟨b, 0, none⟩) := let ⟨b, _, _, _, _, _, _, _, _, h, _⟩ := q7; ⟨b, h⟩
  (apply w_mvu; rfl; apply w_ext; rfl; rfl; apply w_ext; rfl; rfl; apply w_mvp; rfl; apply w_mvi; rfl; apply w_done0; apply w_sq; apply w_reg; apply w_mvp; rfl)
  refine w_callA (A := []) (B := LC ++ L1) rfl rfl (h4 (b := br)) (fun u d4 L4 hl4 ⟨p1, bq, p2⟩ => ?_)
  subst p1; subst p2
  rw [List.nil_append]
  (apply w_mvu; rfl; apply w_ext; rfl; rfl; apply w_ext; rfl; rfl; apply w_mvp; rfl; apply w_mvi; rfl; apply w_done0; apply w_sq; apply w_sq; apply w_reg; apply w_mvi; rfl; apply w_neq; rfl; rfl; apply w_mvb; rfl; refine w_gdF rfl (by omega) ?_; apply w_gT; rfl; apply w_mvp; rfl; apply w_gT; rfl; apply w_eqpS; rfl; rfl; apply w_pickFb; rfl; rfl; apply w_done0; apply w_ifF; rfl; apply w_skip; apply w_sq; apply w_reg; apply w_mvp; rfl; apply w_mvp; rfl; apply w_mvi; rfl)
  refine w_callO (h5 (frm := 2) (n := n) (m := 4) (live := []) ((e3.mono hl2).mono hl4) (q7.mono hl4) (by omega) (by omega) (by omega) (by rw [List.length_replicate]; omega) (by rw [List.length_replicate]; omega) List.nodup_nil (fun k hk => (by cases hk)) (RSl.nil : RInts d4 (.slice none 0 0) [])) rfl (fun u d5 L5 hl5 ⟨pv, g1, g2, g3⟩ => ?_)
  subst g1
  obtain ⟨bp, rfl⟩ := g3.ptr
  (apply w_mvu; rfl; apply w_ext; rfl; rfl; apply w_ext; rfl; rfl; apply w_mvp; rfl; apply w_mvi; rfl; apply w_done0; apply w_sq; apply w_reg; apply w_mvp; rfl; apply w_mvp; rfl; apply w_mvi; rfl)
  refine w_callA (A := []) (B := L5) rfl rfl (h6 (n := n) (b := br) (q := bq) ((q3.mono hl4).mono hl5) hn1 (by omega)) (fun u d6 L6 hl6 ⟨p1, xv, p2⟩ => ?_)
  subst p1; subst p2
  rw [List.nil_append]
  (apply w_mvu; rfl; apply w_ext; rfl; rfl; apply w_ext; rfl; rfl; apply w_mvp; rfl; apply w_mvi; rfl; apply w_done0; apply w_sq; apply w_sq; apply w_reg; apply w_mvi; rfl; apply w_neq; rfl; rfl; apply w_mvb; rfl; refine w_gdF rfl (by omega) ?_; apply w_gT; rfl; apply w_mvp; rfl; apply w_gT; rfl; apply w_eqpS; rfl; rfl; apply w_pickFb; rfl; rfl; apply w_done0; apply w_ifF; rfl; apply w_skip; apply w_sq; apply w_reg; apply w_mvp; rfl; apply w_mvp; rfl; apply w_bld; rfl; apply w_boxa; rfl; intro _ _; apply w_mvp; rfl; apply w_done0; apply w_ret)
  rename_i bm Tm
  exact finV [.pointer (some ⟨bm, 0, none⟩)] ⟨rfl, trivial⟩ (d' := join d6 (bx bm Tm [.pointer (some ⟨bp, 0, none⟩), .pointer (some ⟨xv, 0, none⟩)])) (L' := L5) Vs.freeze ⟨bm, bd, bp, rfl, (Le.dcs (Le.join_right _ _)).at (i := 0) rfl, (g3.mono hl6).mono (Le.join_left _ _)⟩
end Go.Gk.Chn
end
