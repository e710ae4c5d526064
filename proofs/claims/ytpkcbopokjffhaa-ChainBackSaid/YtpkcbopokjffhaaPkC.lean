/-
  Our own texts, one behind the other: Gk34 Gk35 Gk36 Gk37 Gk38 Gk12 Gk13 Gk14 Gk15 Gk39 Gk16 Gk17 Gk18 Gk23 Gk30 Gk31 Gk24 GkE0 GkE1.
-/
import Derived.Test.YtpkcbopokjffhaaPkB
section
namespace Go.Gk
open Go Go.Conc

theorem foldl_put {n : Nat} : ∀ (ps : List Nat) (vs : List Value) (ρ : Env), (∀ t ∈ ps, t < n) → ps.length = vs.length →
    (ps.zip vs).foldl (fun tmps (x : Nat × Value) => tmps.setIfInBounds x.1 x.2) (act n ρ []).tmps = (act n (putL ρ ps vs) []).tmps
  | [], [], ρ, _, _ => rfl
  | [], _ :: _, _, _, h => by simp at h
  | _ :: _, [], _, _, h => by simp at h
  | p :: ps, v :: vs, ρ, hp, hl => by
    have h1 := congrArg Act.tmps (act_put (n := n) (ρ := ρ) (ds := []) (d := some p) (fun t e => by cases e; exact hp p (by simp)) v)
    have h2 : (act n ρ []).tmps.setIfInBounds p v = (act n (upd ρ p v) []).tmps := h1
    simp only [List.zip_cons_cons, List.foldl_cons, putL]
    rw [h2]
    exact foldl_put ps vs (upd ρ p v) (fun t ht => hp t (List.mem_cons_of_mem _ ht)) (by simpa using hl)
theorem zip_put {n : Nat} {ps : Array Tmp} {vs : List Value} {ρ : Env} (hp : ∀ t ∈ ps.toList, t < n) (hl : vs.length = ps.size) :
    ((ps.zip vs.toArray).foldl (fun tmps (x : Nat × Value) => tmps.setIfInBounds x.1 x.2) (act n ρ []).tmps) = (act n (putL ρ ps.toList vs) []).tmps := by
  rw [← foldl_put ps.toList vs ρ hp (by simpa using hl.symm), ← Array.foldl_toList]
  simp

def roundQ (l : Nat) (rc : Loop) (R : Value → PHeap → List PHeap → Prop) : GPost where
  n := fun _ d L => R (.bool true) d (sg l (.loop { rc with state := .ready, pending := none }) :: L)
  ex := fun i _ d L => R (.bool false) d (sg l (.loop { rc with state := .done, pending := some (.exit i) }) :: L)
  ret := fun _ d L => R (.bool false) d (sg l (.loop { rc with state := .done, pending := some .ret }) :: L)
  pan := fun _ _ _ => False
def onlyN (N : Env → Post) : GPost where
  n := N
  ex := fun _ _ _ _ => False
  ret := fun _ _ _ => False
  pan := fun _ _ _ => False
theorem Ok.putLoop {d : PHeap} {L F : List PHeap} {l : Nat} {o o' : Obj} {W : World} (x : Ok (d :: (L ++ (sg l o :: F))) W) : Ok (d :: (L ++ (sg l o' :: F))) (W.putObj l o') := by
  have p : (d :: (L ++ (sg l o :: F))).Perm (sg l o :: (d :: (L ++ F))) := by
    refine (List.Perm.cons d List.perm_middle).trans (List.Perm.swap _ _ _)
  have p' : (sg l o' :: (d :: (L ++ F))).Perm (d :: (L ++ (sg l o' :: F))) := by
    refine (List.Perm.swap _ _ _).trans (List.Perm.cons d List.perm_middle.symm)
  exact ((x.perm p).write (W.putObj l o') rfl).perm p'
theorem keep_putObj (W : World) (l : Nat) (o : Obj) : Keep W (W.putObj l o) := ⟨rfl, rfl, rfl, by simp⟩
theorem Ok.loopAt {d : PHeap} {L F : List PHeap} {l : Nat} {o : Obj} {W : World} (x : Ok (d :: (L ++ (sg l o :: F))) W) : W.heap[l]? = some o :=
  x.2 (sg l o) (by simp) l o (sg_self _ _)
theorem Ok.toFrame {d h : PHeap} {L F : List PHeap} {W : World} : Ok (d :: ((h :: L) ++ F)) W ↔ Ok (d :: (L ++ (h :: F))) W := by
  have p : (d :: ((h :: L) ++ F)).Perm (d :: (L ++ (h :: F))) := List.Perm.cons d (by rw [List.cons_append]; exact List.perm_middle.symm)
  exact ⟨fun x => x.perm p, fun x => x.perm p.symm⟩

theorem gyield_of {P : Program} {ρ : Env} {ps : List Nat} {as bd : GCode} {rc : Loop} {l : Nat} {vs : List Value} {d : PHeap} {L : List PHeap} {R : Value → PHeap → List PHeap → Prop}
    (hr : IsRec P ρ ps as bd rc) (hst : rc.state = .ready) (hlen : vs.length = ps.length)
    (h : gwp P as (onlyN (gwp P bd (roundQ l rc R))) (putL ρ ps vs) d L) : GYield P l vs d (sg l (.loop rc) :: L) R := by
  obtain ⟨pr, n, hm, ht, hps, hlt, ha, hb, na, nb⟩ := hr.h
  intro F W hOk
  have hOk1 := Ok.toFrame.1 hOk
  have hl := hOk1.loopAt
  have hsz : vs.length = rc.params.size := by rw [hlen, ← hps]; simp
  refine ⟨rc, hl, hsz, fun m => roundIn_of_wpIn trivial ?_⟩
  rw [ht, zip_put (by rw [hps]; exact hlt) hsz, hps]
  have e0 : ({ tmps := (act n (putL ρ ps vs) []).tmps, defers := [] } : Act) = act n (putL ρ ps vs) [] := rfl
  rw [e0]
  subst ha; subst hb
  have s1 := gwp_soundIn (r := some l) (m := m) (ds := []) (F := sg l (.loop rc) :: F) (W0 := W) (d0 := d) hm rc.assign _ _ d L W na h hOk1 (Le.refl d) (Keep.refl W)
  rw [FW_some] at s1
  refine wpIn_mono s1 ?_
  intro e a w hq
  cases e with
  | normal =>
    obtain ⟨ρ1, d1, L1, rfl, k1, k2, k3, k4⟩ := hq
    have hl1 := k1.loopAt
    refine ⟨_, run_beginRound hl1 hst, ?_⟩
    have k1' := k1.putLoop (o' := .loop { rc with state := .busy })
    have s2 := gwp_soundIn (r := some l) (m := m) (ds := []) (F := sg l (.loop { rc with state := .busy }) :: F) (W0 := W) (d0 := d) hm rc.body _ _ d1 L1 _ nb k4 k1' k2 (k3.trans (keep_putObj _ _ _))
    rw [FW_some] at s2
    refine wpIn_mono s2 ?_
    intro e a w hq
    cases e with
    | normal =>
      obtain ⟨ρ2, d2, L2, rfl, q1, q2, q3, q4⟩ := hq
      refine ⟨_, _, run_endRound none q1.loopAt, _, d2, _, rfl, ?_, q2, q3.trans (keep_putObj _ _ _), q4⟩
      exact Ok.toFrame.2 q1.putLoop
    | exit id =>
      obtain ⟨ρ2, d2, L2, rfl, q1, q2, q3, q4⟩ := hq
      refine ⟨_, _, run_endRound _ q1.loopAt, _, d2, _, rfl, ?_, q2, q3.trans (keep_putObj _ _ _), q4⟩
      exact Ok.toFrame.2 q1.putLoop
    | ret =>
      obtain ⟨ρ2, d2, L2, rfl, q1, q2, q3, q4⟩ := hq
      refine ⟨_, _, run_endRound _ q1.loopAt, _, d2, _, rfl, ?_, q2, q3.trans (keep_putObj _ _ _), q4⟩
      exact Ok.toFrame.2 q1.putLoop
    | panic c => obtain ⟨_, _, _, _, _, _, h⟩ := hq; exact h
    | goto t => exact hq.elim
    | outgrown => exact hq.elim
  | exit id => obtain ⟨_, _, _, _, _, _, _, h⟩ := hq; exact h
  | ret => obtain ⟨_, _, _, _, _, _, _, h⟩ := hq; exact h
  | panic c => obtain ⟨_, _, _, _, _, _, h⟩ := hq; exact h
  | goto t => exact hq.elim
  | outgrown => exact hq.elim
end Go.Gk
end

section
namespace Go.Gk
open Go Go.Conc

section
variable {P : Program} {n : Nat} {ds : List Deferred} {ops : Array Oper} {F : List PHeap}
theorem quiet_steps {pan : List PanicEntry → Post} {Qn : Env → Post} {b : Frame} {items : List Item} {cs : List Frame} {W : World} {rest : List Nat} : ∀ (l : List Nat) (s : GS), toGS P n ops (straight l) = some s → (∀ i ∈ l, plainAt P ops i = true) →
    ∀ (ρ : Env) (d : PHeap) (L : List PHeap), gws P pan Qn s [] ρ d L → Ok (d :: (L ++ F)) W →
      ∃ ρ' d' L', Steps P (lone (b.at (act n ρ ds) (.inRegion ops (l ++ rest) :: items)) cs W) (lone (b.at (act n ρ' ds) (.inRegion ops rest :: items)) cs W) ∧ Ok (d' :: (L' ++ F)) W ∧ Le d d' ∧ Qn ρ' d' L'
  | [], s, hs, _, ρ, d, L, h, hOk => by
    simp [straight, toGS] at hs; subst hs
    obtain ⟨d1, L1, hv, hq⟩ := h
    exact ⟨ρ, d1, L1, Steps.refl _ _, hv.2 F W (by simpa using hOk), hv.1, hq⟩
  | i :: l, s, hs, hp, ρ, d, L, h, hOk => by
    simp only [straight, toGS] at hs
    split at hs <;> try cases hs
    rename_i g s' hg hs'
    rw [Option.bind_eq_some_iff] at hg
    obtain ⟨o, ho, hd⟩ := hg
    obtain ⟨d1, L1, hv, h⟩ := h
    have hOk1 := hv.2 F W hOk
    obtain ⟨hop, hdst, _, hdi, hgd, hgu⟩ := decOp_spec hd
    have hpi := hp i (by simp)
    simp only [plainAt, Bool.and_eq_true, quietAt, ho, Option.bind_some, hdi, Option.any_some, Option.all_some] at hpi
    obtain ⟨hq, hng⟩ := hpi
    have hng' : o.guard = none := by simpa using hng
    have hgn : g.guard = none := by
      rcases hgu with ⟨_, h⟩ | ⟨j, want, t, h, _⟩
      · exact h
      · rw [hng'] at h; cases h
    simp only [gop, hgn] at h
    rw [gi_quiet hq] at h
    obtain ⟨v, hev, d2, L2, hv2, hgws⟩ := h
    have hl : ∀ a v, HC d1 ([] ++ L1) a v → W.cell? a = some v := fun a v hc => hc.cell hOk1.head (fun q hq => hOk1.2 q (by simp at hq; simp [hq]))
    have hrun := evq_sound (P := P) hdi hq hev (E := (act n ρ ds).eval) (fun x hx => act_eval (hop x hx)) hl
    have hw : Region.wanted o (yielded ops (act n ρ ds).tmps) = true := by simp [Region.wanted, hng']
    have hstep : step P (lone (b.at (act n ρ ds) (.inRegion ops (i :: (l ++ rest)) :: items)) cs W) = .next (lone (b.at (act n (put ρ g.dst v) ds) (.inRegion ops (l ++ rest) :: items)) cs W) := by
      refine step_lone_go ?_
      rw [stepG_op ho hw]
      have hf := Frame.finish_at b (act n ρ ds) ops i (l ++ rest) items v
      rw [ho, Option.bind_some, act_put hdst, ← hgd] at hf
      rw [← hf]
      simp [stepG.apply, hrun]
    obtain ⟨ρ', d', L', hst, k1, k2, k3⟩ := quiet_steps l s' hs' (fun i hi => hp i (List.mem_cons_of_mem _ hi)) (put ρ g.dst v) d2 L2 hgws (hv2.2 F W hOk1)
    exact ⟨ρ', d', L', Steps.head hstep hst, k1, (hv.1.trans hv2.1).trans k2, k3⟩
theorem range_split {n k : Nat} (h : k < n) : List.range n = List.range k ++ (k :: (List.range n).drop (k + 1)) := by
  have h1 := (List.take_append_drop k (List.range n)).symm
  rw [List.take_range, Nat.min_eq_left (Nat.le_of_lt h)] at h1
  rw [List.drop_eq_getElem_cons (by simpa using h)] at h1
  simpa using h1
theorem sp_wp {id k : Nat} {o : Oper} {s1 s2 : GS} {Q : GPost} {Qm : Env → Post} {W0 : World} {d0 : PHeap} (ho : ops[k]? = some o) (hs1 : toGS P n ops (straight (List.range k)) = some s1) (hp : (List.range k).all (plainAt P ops) = true)
    (hs2 : toGS P n ops (straight ((List.range ops.size).drop (k + 1))) = some s2) (hdst : ∀ t, o.dst = some t → t < n)
    (hstep : ∀ ρ d L W, Ok (d :: (L ++ F)) W → Qm ρ d L → ∃ v W' d' L', (∀ (b : Frame) items cs rest, step P (lone (b.at (act n ρ ds) (.inRegion ops (k :: rest) :: items)) cs W) = .next (lone ((b.at (act n ρ ds) (.inRegion ops (k :: rest) :: items)).finish v) cs W')) ∧
      Ok (d' :: (L' ++ F)) W' ∧ Le d d' ∧ Keep W W' ∧ gws P Q.pan Q.n s2 [] (put ρ o.dst v) d' L')
    {ρ : Env} {d : PHeap} {L : List PHeap} {W : World} (h : gws P Q.pan Qm s1 [] ρ d L) (hOk : Ok (d :: (L ++ F)) W) (hle : Le d0 d) (hk : Keep W0 W) :
    (Code.region id ops false).wp P (lift n ds F W0 d0 Q) (act n ρ ds) W := by
  intro b items cs
  have hkl : k < ops.size := (Array.getElem?_eq_some_iff.1 ho).1
  rw [List.all_eq_true] at hp
  obtain ⟨ρ1, d1, L1, st1, k1, k2, k3⟩ := quiet_steps (F := F) (ds := ds) (b := b) (items := items) (cs := cs) (rest := k :: (List.range ops.size).drop (k + 1)) _ s1 hs1 hp ρ d L h hOk
  obtain ⟨v, W', d2, L2, hst, q1, q2, q3, q4⟩ := hstep ρ1 d1 L1 W k1 k3
  have st2 := hst b items cs ((List.range ops.size).drop (k + 1))
  rw [Frame.finish_at, ho, Option.bind_some, act_put hdst] at st2
  obtain ⟨e, a', w', hq, harr⟩ := wp_ops _ _ _ (straight_sound _ s2 hs2 _ d2 L2 W' q4 q1 (hle.trans (k2.trans q2)) (hk.trans q3)) b items cs
  refine ⟨e, a', w', hq, .of_steps ?_ harr⟩
  refine Steps.trans (.one step_region) ?_
  have e1 : lone (b.at (act n ρ ds) (.inRegion ops (List.range ops.size) :: items)) cs W = lone (b.at (act n ρ ds) (.inRegion ops (List.range k ++ (k :: (List.range ops.size).drop (k + 1))) :: items)) cs W := by rw [← range_split hkl]
  rw [e1]
  exact Steps.trans st1 (.one st2)
end
end Go.Gk
end

section
namespace Go.Gk
open Go Go.Conc

section
variable {P : Program} {ops : Array Oper} {k : Nat} {o : Oper} {a : Act} {W : World} {c cap s r : Nat} {buf : Array Value} {tm : Bool}
theorem snd_step (ho : ops[k]? = some o) (hg : o.guard = none) {ch x : Operand} (hop : o.op = .send ch x) (hc : a.eval ch = .chan (some c)) (hh : W.heap[c]? = some (.chan cap buf false s r tm)) (hroom : buf.size < cap)
    (b : Frame) (items : List Item) (cs : List Frame) (rest : List Nat) :
    step P (lone (b.at a (.inRegion ops (k :: rest) :: items)) cs W) = .next (lone ((b.at a (.inRegion ops (k :: rest) :: items)).finish undef) cs (W.setChan c cap (buf.push (a.eval x)) false (s + 1) r tm)) := by
  have hw : Region.wanted o (yielded ops a.tmps) = true := by simp [Region.wanted, hg]
  have hrun : (execOp a.eval o).run P W = .ok (.comm #[scase c (a.eval x) (.tuple #[])] true .send) W := by simp [execOp, hop, hc, scase]
  have h := stepG_op (P := P) (b := b) (a := a) (k := items) (cs := cs) (w := W) (ops := ops) (rest := rest) ho hw
  simp only [stepG.apply, Sem.runT_eq, hrun] at h
  exact step_lone_send_room h hh hroom
theorem sel_step_some (ho : ops[k]? = some o) (hg : o.guard = none) {ch : Operand} {e : TypeId} {z : Value} {ti : TypeInfo} (hop : o.op = .select #[⟨ch, none, e⟩] false) (hi : P.info? e = some ti) (hz : ti.zero = some z) (hc : a.eval ch = .chan (some c)) (hh : W.heap[c]? = some (.chan cap buf false s r tm)) (hsome : 0 < buf.size)
    (b : Frame) (items : List Item) (cs : List Frame) (rest : List Nat) :
    step P (lone (b.at a (.inRegion ops (k :: rest) :: items)) cs W) = .next (lone ((b.at a (.inRegion ops (k :: rest) :: items)).finish (.tuple #[goInt 0, .bool true, buf.getD 0 undef])) cs (W.setChan c cap (buf.extract 1 buf.size) false s (r + 1) tm)) := by
  have hw : Region.wanted o (yielded ops a.tmps) = true := by simp [Region.wanted, hg]
  have hrun : (execOp a.eval o).run P W = .ok (.comm #[rcase c z] false .select) W := by simp [execOp, hop, hc, rcase, zero_run hi hz, Sem.run_bind, Result.andThen]
  have h := stepG_op (P := P) (b := b) (a := a) (k := items) (cs := cs) (w := W) (ops := ops) (rest := rest) ho hw
  simp only [stepG.apply, Sem.runT_eq, hrun] at h
  exact step_lone_select_recv_buf h hh hsome
theorem sel_step_none (ho : ops[k]? = some o) (hg : o.guard = none) {ch : Operand} {e : TypeId} {z : Value} {ti : TypeInfo} (hop : o.op = .select #[⟨ch, none, e⟩] false) (hi : P.info? e = some ti) (hz : ti.zero = some z) (hc : a.eval ch = .chan (some c)) (hh : W.heap[c]? = some (.chan cap #[] false s r tm))
    (b : Frame) (items : List Item) (cs : List Frame) (rest : List Nat) :
    step P (lone (b.at a (.inRegion ops (k :: rest) :: items)) cs W) = .next (lone ((b.at a (.inRegion ops (k :: rest) :: items)).finish (.tuple #[goInt (-1), .bool false, z])) cs W) := by
  have hw : Region.wanted o (yielded ops a.tmps) = true := by simp [Region.wanted, hg]
  have hrun : (execOp a.eval o).run P W = .ok (.comm #[rcase c z] false .select) W := by simp [execOp, hop, hc, rcase, zero_run hi hz, Sem.run_bind, Result.andThen]
  have h := stepG_op (P := P) (b := b) (a := a) (k := items) (cs := cs) (w := W) (ops := ops) (rest := rest) ho hw
  simp only [stepG.apply, Sem.runT_eq, hrun] at h
  exact step_lone_select_default h hh
end
theorem setChan_heap (W : World) (c cap : Nat) (buf : Array Value) (cl : Bool) (s r : Nat) (tm : Bool) : (W.setChan c cap buf cl s r tm).heap = W.heap.setIfInBounds c (.chan cap buf cl s r tm) := rfl
theorem keep_setChan (W : World) (c cap : Nat) (buf : Array Value) (cl : Bool) (s r : Nat) (tm : Bool) : Keep W (W.setChan c cap buf cl s r tm) := ⟨rfl, rfl, rfl, by rw [setChan_heap]; simp⟩
theorem Ok.setAtI {d : PHeap} {L F : List PHeap} {W W' : World} {i b : Nat} {o o' : Obj} (x : Ok (d :: (L ++ F)) W) (hi : L[i]? = some (sg b o)) (e : W'.heap = W.heap.setIfInBounds b o') : Ok (d :: (L.set i (sg b o') ++ F)) W' := by
  obtain ⟨A, B, h1, h2⟩ := getElem?_split hi (sg b o')
  rw [h2]
  rw [h1] at x
  exact Ok.front.2 ((Ok.front.1 x).write W' e)
end Go.Gk
end

section
namespace Go.Gk
open Go Go.Conc

section
variable {Fe : Fence} {m : Nat} {P : Program}
theorem wpIn_monoQ {o : Oper} {a : Act} {w : World} {K K' : Act → World → Prop} {Q Q' : Exit → Act → World → Prop} (h : ∀ a w, K a w → K' a w) (hp : ∀ c a w, Q (.panic c) a w → Q' (.panic c) a w) (hl : LetsOut Q → LetsOut Q')
    (hh : o.wpIn Fe m P a w K Q) : o.wpIn Fe m P a w K' Q' := by
  unfold Oper.wpIn at *
  refine ⟨hh.1, ?_⟩
  have hh := hh.2
  generalize (o.semAt Fe.round a.eval).run P w = r at *
  cases r with
  | ok x w' =>
    cases x <;> simp only [Oper.uponIn] at hh ⊢ <;>
      first
        | exact h _ _ hh
        | exact ⟨hh.1, CallsIn.mono hh.2 (fun e w'' he => by cases e <;> first | exact h _ _ he | exact hp _ _ _ he | exact hl he)⟩
        | exact ⟨hh.1, RowsIn.mono hh.2 (fun _ _ he => h _ _ he)⟩
        | exact ⟨hh.1, RoundIn.mono hh.2 (fun e w'' he => by cases e <;> first | exact h _ _ he | exact hp _ _ _ he | exact hl he)⟩
  | halt x w' => cases x <;> simp only [Oper.uponIn] at hh ⊢ <;> exact hp _ _ _ hh
theorem wpOpsIn_app {ops : Array Oper} {Q Q' : Exit → Act → World → Prop} {l2 : List Nat} (hn : ∀ a w, Q .normal a w → wpOpsIn Fe m P ops Q' l2 a w) (hp : ∀ c a w, Q (.panic c) a w → Q' (.panic c) a w) (hl : LetsOut Q → LetsOut Q') :
    ∀ (l1 : List Nat) (a : Act) (w : World), wpOpsIn Fe m P ops Q l1 a w → wpOpsIn Fe m P ops Q' (l1 ++ l2) a w
  | [], a, w, h => hn a w h
  | i :: l1, a, w, h => by
    simp only [wpOpsIn, List.cons_append] at h ⊢
    cases ho : ops[i]? with
    | none => rw [ho] at h; exact wpOpsIn_app hn hp hl l1 a w h
    | some o =>
      rw [ho] at h
      simp only at h ⊢
      split
      · rename_i hw
        rw [if_pos hw] at h
        exact wpIn_monoQ (fun a w h => wpOpsIn_app hn hp hl l1 a w h) hp hl h
      · rename_i hw
        rw [if_neg hw] at h
        exact ⟨h.1, wpOpsIn_app hn hp hl l1 _ w h.2⟩
end
section
variable {P : Program} {n : Nat} {ds : List Deferred} {ops : Array Oper} {F : List PHeap} {W0 : World} {d0 : PHeap}
theorem yl_wpIn {m id k : Nat} {o : Oper} {s1 s2 : GS} {Q : GPost} {f : Operand} {args : Array Operand} {ats : Array TypeId} (ho : ops[k]? = some o) (hg : o.guard = none) (hop : o.op = .call ⟨.value f, args, ats⟩) (hopn : ∀ x ∈ o.op.operands, opndOk n x = true)
    (hdst : ∀ t, o.dst = some t → t < n) (hnd : ∀ (i : Nat) (o : Oper), ops[i]? = some o → isDefer o.op = false)
    (hs1 : toGS P n ops (straight (List.range k)) = some s1) (hs2 : toGS P n ops (straight ((List.range ops.size).drop (k + 1))) = some s2)
    {ρ : Env} {d : PHeap} {L : List PHeap} {W : World} (h : xwp P (.yl s1 o.dst f args.toList s2) Q ρ d L) (hOk : Ok (d :: (L ++ F)) W) (hle : Le d0 d) (hk : Keep W0 W) :
    (Code.region id ops false).wpIn Fence.wide m P (lift n ds F W0 d0 Q) (act n ρ ds) W := by
  have hkl : k < ops.size := (Array.getElem?_eq_some_iff.1 ho).1
  refine wpIn_region ?_
  rw [range_split hkl]
  refine wpOpsIn_app ?_ ?_ (fun h => absurd h lift_letsOut) _ _ _ (wpOps_in (r := none) (Q := lift n ds F W0 d0 { Q with n := ylMid P Q o.dst f args.toList s2 }) lift_letsOut hnd _ _ _ (straight_sound _ s1 hs1 ρ d L W h hOk hle hk))
  · rintro a w ⟨ρ1, d1, L1, rfl, k1, k2, k3, l, A, B, R, hf, hL, hy, hR⟩
    subst hL
    have hw : Region.wanted o (yielded ops (act n ρ1 ds).tmps) = true := by simp [Region.wanted, hg]
    obtain ⟨rc, hh, hlen, hround⟩ := hy (B ++ F) w (by rw [← List.append_assoc]; exact k1)
    have ha := map_eval (ρ := ρ1) (ds := ds) args (fun x hx => hopn x (by rw [hop]; simp [Op.operands, Call.operands, hx]))
    have hfv := act_eval (ρ := ρ1) (ds := ds) (hopn f (by rw [hop]; simp [Op.operands, Call.operands]))
    have hrun := run_yield (P := P) hh (args := (args.toList.map (ev ρ1)).toArray) (by simpa using hlen)
    have hexec : (execOp (act n ρ1 ds).eval o).run P w = .ok (.round l rc.fn ((rc.params.zip (args.toList.map (ev ρ1)).toArray).foldl (fun tmps (t, a) => tmps.setIfInBounds t a) rc.tmps) rc.assign rc.body) w := by
      simp only [execOp, hop, resolve, Sem.run_bind, hfv, hf, Deferred.ofValue, Sem.run_pure, Result.andThen, invoke, ha, hrun]
      simpa using hrun
    simp only [wpOpsIn, ho]
    rw [if_pos hw]
    refine ⟨fun _ _ => trivial, ?_⟩
    have e : o.semAt Fence.wide.round (act n ρ1 ds).eval = execOp (act n ρ1 ds).eval o := Oper.semAt_none ..
    rw [e, hexec, Oper.uponIn_round]
    refine ⟨fun h => by simp [Fence.wide] at h, (hround _).mono ?_⟩
    rintro e w2 ⟨v, d2, L2, rfl, q1, q2, q3, q4⟩
    show wpOpsIn _ _ _ _ _ _ _ _
    rw [act_put hdst]
    rw [← List.append_assoc] at q1
    exact wpOps_in (r := none) lift_letsOut hnd _ _ _ (straight_sound _ s2 hs2 _ d2 (L2 ++ B) w2 (hR v d2 L2 q2 q4) q1 (k2.trans q2) (k3.trans q3))
  · intro c a w h; exact h
end
end Go.Gk
end

section
namespace Go.Gk
open Go Go.Conc

def marksOf (ms : List Nat) : List Deferred := ms.map fun r => { target := .collected r, args := #[] }
def markH (ms : List Nat) : List PHeap := ms.map fun r => sg r (.deferred (some []))
def liftM (n : Nat) (F : List PHeap) (W0 : World) (d0 : PHeap) (Q : GPost) (e : Exit) (a : Act) (W : World) : Prop := ∃ ms, lift n (marksOf ms) (markH ms ++ F) W0 d0 Q e a W
theorem find_range {p : Nat → Bool} {n k : Nat} (h : (List.range n).find? p = some k) : k < n ∧ p k = true :=
  ⟨List.mem_range.1 (List.mem_of_find?_eq_some h), List.find?_some h⟩
theorem sp_sound {yl : Bool} {P : Program} {n : Nat} {ds : List Deferred} {F : List PHeap} {W0 : World} {d0 : PHeap} {m id : Nat} {ops : Array Oper} (hnd : ∀ (i : Nat) (o : Oper), ops[i]? = some o → isDefer o.op = false)
    {Q : GPost} {ρ : Env} {d : PHeap} {L : List PHeap} {W : World} (h : xwp P (decSp yl P n ops) Q ρ d L) (hOk : Ok (d :: (L ++ F)) W) (hle : Le d0 d) (hk : Keep W0 W) :
    (Code.region id ops false).wpIn Fence.wide m P (lift n ds F W0 d0 Q) (act n ρ ds) W := by
  unfold decSp at h
  split at h
  · exact h.elim
  rename_i k hkf
  split at h
  rotate_left
  · exact h.elim
  rename_i s1 s2 o hs1 hs2 ho
  split at h
  rotate_left
  · exact h.elim
  rename_i hc
  simp only [Bool.and_eq_true] at hc
  obtain ⟨⟨hg, hopn⟩, hdo⟩ := hc
  have hg : o.guard = none := by simpa using hg
  have hopn : ∀ x ∈ o.op.operands, opndOk n x = true := by
    intro x hx
    exact List.all_eq_true.1 hopn x (Array.mem_toList_iff.2 hx)
  have hdst : ∀ t, o.dst = some t → t < n := by
    intro t e; rw [e] at hdo; simpa [dstOk] using hdo
  split at h
  · rename_i ch x hop
    split at h
    rotate_left
    · exact h.elim
    rename_i hp
    refine wpIn_wide.2 (sp_wp (Q := Q) (Qm := sndMid P Q o.dst ch x s2) ho hs1 hp hs2 hdst ?_ h hOk hle hk)
    rintro ρ1 d1 L1 W1 hOk1 ⟨i, c, cap, buf, s, r, tm, hch, hi, hroom, hq⟩
    have hh : W1.heap[c]? = some (.chan cap buf.toArray false s r tm) := hOk1.2 (sg c _) (by simp [List.mem_of_getElem? hi]) c _ (sg_self _ _)
    have ech := act_eval (ρ := ρ1) (ds := ds) (hopn ch (by rw [hop]; simp [Op.operands]))
    have ex := act_eval (ρ := ρ1) (ds := ds) (hopn x (by rw [hop]; simp [Op.operands]))
    refine ⟨undef, _, d1, _, fun b items cs rest => snd_step ho hg hop (ech.trans hch) hh (by simpa using hroom) b items cs rest, ?_, Le.refl _, keep_setChan .., hq⟩
    refine hOk1.setAtI hi ?_
    rw [setChan_heap, ex]; simp
  · rename_i cs' hop
    split at h
    rotate_left
    · exact h.elim
    rename_i ch e hcs
    split at h
    rotate_left
    · exact h.elim
    rename_i z hz
    split at h
    rotate_left
    · exact h.elim
    rename_i hp
    have hcs' : cs' = #[⟨ch, none, e⟩] := by
      apply Array.ext'; simpa using hcs
    subst hcs'
    rw [Option.bind_eq_some_iff] at hz
    obtain ⟨ti, hi', hz'⟩ := hz
    refine wpIn_wide.2 (sp_wp (Q := Q) (Qm := selMid P Q o.dst ch z s2) ho hs1 hp hs2 hdst ?_ h hOk hle hk)
    rintro ρ1 d1 L1 W1 hOk1 ⟨i, c, cap, buf, s, r, tm, hch, hi, hq1, hq2⟩
    have hh : W1.heap[c]? = some (.chan cap buf.toArray false s r tm) := hOk1.2 (sg c _) (by simp [List.mem_of_getElem? hi]) c _ (sg_self _ _)
    have ech := act_eval (ρ := ρ1) (ds := ds) (hopn ch (by rw [hop]; simp [Op.operands]))
    cases buf with
    | nil =>
      exact ⟨_, W1, d1, L1, fun b items cs rest => sel_step_none ho hg hop hi' hz' (ech.trans hch) hh b items cs rest, hOk1, Le.refl _, Keep.refl _, hq2 rfl⟩
    | cons v rest' =>
      refine ⟨_, _, d1, _, fun b items cs rest => sel_step_some ho hg hop hi' hz' (ech.trans hch) hh (by simp) b items cs rest, ?_, Le.refl _, keep_setChan .., hq1 v rest' rfl⟩
      refine hOk1.setAtI hi ?_
      rw [setChan_heap]; simp
  · rename_i f args ats hop
    split at h
    rotate_left
    · exact h.elim
    exact yl_wpIn ho hg hop hopn hdst hnd hs1 hs2 h hOk hle hk
  · exact h.elim
theorem xwp_sound {yl pr : Bool} {P : Program} {n : Nat} {F : List PHeap} {W0 : World} {d0 : PHeap} {m : Nat} (hm : P.follows .mixedOrders = true) :
    ∀ (c : Code) (Q : GPost) (ρ : Env) (d : PHeap) (L : List PHeap) (W : World) (ms : List Nat), xwp P (decX yl pr P n c) Q ρ d L → Ok (d :: (L ++ (markH ms ++ F))) W → Le d0 d → Keep W0 W →
      c.wpIn Fence.wide m P (liftM n F W0 d0 Q) (act n ρ (marksOf ms)) W := by
  intro c
  induction c with
  | skip =>
    intro Q ρ d L W ms h hOk hle hk
    exact wpIn_skip ⟨ms, ρ, d, L, rfl, hOk, hle, hk, h⟩
  | region id ops drawn =>
    intro Q ρ d L W ms h hOk hle hk
    simp only [decX] at h
    split at h
    · rename_i hc
      simp only [Bool.and_eq_true, Bool.not_eq_true'] at hc
      obtain ⟨⟨hd, _⟩, hnd⟩ := hc
      subst hd
      exact wpIn_mono (sp_sound (nodef_ops hnd) h hOk hle hk) (fun e a w hq => ⟨ms, hq⟩)
    · exact wpIn_mono (wpIn_wide.2 (gwp_sound (ds := marksOf ms) (F := markH ms ++ F) (W0 := W0) (d0 := d0) hm _ Q ρ d L W h hOk hle hk)) (fun e a w hq => ⟨ms, hq⟩)
  | seq a b iha ihb =>
    intro Q ρ d L W ms h hOk hle hk
    simp only [decX] at h
    rw [xseq] at h
    refine wpIn_seq (wpIn_mono (iha _ ρ d L W ms h hOk hle hk) ?_)
    intro e a w hq
    cases e with
    | normal =>
      obtain ⟨ms', ρ', d', L', rfl, h1, h2, h3, h4⟩ := hq
      exact ihb Q ρ' d' L' w ms' h4 h1 h2 h3
    | _ => exact hq
  | cond c a b iha ihb =>
    intro Q ρ d L W ms h hOk hle hk
    simp only [decX] at h
    split at h
    · rename_i hc
      rw [xcond] at h
      obtain ⟨t, ht, h1, h2⟩ := h
      exact wpIn_cond_split (by rw [act_eval hc]; exact ht) (fun e => iha Q ρ d L W ms (h1 e) hOk hle hk) (fun e => ihb Q ρ d L W ms (h2 e) hOk hle hk)
    · exact h.elim
  | block id a iha =>
    intro Q ρ d L W ms h hOk hle hk
    simp only [decX] at h
    rw [xblock] at h
    refine wpIn_block (wpIn_mono (iha _ ρ d L W ms h hOk hle hk) ?_)
    intro e a w hq
    cases e with
    | exit i =>
      obtain ⟨ms', ρ', d', L', rfl, h1, h2, h3, h4⟩ := hq
      simp only [Exit.inBlock]
      by_cases e : i = id
      · simp only [e, if_true] at h4 ⊢
        exact ⟨ms', ρ', d', L', rfl, h1, h2, h3, h4⟩
      · simp only [if_neg e] at h4 ⊢
        exact ⟨ms', ρ', d', L', rfl, h1, h2, h3, h4⟩
    | _ => exact hq
  | loop a iha =>
    intro Q ρ d L W ms h hOk hle hk
    simp only [decX] at h
    rw [xloop] at h
    obtain ⟨I, ⟨m0, hI⟩, round⟩ := h
    refine wpIn_loop_ghost (fun m a w => ∃ ms ρ d L, a = act n ρ (marksOf ms) ∧ Ok (d :: (L ++ (markH ms ++ F))) w ∧ Le d0 d ∧ Keep W0 w ∧ I m ρ d L) m0 ⟨ms, ρ, d, L, rfl, hOk, hle, hk, hI⟩ ?_
    rintro m a w ⟨ms', ρ', d', L', rfl, h1, h2, h3, h4⟩
    refine wpIn_mono (iha _ ρ' d' L' w ms' (round m ρ' d' L' h4) h1 h2 h3) ?_
    intro e a w hq
    cases e with
    | normal =>
      obtain ⟨ms'', ρ'', d'', L'', rfl, k1, k2, k3, m', k4, k5⟩ := hq
      exact ⟨m', k4, ms'', ρ'', d'', L'', rfl, k1, k2, k3, k5⟩
    | _ => exact hq
  | exit id =>
    intro Q ρ d L W ms h hOk hle hk
    exact wpIn_exit ⟨ms, ρ, d, L, rfl, hOk, hle, hk, h⟩
  | ret =>
    intro Q ρ d L W ms h hOk hle hk
    exact wpIn_ret ⟨ms, ρ, d, L, rfl, hOk, hle, hk, h⟩
  | rangeFunc f ps as bd _ _ =>
    intro Q ρ d L W ms h hOk hle hk
    simp only [decX] at h
    split at h
    rotate_left
    · exact h.elim
    rename_i hc
    simp only [Bool.and_eq_true] at hc
    obtain ⟨⟨⟨hf, hps⟩, hna⟩, hnb⟩ := hc
    obtain ⟨g, first, cap, hfv, hit⟩ := h
    refine wpIn_rangeFunc fun fn _ => ?_
    have hev : (act n ρ (marksOf ms)).eval f = .func (.func g) first cap := (act_eval hf).trans hfv
    let rc : Loop := { state := .ready, pending := none, fn := fn, tmps := (act n ρ (marksOf ms)).tmps, params := ps, assign := as, body := bd, defers := W.heap.size }
    have hrec : IsRec P ρ ps.toList (decC pr P n as) (decC pr P n bd) rc := ⟨pr, n, hm, rfl, rfl, fun t ht => by
      have := Array.all_eq_true.1 hps
      obtain ⟨i, hi, rfl⟩ := Array.mem_iff_getElem.1 (Array.mem_toList_iff.1 ht)
      simpa using this i hi, rfl, rfl, hna, hnb⟩
    obtain ⟨R, hcall, hR⟩ := hit (W.heap.size + 1) rc hrec rfl rfl
    have hen := run_enterLoop_outer (P := P) (w := W) fn (act n ρ (marksOf ms)).tmps ps as bd
    have hOk1 : Ok (d :: (L ++ (markH (W.heap.size :: ms) ++ F))) (W.alloc (.deferred (some []))) := Ok.toFrame.1 (hOk.push (.deferred (some [])))
    have hOk2 : Ok (d :: ((sg (W.heap.size + 1) (.loop rc) :: L) ++ (markH (W.heap.size :: ms) ++ F))) ((W.alloc (.deferred (some []))).alloc (.loop rc)) := by
      have := hOk1.push (.loop rc)
      rwa [World.size_alloc] at this
    have hk2 : Keep W0 ((W.alloc (.deferred (some []))).alloc (.loop rc)) := (hk.trans (keep_alloc _ _)).trans (keep_alloc _ _)
    refine ⟨W.heap.size + 1, _, (W.alloc (.deferred (some []))).alloc (.loop rc), { target := .fn (.func g) cap, args := first ++ #[.func (.yield (W.heap.size + 1)) #[] #[]] }, (W.alloc (.deferred (some []))).alloc (.loop rc), g, first ++ #[.func (.yield (W.heap.size + 1)) #[] #[]] ++ cap, (W.alloc (.deferred (some []))).alloc (.loop rc), hen, ?_, fun _ _ => trivial, ?_, fun h => by simp [Fence.wide] at h, ?_⟩
    · simp only [resolve, Sem.run_bind, hev, Deferred.ofValue, Sem.run_pure, Result.andThen, Array.map_singleton]
      simp [Act.eval]
    · simp only [invoke]; exact callFunc_run hcall.1 _ _
    refine callsIn_wide.2 ?_
    have hc := hcall.2 (markH (W.heap.size :: ms) ++ F) _ hOk2
    have ha : (first.toList ++ [Value.func (.yield (W.heap.size + 1)) #[] #[]] ++ cap.toList).toArray = first ++ #[.func (.yield (W.heap.size + 1)) #[] #[]] ++ cap := by apply Array.ext'; simp
    rw [ha] at hc
    refine hc.mono ?_
    rintro e w2 ⟨d2, L2, q1, q2, q3, q4⟩
    obtain ⟨v, rc', L3, rfl, rfl, hst, hpend⟩ := hR e d2 L2 q2 q4
    have q1' := Ok.toFrame.1 q1
    have hl := q1'.loopAt
    refine ⟨_, _, run_endLoop hl hst, ?_⟩
    have q5 : Ok (d2 :: (L3 ++ (markH (W.heap.size :: ms) ++ F))) (w2.putObj (W.heap.size + 1) (.loop { rc' with state := .exhausted })) :=
      (q1'.putLoop (o' := .loop { rc' with state := .exhausted })).sub (List.Sublist.cons_cons _ (List.Sublist.append_left (List.sublist_cons_self _ _) _))
    have q6 := hk2.trans (q3.trans (keep_putObj w2 (W.heap.size + 1) (.loop { rc' with state := .exhausted })))
    obtain ⟨w4, hw4⟩ : ∃ w4, w2.putObj (W.heap.size + 1) (.loop { rc' with state := .exhausted }) = w4 := ⟨_, rfl⟩
    rw [hw4] at q5 q6 ⊢
    clear hw4
    cases hp : rc'.pending with
    | none =>
      rw [hp] at hpend
      exact ⟨W.heap.size :: ms, ρ, d2, L3, rfl, q5, hle.trans q2, q6, hpend⟩
    | some j =>
      rw [hp] at hpend
      cases j with
      | exit id => exact wpIn_exit ⟨W.heap.size :: ms, ρ, d2, L3, rfl, q5, hle.trans q2, q6, hpend⟩
      | ret => exact wpIn_ret ⟨W.heap.size :: ms, ρ, d2, L3, rfl, q5, hle.trans q2, q6, hpend⟩
      | _ => exact hpend.elim
  | _ => intro Q ρ d L W ms h; exact h.elim

theorem takes {P : Program} {fn : Func} {tmps : Array Value} {R : Ending → World → Prop} {d : PHeap} {L F : List PHeap} {W0 : World} {u : FrameMode} (hu : u ≠ .run)
    (fin : ∀ w, Ok (d :: (L ++ F)) w → Keep W0 w → LeavesIn Fence.wide 0 P fn tmps R [] u w) : ∀ (ms : List Nat) (w : World), Ok (d :: (L ++ (markH ms ++ F))) w → Keep W0 w → LeavesInM Fence.wide 0 P fn tmps R (marksOf ms) u w
  | [], w, h, hk => fin w h hk
  | r :: ms, w, h, hk => by
    refine ⟨hu, .inl ⟨r, _, rfl, run_takeDeferred h.loopAt, ?_⟩⟩
    refine takes hu fin ms _ ?_ (hk.trans (keep_putObj _ _ _))
    exact (h.putLoop (o' := .deferred none)).sub (List.Sublist.cons_cons _ (List.Sublist.append_left (List.sublist_cons_self _ _) _))
theorem GCallX_of {yl pr : Bool} {P : Program} {f : FuncId} {g : GFunX} (hd : decx yl pr P f = some g) {args : List Value} (ha : args.length ≤ g.n) {d : PHeap} {L : List PHeap} {R : Ending → PHeap → List PHeap → Prop}
    (h : xwp P g.code (mkPost g.res R) (env0 args) d L) : GCall P f args d L R := by
  simp only [decx] at hd
  split at hd <;> try cases hd
  rename_i fn hf
  split at hd <;> try cases hd
  rename_i hn
  split at hd <;> try cases hd
  rename_i c hb
  rw [Option.map_eq_some_iff] at hd
  obtain ⟨rs, hr, rfl⟩ := hd
  simp only [Bool.or_eq_true, not_or, Bool.not_eq_true, Bool.not_eq_false'] at hn
  refine ⟨⟨fn, hf, by rw [hb]; rfl, hn.1⟩, fun F W hOk => ?_⟩
  refine (callsIn_wide (n := 0)).1 (callsIn_of_wp_marks hf hb trivial ?_)
  have hinit : ({ tmps := args.toArray ++ Array.replicate (fn.ntmps - args.toArray.size) undef, defers := [] } : Act) = act fn.ntmps (env0 args) (marksOf []) := by
    simp only [act, Act.mk.injEq, marksOf, List.map_nil, and_true]
    apply Array.ext
    · simp at ha ⊢; omega
    · intro i h1 h2
      simp only [Array.getElem_ofFn, env0]
      by_cases hi : i < args.length
      · rw [Array.getElem_append_left (by simpa using hi)]; simp [hi]
      · rw [Array.getElem_append_right (by simpa using hi)]; simp [List.getD, List.getElem?_eq_none (Nat.le_of_not_lt hi)]
  rw [hinit]
  have hs := xwp_sound (F := F) (W0 := W) (d0 := d) (m := 0) (by simpa using hn.2) c _ _ d L W [] h hOk (Le.refl d) (Keep.refl W)
  refine wpIn_mono hs ?_
  have fin : ∀ ms ρ d' L' w, Ok (d' :: (L' ++ (markH ms ++ F))) w → Le d d' → Keep W w → retPost rs R ρ d' L' → LeavesInM Fence.wide 0 P fn (act fn.ntmps ρ []).tmps (fun e w' => ∃ d' L', Ok (d' :: (L' ++ F)) w' ∧ Le d d' ∧ Keep W w' ∧ R e d' L') (marksOf ms) .returning w := by
    rintro ms ρ d' L' w h1 h2 h3 ⟨vs, h4, d'', L'', h5, h6⟩
    refine takes (W0 := W) (by simp) ?_ ms w h1 h3
    intro w' k1 k2
    refine ⟨resV vs, ?_, d'', L'', h5.2 F w' k1, h2.trans h5.1, k2, h6⟩
    have hl : ∀ a v, HC d' L' a v → w'.cell? a = some v := fun a v hc => hc.cell k1.head (fun q hq => k1.2 q (by simp [hq]))
    have := results_run (P := P) (n := fn.ntmps) (ρ := ρ) (ds := []) hl fn.results.toList rs vs hr h4
    rw [results_eq, Array.mapM_eq_mapM_toList]
    simp only [Sem.run_bind, Sem.run_map, this, Result.andThen, Sem.run_pure]
    cases vs with
    | nil => rfl
    | cons v vs => cases vs with
      | nil => rfl
      | cons v' vs => rfl
  intro e a w hq
  cases e with
  | normal =>
    obtain ⟨ms, ρ, d', L', rfl, k1, k2, k3, k4⟩ := hq
    exact fin ms ρ d' L' w k1 k2 k3 k4
  | ret =>
    obtain ⟨ms, ρ, d', L', rfl, k1, k2, k3, k4⟩ := hq
    exact fin ms ρ d' L' w k1 k2 k3 k4
  | panic c =>
    obtain ⟨ms, h1, d', L', h2, h3, h4, d'', L'', h5, h6⟩ := hq
    show LeavesInM Fence.wide 0 P fn a.tmps _ a.defers (.panicking c) w
    rw [h1]
    refine takes (W0 := W) (by simp) ?_ ms w h2 h4
    intro w' k1 k2
    exact ⟨d'', L'', h5.2 F w' k1, h3.trans h5.1, k2, h6⟩
  | exit i => obtain ⟨_, _, _, _, _, _, _, _, hh⟩ := hq; exact hh.elim
  | goto l => obtain ⟨_, h⟩ := hq; exact h.elim
  | outgrown => obtain ⟨_, h⟩ := hq; exact h.elim
end Go.Gk
end

section
namespace Go.Gk
open Go

def FRow (N : Nat) (v : Value) (c : List UInt8) (h : PHeap) : Prop :=
  c.length ≤ N ∧ ∃ b T, v = .slice (some ⟨b, 0, none⟩) c.length N ∧ h = bx b T (c.map byteV ++ List.replicate (N - c.length) (byteV 0))

theorem FRow.full {N : Nat} {v : Value} {c : List UInt8} {h : PHeap} (r : FRow N v c h) : ∃ b, v = .slice (some ⟨b, 0, none⟩) c.length N ∧ FRow N (.slice (some ⟨b, 0, none⟩) N N) (c ++ List.replicate (N - c.length) 0) h := by
  obtain ⟨hc, b, T, rfl, rfl⟩ := r
  have hl : (c ++ List.replicate (N - c.length) (0 : UInt8)).length = N := by simp; omega
  refine ⟨b, rfl, by omega, b, T, by rw [hl], ?_⟩
  rw [hl]
  simp
theorem lit_bytes {d : PHeap} {b : Nat} {T : TypeId} {l : List UInt8} {vs : List Value} {n : Nat} (h : Le (bx b T vs) d) (e : vs = l.map byteV) (hn : n = l.length) (hl : l.length ≤ 140737488355328) : RBytes d (.slice (some ⟨b, 0, none⟩) n n) l := by
  subst e; subst hn
  exact (ORow.lit (sz := 1) (by simp) hl).bytes h
theorem lit_one {d : PHeap} {b : Nat} {T : TypeId} {u : Value} {l : List UInt8} (h : Le (bx b T [u]) d) (hu : RBytes d u l) : RBss d (.slice (some ⟨b, 0, none⟩) 1 1) [l] :=
  (ORow.lit (sz := 1) (l := [u]) (T := T) (b := b) rfl (by omega)).rsl1 h rfl (fun i hi => by
    obtain rfl : i = 0 := by simpa using hi
    exact ⟨u, rfl, u, rfl, hu⟩)
theorem FRow.bytes {N : Nat} {v : Value} {c : List UInt8} {h d : PHeap} (r : FRow N v c h) (hl : Le h d) (hN : N ≤ 140737488355328) : RBytes d v c := by
  obtain ⟨hc, b, T, rfl, rfl⟩ := r
  exact (ORow.mk (sz := 1) (xs := c.map byteV) (n := c.length) (c := N) (by simp) (by omega) hc (by omega) (by simp; omega) (by simp)).bytes hl
theorem RBytes.pre {d : PHeap} {a : Option Addr} {n c : Nat} {l : List UInt8} (h : RBytes d (.slice a n c) l) {k : Nat} (hk : k ≤ l.length) : RBytes d (.slice a k c) (l.take k) := by
  obtain ⟨a', c', b, o, e, h2, h3, h4, h5, h6, h7, h8⟩ := h
  cases e
  have hl : (l.take k).length = k := by simp; omega
  refine ⟨a, c, b, o, by rw [hl], fun h0 => ?_, h3, h4, by omega, h6, by omega, fun i hi => ?_⟩
  · rw [hl] at h0
    exact h2 (by omega)
  · obtain ⟨cs, k1, k2, k3⟩ := h8 i (by omega)
    exact ⟨cs, k1, k2, by simpa using k3⟩
theorem oneCell_bytes (c : List UInt8) : ((c.map byteV).all (·.oneCell')) = true := by
  rw [List.all_eq_true]
  intro x hx
  obtain ⟨u, _, rfl⟩ := List.mem_map.1 hx
  rfl

section
variable {P : Program} {pan : List PanicEntry → Post} {Qn : Env → Post} {Ls L : List PHeap} {ρ : Env} {d : PHeap} {s : GS} {t : Nat} {tk : Bool}
theorem w_appF {by_ : Nat} {z : List Value} {x y : Operand} (i : Nat) {N : Nat} {v : Value} {c news : List UInt8} {h : PHeap} (ex : ev ρ x = v) (hi : L[i]? = some h) (ho : FRow N v c h)
    {w : Value} (ey : ev ρ y = w) (hx : RdX d (Ls ++ L ++ L) w news.length 1 (news.map byteV)) (hfit : c.length + news.length ≤ N) (hN : N ≤ 140737488355328)
    (k : ∀ v' h', FRow N v' (c ++ news) h' → gws P pan Qn s Ls (upd ρ t v') d (L.set i h')) : gws P pan Qn (.op false ⟨some t, none, .app 1 by_ z x y⟩ s) Ls ρ d L := by
  obtain ⟨xa, xc, rfl, hl, hx0, hxc⟩ := hx
  obtain ⟨hc, b, T, rfl, rfl⟩ := ho
  refine ⟨d, L, Vs.refl d L, ?_⟩
  simp only [gop, gi, maxLen]
  refine ⟨_, c.length, N, xa, news.length, xc, news.map byteV, ex, ey, hl, oneCell_bytes news, hx0, hxc, by omega, by omega, fun hle => .inr ⟨i, b, 0, T, _, rfl, hi, ?_, d, _, Vs.refl _ _, ?_⟩, fun hlt => by omega⟩
  · simp; omega
  · have e : patch (c.map byteV ++ List.replicate (N - c.length) (byteV 0)) (0 + c.length * 1) (news.map byteV) = (c ++ news).map byteV ++ List.replicate (N - (c ++ news).length) (byteV 0) := by
      simp only [patch, Nat.zero_add, Nat.mul_one, List.length_map, List.map_append, List.append_assoc, List.length_append]
      rw [List.take_append_of_le_length (by simp), List.take_of_length_le (by simp)]
      congr 2
      rw [List.drop_append, List.drop_of_length_le (by simp), List.nil_append, List.length_map, List.drop_replicate]
      congr 1; omega
    rw [e]
    refine k _ _ ⟨by simp; omega, b, T, ?_, rfl⟩
    simp
theorem w_appF0 {by_ : Nat} {z : List Value} {x y : Operand} (i : Nat) {N : Nat} {v : Value} {c news : List UInt8} {h : PHeap} {bt : Nat} {Tt : TypeId} {vs : List Value} (ex : ev ρ x = v) (hi : L[i]? = some h) (ho : FRow N v c h)
    {n' : Nat} (ey : ev ρ y = .slice (some ⟨bt, 0, none⟩) n' n') (hvs : vs = news.map byteV) (hn' : n' = news.length) (hfit : c.length + news.length ≤ N) (hN : N ≤ 140737488355328)
    (k : ∀ v' h', FRow N v' (c ++ news) h' → gws P pan Qn s Ls (upd ρ t v') d (L.set i h')) : gws P pan Qn (.op false ⟨some t, none, .app 1 by_ z x y⟩ s) Ls ρ d (bx bt Tt vs :: L) := by
  subst hvs; subst hn'
  obtain ⟨hc, b, T, rfl, rfl⟩ := ho
  refine ⟨d, _, Vs.refl d _, ?_⟩
  simp only [gop, gi, maxLen]
  have hrd : RdX d (Ls ++ (bx bt Tt (news.map byteV) :: L) ++ (bx bt Tt (news.map byteV) :: L)) (.slice (some ⟨bt, 0, none⟩) news.length news.length) news.length 1 (news.map byteV) :=
    RdX.lit (T := Tt) (Ls.length) (by rw [List.append_assoc, List.getElem?_append_right (Nat.le_refl _)]; simp) (by simp)
  obtain ⟨xa, xc, e, hl, hx0, hxc⟩ := hrd
  cases e
  refine ⟨_, c.length, N, _, news.length, _, news.map byteV, ex, ey, hl, oneCell_bytes news, hx0, hxc, by omega, by omega, fun hle => .inr ⟨i + 1, b, 0, T, _, rfl, by simpa using hi, ?_, d, L.set i (bx b T ((c ++ news).map byteV ++ List.replicate (N - (c ++ news).length) (byteV 0))), ?_, ?_⟩, fun hlt => by omega⟩
  · simp; omega
  · have e : patch (c.map byteV ++ List.replicate (N - c.length) (byteV 0)) (0 + c.length * 1) (news.map byteV) = (c ++ news).map byteV ++ List.replicate (N - (c ++ news).length) (byteV 0) := by
      simp only [patch, Nat.zero_add, Nat.mul_one, List.length_map, List.map_append, List.append_assoc, List.length_append]
      rw [List.take_append_of_le_length (by simp), List.take_of_length_le (by simp)]
      congr 2
      rw [List.drop_append, List.drop_of_length_le (by simp), List.nil_append, List.length_map, List.drop_replicate]
      congr 1; omega
    rw [e, List.set_cons_succ]
    exact Vs.drop (List.sublist_cons_self _ _)
  · refine k _ _ ⟨by simp; omega, b, T, ?_, rfl⟩
    simp
theorem w_slN {x : Operand} {sz b o n c l h m : Nat} {lo hi mx : Option Operand} (ex : ev ρ x = .slice (some ⟨b, o, none⟩) n c) (hc : cutV n c (lo.map (ev ρ)) (hi.map (ev ρ)) (mx.map (ev ρ)) = some (l, h, m)) (hml : m ≠ l)
    (k : gws P pan Qn s Ls (upd ρ t (.slice (some ⟨b, o + l * sz, none⟩) (h - l) (m - l))) d L) : gws P pan Qn (.op tk ⟨some t, none, .sl sz x lo hi mx⟩ s) Ls ρ d L :=
  w_q rfl ⟨_, n, c, l, h, m, ex, fun _ a' ha => by cases ha; rfl, hc, by rw [if_neg hml]; rfl⟩ k
theorem w_slR {x y : Operand} {v : Value} {l : List UInt8} {kk : IntKind} {n : Nat} (ex : ev ρ x = v) (hr : RBytes d v l) (ey : ev ρ y = .int kk n) (hn : n ≤ l.length)
    (k : ∀ v', RBytes d v' (l.take n) → gws P pan Qn s Ls (upd ρ t v') d L) : gws P pan Qn (.op tk ⟨some t, none, .sl 1 x none (some y) none⟩ s) Ls ρ d L := by
  have hr' := hr
  obtain ⟨a, c, b, o, rfl, h2, h3, h4, h5, h6, h7, h8⟩ := hr
  have hc : cutV l.length c none (some (ev ρ y)) none = some (0, n, c) := by
    simp only [cutV, cutM, cutH, cutL, Option.bind_some, Option.map_some, ey, bnd]
    rw [if_pos (by omega)]; simp
  refine w_q rfl ⟨a, l.length, c, 0, n, c, ex, fun h0 => h3 h0, hc, rfl⟩ (k _ ?_)
  simp only [Nat.sub_zero]
  have e : (if c = 0 then a else a.map fun a => ⟨a.block, a.off + 0 * 1, none⟩) = a := by
    split
    · rfl
    · rename_i h0
      cases a with
      | none => rfl
      | some a => obtain ⟨b', o', s'⟩ := a; have := h3 h0 _ rfl; simp only at this; subst this; simp
  rw [e]
  exact hr'.pre hn
theorem w_frzAll {g : GOp} (k : ∀ d', Le d d' → (∀ h ∈ L, Le h d') → gws P pan Qn (.op false g s) Ls ρ d' []) : gws P pan Qn (.op false g s) Ls ρ d L :=
  let ⟨d', h1, h2, h3⟩ := Vs.frzAll d L
  w_vs d' [] h1 (k d' h2 h3)
theorem byteV_wrap (a : Int) : Value.int .u8 (IntKind.u8.wrap a) = byteV (UInt8.ofNat (a % 256).toNat) := by
  have h0 : 0 ≤ a % 256 := Int.emod_nonneg a (by omega)
  have h1 : a % 256 < 256 := Int.emod_lt_of_pos a (by omega)
  have h2 : (a % 256).toNat < 256 := by omega
  simp only [byteV, IntKind.wrap, IntKind.signed, IntKind.bits, Value.int.injEq, true_and]
  simp [Nat.mod_eq_of_lt h2]
  omega
theorem w_cvb {x : Operand} {j : IntKind} {a : Int} (ex : ev ρ x = .int j a) (h : gws P pan Qn s Ls (upd ρ t (byteV (UInt8.ofNat (a % 256).toNat))) d L) : gws P pan Qn (.op tk ⟨some t, none, .cvi .u8 x⟩ s) Ls ρ d L :=
  w_cvi ex (by rw [byteV_wrap]; exact h)
theorem w_shr8 {x : Operand} {k k' : IntKind} {a : Int} {y : Operand} (ex : ev ρ x = .int k a) (ey : ev ρ y = .int k' 8) (hk : 8 ≤ k.bits) (h : gws P pan Qn s Ls (upd ρ t (.int k (a / 256))) d L) :
    gws P pan Qn (.op tk ⟨some t, none, .bin .shr x y⟩ s) Ls ρ d L := by
  refine w_bin ?_ h
  rw [ex, ey]
  have : min (Int.toNat 8) k.bits = 8 := by simp; omega
  simp only [binV, this]
  rw [if_neg (by omega)]
  simp [Int.fdiv_eq_ediv_of_nonneg]
end
end Go.Gk
end

section
namespace Go.Gk
open Go

def chunk (cs : List Value) (i sz : Nat) : List Value := (cs.drop (i * sz)).take sz
def GRow {α : Type} (sz : Nat) (R : PHeap → List Value → α → Prop) (d : PHeap) (v : Value) (xs : List α) (h : PHeap) : Prop :=
  ∃ cs, ORow sz v xs.length cs h ∧ ∀ i (hi : i < xs.length), R d (chunk cs i sz) xs[i]
def Src {α : Type} (sz : Nat) (R : PHeap → List Value → α → Prop) (d : PHeap) (Lk : List PHeap) (w : Value) (ys : List α) : Prop :=
  ∃ news, RdX d Lk w ys.length sz news ∧ (news.all (·.oneCell')) = true ∧ ∀ i (hi : i < ys.length), R d (chunk news i sz) ys[i]
def Cell1 {α : Type} (R : PHeap → List Value → α → Prop) : Prop := ∀ d cs x, R d cs x → (cs.all (·.oneCell')) = true
def Mono {α : Type} (R : PHeap → List Value → α → Prop) : Prop := ∀ {d d' cs x}, Le d d' → R d cs x → R d' cs x

theorem cell1_byte : Cell1 RByte := fun _ _ _ h => by cases h; rfl
theorem cell1_int : Cell1 RInt := fun _ _ _ h => by obtain ⟨rfl, _⟩ := h; rfl
theorem cell1_str : Cell1 RStr := fun _ _ _ h => by obtain ⟨rfl, _⟩ := h; rfl
theorem cell1_bs : Cell1 RBs := fun _ _ _ h => by obtain ⟨_, rfl, _, _, _, _, rfl, _⟩ := h; rfl
theorem mono_byte : Mono RByte := fun _ h => h
theorem mono_int : Mono RInt := fun _ h => h
theorem mono_str : Mono RStr := fun _ h => h
theorem mono_bs : Mono RBs := fun hl ⟨u, h1, h2⟩ => ⟨u, h1, h2.mono hl⟩

section
variable {α : Type} {sz : Nat} {R : PHeap → List Value → α → Prop} {d : PHeap} {v : Value} {xs : List α} {h : PHeap}
theorem chunk_len {cs : List Value} {n i : Nat} (hl : cs.length = n * sz) (hi : i < n) : (chunk cs i sz).length = sz := by
  have : (i + 1) * sz ≤ n * sz := Nat.mul_le_mul_right sz hi
  rw [Nat.add_mul, Nat.one_mul] at this
  simp only [chunk, List.length_take, List.length_drop, hl]
  omega
theorem chunk_app_left {cs ds : List Value} {n i : Nat} (hl : cs.length = n * sz) (hi : i < n) : chunk (cs ++ ds) i sz = chunk cs i sz := by
  have : (i + 1) * sz ≤ n * sz := Nat.mul_le_mul_right sz hi
  rw [Nat.add_mul, Nat.one_mul] at this
  simp only [chunk]
  rw [List.drop_append_of_le_length (by omega), List.take_append_of_le_length (by simp only [List.length_drop]; omega)]
theorem chunk_app_right {cs ds : List Value} {n i : Nat} (hl : cs.length = n * sz) (hi : n ≤ i) : chunk (cs ++ ds) i sz = chunk ds (i - n) sz := by
  have h1 : n * sz ≤ i * sz := Nat.mul_le_mul_right sz hi
  simp only [chunk]
  rw [List.drop_append, List.drop_of_length_le (by omega), List.nil_append, hl, Nat.sub_mul]
theorem GRow.nil : GRow sz R d (.slice none 0 0) [] emp := ⟨[], ORow.nil sz, fun i hi => absurd hi (Nat.not_lt_zero i)⟩
theorem GRow.lit0 {b : Nat} {T : TypeId} : GRow sz R d (.slice (some ⟨b, 0, none⟩) 0 0) [] (bx b T []) := ⟨[], ORow.lit (by simp) (by simp), fun i hi => absurd hi (Nat.not_lt_zero i)⟩
theorem GRow.mono (hR : Mono R) (o : GRow sz R d v xs h) {d' : PHeap} (hl : Le d d') : GRow sz R d' v xs h :=
  let ⟨cs, h1, h2⟩ := o
  ⟨cs, h1, fun i hi => hR hl (h2 i hi)⟩
theorem GRow.len_le (o : GRow sz R d v xs h) : xs.length ≤ 140737488355328 := let ⟨_, h1, _⟩ := o; h1.2.1
theorem GRow.val (o : GRow sz R d v xs h) : ∃ a c, v = .slice a xs.length c := by
  obtain ⟨cs, h1, _⟩ := o
  obtain ⟨a, b, c, e, _⟩ := h1.slice
  exact ⟨a, c, e⟩
theorem RSl.val (o : RSl sz R d v xs) : ∃ a c, v = .slice a xs.length c := let ⟨a, c, _, _, e, _⟩ := o; ⟨a, c, e⟩
theorem GRow.rsl (o : GRow sz R d v xs h) (hR : Mono R) (hsz : 0 < sz) {d' : PHeap} (hl : Le d d') (hh : Le h d') : RSl sz R d' v xs := by
  obtain ⟨cs, h1, h2⟩ := o
  exact h1.rsl hh rfl hsz (fun i hi => hR hl (h2 i hi))
theorem GRow.src (o : GRow sz R d v xs h) (hc : Cell1 R) {Lk : List PHeap} (hk : h ∈ Lk) : Src sz R d Lk v xs := by
  obtain ⟨cs, h1, h2⟩ := o
  refine ⟨cs, h1.rdx hk, ?_, h2⟩
  have hl := h1.1
  rw [List.all_eq_true]
  intro u hu
  obtain ⟨j, hj, rfl⟩ := List.getElem_of_mem hu
  by_cases h0 : sz = 0
  · subst h0; simp at hl; subst hl; simp at hj
  · have hq : j / sz < xs.length := by rw [Nat.div_lt_iff_lt_mul (by omega)]; omega
    have := List.all_eq_true.1 (hc _ _ _ (h2 _ hq)) cs[j] (by
      have hdm := Nat.div_add_mod' j sz
      have hm := Nat.mod_lt j (show 0 < sz by omega)
      rw [List.mem_iff_getElem?]
      refine ⟨j % sz, ?_⟩
      rw [chunk, List.getElem?_take_of_lt hm, List.getElem?_drop, hdm, List.getElem?_eq_getElem hj])
    exact this
theorem RSl.src (o : RSl sz R d v xs) (hc : Cell1 R) (_ : 0 < sz) (Lk : List PHeap) : Src sz R d Lk v xs := by
  obtain ⟨a, c, b, o, rfl, h2, h3, h4, h5, h6, h7, h8⟩ := o
  -- the elements' cells, one behind the other
  have key : ∀ n, n ≤ xs.length → ∃ news : List Value, news.length = n * sz ∧ (∀ j u, news[j]? = some u → DC d b (o + j) u) ∧ (news.all (·.oneCell')) = true ∧ ∀ i (hi : i < n) (hi' : i < xs.length), R d (chunk news i sz) xs[i] := by
    intro n
    induction n with
    | zero => exact fun _ => ⟨[], by simp, fun j u hu => by simp at hu, rfl, fun i hi => absurd hi (Nat.not_lt_zero i)⟩
    | succ n ih =>
      intro hn
      obtain ⟨news, k1, k2, k3, k4⟩ := ih (by omega)
      obtain ⟨cs, m1, m2, m3⟩ := h8 n (by omega)
      refine ⟨news ++ cs, by simp [k1, m1, Nat.add_mul], fun j u hu => ?_, ?_, fun i hi hi' => ?_⟩
      · rw [List.getElem?_append] at hu
        split at hu
        · exact k2 j u hu
        · rename_i hj
          have := m2.at hu
          rw [k1] at this
          rw [show o + j = o + n * sz + (j - n * sz) by omega]
          exact this
      · rw [List.all_append, k3, hc _ _ _ m3]; rfl
      · by_cases e : i < n
        · rw [chunk_app_left k1 e]; exact k4 i e hi'
        · obtain rfl : i = n := by omega
          rw [chunk_app_right k1 (Nat.le_refl _), Nat.sub_self]
          have : chunk cs 0 sz = cs := by simp [chunk, ← m1]
          rw [this]; exact m3
  obtain ⟨news, k1, k2, k3, k4⟩ := key xs.length (Nat.le_refl _)
  refine ⟨news, ⟨a, c, rfl, k1, fun e => ?_, fun a' ha i u hu => ?_⟩, k3, fun i hi => k4 i hi hi⟩
  · cases xs with
    | nil => exact List.eq_nil_of_length_eq_zero (by simpa using k1)
    | cons x xs => have := h2 (by simp); rw [e] at this; cases this
  · have h0 : xs.length ≠ 0 := by
      intro h0
      rw [h0, Nat.zero_mul] at k1
      rw [List.eq_nil_of_length_eq_zero k1] at hu; simp at hu
    have e := h2 h0
    rw [ha] at e; cases e
    rw [Addr.add_lit]
    exact hc_d (k2 i u hu)
theorem Src.lit {Lk : List PHeap} {b c n : Nat} {T : TypeId} {cs : List Value} {ys : List α} (i : Nat) (hi : Lk[i]? = some (bx b T cs)) (hn : n = ys.length) (hl : cs.length = ys.length * sz) (h1 : (cs.all (·.oneCell')) = true)
    (h2 : ∀ i (hi : i < ys.length), R d (chunk cs i sz) ys[i]) : Src sz R d Lk (.slice (some ⟨b, 0, none⟩) n c) ys := by
  subst hn
  exact ⟨cs, RdX.lit i hi hl, h1, h2⟩
theorem GRow.lit {b n : Nat} {T : TypeId} {cs : List Value} (hn : n = xs.length) (hl : cs.length = xs.length * sz) (hx : xs.length ≤ 140737488355328) (h2 : ∀ i (hi : i < xs.length), R d (chunk cs i sz) xs[i]) :
    GRow sz R d (.slice (some ⟨b, 0, none⟩) n n) xs (bx b T cs) := by
  subst hn
  exact ⟨cs, ORow.lit hl hx, h2⟩
theorem GRow.lit1 {b : Nat} {T : TypeId} {cs : List Value} {x : α} (hl : cs.length = sz) (h2 : R d cs x) : GRow sz R d (.slice (some ⟨b, 0, none⟩) 1 1) [x] (bx b T cs) :=
  GRow.lit rfl (by simp [hl]) (by simp) (fun i hi => by
    obtain rfl : i = 0 := by simpa using hi
    have : chunk cs 0 sz = cs := by simp [chunk, ← hl]
    rw [this]; exact h2)
end
theorem GRow.litB {d : PHeap} {b n : Nat} {T : TypeId} {cs : List Value} {l : List UInt8} (e : cs = l.map byteV) (hn : n = l.length) (hx : l.length ≤ 140737488355328) : GRow 1 RByte d (.slice (some ⟨b, 0, none⟩) n n) l (bx b T cs) := by
  subst e
  refine GRow.lit hn (by simp) hx (fun i hi => ?_)
  simp only [RByte, chunk, Nat.mul_one, ← List.map_drop, ← List.map_take]
  rw [List.drop_eq_getElem_cons hi]; rfl
theorem GRow.litI {d : PHeap} {b n : Nat} {T : TypeId} {cs : List Value} {l : List Int} (e : cs = l.map (Value.int .i64)) (hb : ∀ x ∈ l, -9223372036854775808 ≤ x ∧ x ≤ 9223372036854775807) (hn : n = l.length) (hx : l.length ≤ 140737488355328) : GRow 1 RInt d (.slice (some ⟨b, 0, none⟩) n n) l (bx b T cs) := by
  subst e
  refine GRow.lit hn (by simp) hx (fun i hi => ?_)
  simp only [RInt, chunk, Nat.mul_one, ← List.map_drop, ← List.map_take]
  rw [List.drop_eq_getElem_cons hi]; exact ⟨rfl, hb _ (List.getElem_mem hi)⟩
theorem GRow.bytes {d : PHeap} {v : Value} {xs : List UInt8} {h : PHeap} (o : GRow 1 RByte d v xs h) : ORow 1 v xs.length (xs.map byteV) h := by
  obtain ⟨cs, h1, h2⟩ := o
  have hl := h1.1
  have : cs = xs.map byteV := by
    apply List.ext_getElem
    · simp at hl ⊢; exact hl
    · intro i h3 h4
      have h5 : i < xs.length := by simpa using h4
      have h6 : chunk cs i 1 = [byteV xs[i]] := h2 i h5
      simp only [chunk, Nat.mul_one] at h6
      have h7 := congrArg (·[0]?) h6
      simp only [List.getElem?_take_of_lt (show 0 < 1 by omega), List.getElem?_drop, Nat.add_zero, List.getElem?_eq_getElem h3, List.getElem?_cons_zero, Option.some.injEq] at h7
      simp [h7]
  rw [← this]; exact h1

section
variable {P : Program} {pan : List PanicEntry → Post} {Qn : Env → Post} {Ls L : List PHeap} {ρ : Env} {d : PHeap} {s : GS} {t : Nat} {tk : Bool}
theorem w_appG {α : Type} {sz by_ : Nat} {R : PHeap → List Value → α → Prop} {z : List Value} {x y : Operand} (i : Nat) {v w : Value} {xs ys : List α} {h : PHeap} (ex : ev ρ x = v) (hi : L[i]? = some h) (ho : GRow sz R d v xs h)
    (ey : ev ρ y = w) (hs : Src sz R d (Ls ++ L ++ L) w ys) (hsz : 0 < sz) (hm : xs.length + ys.length ≤ 140737488355328) (hb : (xs.length + ys.length) * by_ ≤ 140737488355328)
    (k : ∀ v' h', GRow sz R d v' (xs ++ ys) h' → gws P pan Qn s Ls (upd ρ t v') d (L.set i h')) : gws P pan Qn (.op false ⟨some t, none, .app sz by_ z x y⟩ s) Ls ρ d L := by
  obtain ⟨cs, h1, h2⟩ := ho
  obtain ⟨news, k1, k2, k3⟩ := hs
  have hl := h1.1
  refine w_app i ex hi h1 ey k1 k2 hsz hm hb (fun v' h' o => k v' h' ⟨cs ++ news, by rw [List.length_append]; exact o, fun j hj => ?_⟩)
  by_cases e : j < xs.length
  · rw [chunk_app_left hl e, List.getElem_append_left e]; exact h2 j e
  · rw [chunk_app_right hl (by omega), List.getElem_append_right (by omega)]
    exact k3 _ (by simp at hj; omega)
theorem w_appN {α : Type} {sz by_ : Nat} {R : PHeap → List Value → α → Prop} {z : List Value} {x y : Operand} {w : Value} {ys : List α} (ex : ev ρ x = .slice none 0 0)
    (ey : ev ρ y = w) (hs : Src sz R d (Ls ++ L ++ L) w ys) (hsz : 0 < sz) (hm : ys.length ≤ 140737488355328) (hb : ys.length * by_ ≤ 140737488355328)
    (k : ∀ v' h', GRow sz R d v' ys h' → gws P pan Qn s Ls (upd ρ t v') d (h' :: L)) : gws P pan Qn (.op false ⟨some t, none, .app sz by_ z x y⟩ s) Ls ρ d L := by
  refine w_vs d (emp :: L) Vs.emp ?_
  refine w_appG (R := R) 0 ex rfl GRow.nil ey ?_ hsz (by simpa using hm) (by simpa using hb) (fun v' h' o => k v' h' (by simpa using o))
  obtain ⟨news, ⟨a, c, e1, e2, e3, e4⟩, k2, k3⟩ := hs
  refine ⟨news, ⟨a, c, e1, e2, e3, fun a' ha i u hu => ?_⟩, k2, k3⟩
  obtain ⟨h1, h, h2, h3⟩ := e4 a' ha i u hu
  refine ⟨h1, h, ?_, h3⟩
  rcases h2 with h2 | h2
  · exact .inl h2
  · refine .inr ?_
    simp only [List.mem_append, List.mem_cons] at h2 ⊢
    rcases h2 with (h2 | h2) | h2 <;> simp [h2]
theorem w_appL {α : Type} {sz by_ : Nat} {R : PHeap → List Value → α → Prop} {z : List Value} {x y : Operand} (i : Nat) {v w : Value} {xs ys : List α} {h g : PHeap} (ex : ev ρ x = v) (hi : L[i]? = some h) (ho : GRow sz R d v xs h)
    (ey : ev ρ y = w) (hs : GRow sz R d w ys g) (hc : Cell1 R) (hsz : 0 < sz) (hm : xs.length + ys.length ≤ 140737488355328) (hb : (xs.length + ys.length) * by_ ≤ 140737488355328)
    (k : ∀ v' h', GRow sz R d v' (xs ++ ys) h' → gws P pan Qn s Ls (upd ρ t v') d (L.set i h')) : gws P pan Qn (.op false ⟨some t, none, .app sz by_ z x y⟩ s) Ls ρ d (g :: L) := by
  obtain ⟨cs, h1, h2⟩ := ho
  obtain ⟨news, k1, k2, k3⟩ := (hs.src hc (by simp) : Src sz R d (Ls ++ (g :: L) ++ (g :: L)) w ys)
  have hl := h1.1
  refine w_appV (i + 1) ex (by simpa using hi) h1 ey k1 k2 hsz hm hb (fun v' h' o => ⟨d, L.set i h', ?_, k v' h' ⟨cs ++ news, by rw [List.length_append]; exact o, fun j hj => ?_⟩⟩)
  · rw [List.set_cons_succ]
    exact Vs.drop (List.sublist_cons_self _ _)
  · by_cases e : j < xs.length
    · rw [chunk_app_left hl e, List.getElem_append_left e]; exact h2 j e
    · rw [chunk_app_right hl (by omega), List.getElem_append_right (by omega)]
      exact k3 _ (by simp at hj; omega)
theorem w_lenG {α : Type} {sz : Nat} {R : PHeap → List Value → α → Prop} {x : Operand} {v : Value} {xs : List α} {h : PHeap} (ex : ev ρ x = v) (hr : GRow sz R d v xs h) (k : gws P pan Qn s Ls (upd ρ t (.int .i64 xs.length)) d L) :
    gws P pan Qn (.op tk ⟨some t, none, .len x⟩ s) Ls ρ d L := by
  obtain ⟨a, c, rfl⟩ := hr.val
  exact w_len ex k
theorem w_b2sG {x : Operand} {v : Value} {l : List UInt8} {h : PHeap} (ex : ev ρ x = v) (hr : GRow 1 RByte d v l h) (hk : h ∈ lk tk Ls L) (k : gws P pan Qn s Ls (upd ρ t (strV l)) d L) : gws P pan Qn (.op tk ⟨some t, none, .b2s x⟩ s) Ls ρ d L := by
  have o := hr.bytes
  obtain ⟨a, b, c, rfl, h2, h3, h4, h5, h6, h7⟩ := o.slice
  refine w_b2s (b := b) (o := 0) ex rfl h2 (fun i u hu => ?_) k
  rw [Nat.zero_add]
  exact h7 i _ (by rw [List.getElem?_map, hu]; rfl) d _ hk
theorem w_idxR {α : Type} {sz : Nat} {R : PHeap → List Value → α → Prop} {x i : Operand} {v : Value} {xs : List α} {k : IntKind} {j : Int} {m : Nat} (ex : ev ρ x = v) (hr : RSl sz R d v xs) (ei : ev ρ i = .int k j) (hm : j = (m : Int)) (hl : m < xs.length)
    (h : ∀ b o cs, cs.length = sz → DCs d b o cs → R d cs xs[m] → gws P pan Qn s Ls (upd ρ t (.pointer (some ⟨b, o, none⟩))) d L) : gws P pan Qn (.op tk ⟨some t, none, .idx sz x i⟩ s) Ls ρ d L := by
  obtain ⟨a, c, b, o, rfl, h2, h3, h4, h5, h6, h7, h8⟩ := hr
  obtain ⟨cs, k1, k2, k3⟩ := h8 m hl
  exact w_idx m ex ei hm hl h2 (h b _ cs k1 k2 k3)
end
section
variable {P : Program} {Q : GPost} {ρ : Env} {d : PHeap} {L : List PHeap}
theorem w_loopV {α : Type} {a : GCode} (slots : α → Value → List (Nat × Value)) (inv : α → Value → PHeap → PHeap → List PHeap → Prop) (meas : α → Nat) (x0 : α) (v0 : Value) (h0 : PHeap) (hs : SlotsAre ρ (slots x0 v0)) (i0 : inv x0 v0 h0 d L)
    (round : ∀ x v h ρ d L, inv x v h d L → gwp P a { Q with n := fun ρ d L => ∃ x' v' h', meas x' < meas x ∧ SlotsAre ρ (slots x' v') ∧ inv x' v' h' d L } (updL ρ (slots x v)) d L) : gwp P (.loop a) Q ρ d L :=
  w_loopS (α := α × Value × PHeap) (fun x => slots x.1 x.2.1) (fun x d L => inv x.1 x.2.1 x.2.2 d L) (fun x => meas x.1) (x0, v0, h0) hs i0
    (fun x ρ d L hi => gwp_mono (fun _ _ _ ⟨x', v', h', a, b, c⟩ => ⟨(x', v', h'), a, b, c⟩) (round x.1 x.2.1 x.2.2 ρ d L hi))
end
section
variable {P : Program} {pan : List PanicEntry → Post} {Qn : Env → Post} {Ls L : List PHeap} {ρ : Env} {d : PHeap} {s t : GS} {g : GOp}
theorem w_alt (h1 : gws P pan Qn (.op false g s) Ls ρ d L) (h2 : gws P pan Qn t Ls ρ d L) : gws P pan Qn (.alt g s t) Ls ρ d L := ⟨h1, h2⟩
theorem w_pick (is : List Nat) (hp : is.isPerm (List.range L.length) = true) (h : gws P pan Qn (.op false g s) Ls ρ d (pick L is)) : gws P pan Qn (.op false g s) Ls ρ d L := w_vs d _ (Vs.pick is hp) h
theorem w_donep (is : List Nat) (hp : is.isPerm (List.range L.length) = true) (h : Qn ρ d (pick L is)) : gws P pan Qn .done [] ρ d L := ⟨d, _, Vs.pick is hp, h⟩
theorem w_doneE (h : ∃ d1 L1, Vs d L d1 L1 ∧ Qn ρ d1 L1) : gws P pan Qn .done [] ρ d L := h
theorem res_tmp {C : Addr → Value → Prop} {t : Nat} {v : Value} (e : ρ t = v) : resOne ρ C (.tmp t) v := e.symm
theorem res_cell {t n b : Nat} {T : TypeId} {l : List Value} (i : Nat) (e : ρ t = .pointer (some ⟨b, 0, none⟩)) (hi : L[i]? = some (bx b T l)) (hn : l.length = n) : resOne ρ (HC d L) (.cell t (some n)) (.agg l.toArray) :=
  ⟨b, 0, l, e, hn, fun j u hu => by rw [Nat.zero_add]; exact hc_i i hi hu, rfl⟩
theorem finF {res : List GRes} {R : Ending → PHeap → List PHeap → Prop} (vs : List Value) (hr : resAll ρ (HC d L) res vs) (h : ∀ d', Le d d' → (∀ k ∈ L, Le k d') → R (.returned (resV vs)) d' []) : retPost res R ρ d L :=
  let ⟨d', h1, h2, h3⟩ := Vs.frzAll d L
  ⟨vs, hr, d', [], h1, h d' h2 h3⟩
theorem finS {res : List GRes} {R : Ending → PHeap → List PHeap → Prop} (vs : List Value) {L' : List PHeap} (hr : resAll ρ (HC d L) res vs) (hs : L'.Sublist L) (h : R (.returned (resV vs)) d L') : retPost res R ρ d L :=
  ⟨vs, hr, d, L', Vs.drop hs, h⟩
end
section
variable {P : Program} {pan : List PanicEntry → Post} {Qn : Env → Post} {Ls L : List PHeap} {ρ : Env} {d : PHeap} {s : GS} {t : Nat} {tk : Bool}
theorem w_pickdT {c a b : Operand} {p : Prop} [Decidable p] {v : Value} (e : ev ρ c = .bool (decide p)) (hp : p) (ea : ev ρ a = v) (h : gws P pan Qn s Ls (upd ρ t v) d L) : gws P pan Qn (.op tk ⟨some t, none, .pick c a b⟩ s) Ls ρ d L :=
  w_pickT (by rw [e]; simp [hp]) ea h
theorem w_pickdF {c a b : Operand} {p : Prop} [Decidable p] {v : Value} (e : ev ρ c = .bool (decide p)) (hp : ¬ p) (eb : ev ρ b = v) (h : gws P pan Qn s Ls (upd ρ t v) d L) : gws P pan Qn (.op tk ⟨some t, none, .pick c a b⟩ s) Ls ρ d L :=
  w_pickF (by rw [e]; simp [hp]) eb h
theorem w_pickqT {c a b : Operand} {q : Bool} {v : Value} (e : ev ρ c = .bool q) (hp : q = true) (ea : ev ρ a = v) (h : gws P pan Qn s Ls (upd ρ t v) d L) : gws P pan Qn (.op tk ⟨some t, none, .pick c a b⟩ s) Ls ρ d L :=
  w_pickT (by rw [e, hp]) ea h
theorem w_pickqF {c a b : Operand} {q : Bool} {v : Value} (e : ev ρ c = .bool q) (hp : q = false) (eb : ev ρ b = v) (h : gws P pan Qn s Ls (upd ρ t v) d L) : gws P pan Qn (.op tk ⟨some t, none, .pick c a b⟩ s) Ls ρ d L :=
  w_pickF (by rw [e, hp]) eb h
end
theorem GCall.monoV {P : Program} {f : FuncId} {args : List Value} {d : PHeap} {L : List PHeap} {R R' : Ending → PHeap → List PHeap → Prop}
    (h : GCall P f args d L R) (hr : ∀ e d' L', Le d d' → R e d' L' → ∃ d2 L2, Vs d' L' d2 L2 ∧ R' e d2 L2) : GCall P f args d L R' :=
  ⟨h.1, fun F W x => (h.2 F W x).mono fun e W' ⟨d', L', a, b, c, r⟩ => let ⟨d2, L2, v, r2⟩ := hr e d' L' b r; ⟨d2, L2, v.2 F W' a, b.trans v.1, c, r2⟩⟩
theorem GCall.monoR {P : Program} {f : FuncId} {args : List Value} {d : PHeap} {L : List PHeap} {R R' : Value → PHeap → List PHeap → Prop}
    (h : GCall P f args d L (Ret R)) (hr : ∀ v d' L', Le d d' → R v d' L' → ∃ d2 L2, Vs d' L' d2 L2 ∧ R' v d2 L2) : GCall P f args d L (Ret R') :=
  h.monoV (fun e d' L' hl r => by
    cases e with
    | returned v => exact hr v d' L' hl r
    | panicked c => exact r.elim
    | outgrown => exact r.elim)
theorem FRow.grow {N : Nat} {v : Value} {c : List UInt8} {h d : PHeap} (r : FRow N v c h) (hN : N ≤ 140737488355328) : GRow 1 RByte d v c h := by
  obtain ⟨hc, b, T, rfl, rfl⟩ := r
  refine ⟨c.map byteV, ORow.mk (by simp) (by omega) hc (by omega) (by simp; omega) (by simp), fun i hi => ?_⟩
  simp only [RByte, chunk, Nat.mul_one, ← List.map_drop, ← List.map_take]
  rw [List.drop_eq_getElem_cons hi]; rfl
end Go.Gk
end

section
namespace Go.Gk
open Go

def joinL : List PHeap → PHeap
  | [] => emp
  | h :: L => join h (joinL L)
theorem joinL_le : ∀ {L : List PHeap} {h : PHeap}, h ∈ L → Le h (joinL L)
  | k :: L, h, hm => by
    rcases List.mem_cons.1 hm with rfl | hm
    · exact Le.join_left _ _
    · exact (joinL_le hm).trans (Le.join_right _ _)
theorem joinL_disj {k : PHeap} : ∀ {L : List PHeap}, (∀ h ∈ L, Disj k h) → Disj k (joinL L)
  | [], _ => fun _ _ _ _ e => e.elim
  | h :: _, hd => fun b o o' e e' => e'.elim (hd h (List.mem_cons_self ..) b o o' e) (joinL_disj (fun h' hm => hd h' (List.mem_cons_of_mem _ hm)) b o o' e)
theorem Vs.cons {d d' h : PHeap} {L L' : List PHeap} (v : Vs d L d' L') : Vs d (h :: L) d' (h :: L') :=
  ⟨v.1, fun F W x => (v.2 (h :: F) W (x.perm (List.perm_middle.symm.cons d))).perm (List.perm_middle.cons d')⟩
theorem Vs.openL {d : PHeap} {L0 : List PHeap} : ∀ {L : List PHeap}, L.Pairwise Disj → Vs d (joinL L :: L0) d (L ++ L0)
  | [], _ => Vs.drop (List.sublist_cons_self _ _)
  | h :: L, hp => by
    rw [List.pairwise_cons] at hp
    exact (Vs.split (joinL_disj hp.1)).trans (Vs.cons (Vs.openL hp.2))
theorem Vs.packL {d : PHeap} {L0 : List PHeap} : ∀ {L : List PHeap}, Vs d (L ++ L0) d (joinL L :: L0)
  | [] => Vs.emp
  | _ :: L => (Vs.cons (Vs.packL (L := L))).trans Vs.join
theorem Vs.pack {d : PHeap} (L : List PHeap) : Vs d L d [joinL L] := by
  have := Vs.packL (d := d) (L0 := []) (L := L)
  rwa [List.append_nil] at this

theorem Ok.pw {d : PHeap} {L F : List PHeap} {W : World} (x : Ok (d :: (L ++ F)) W) : (d :: L).Pairwise Disj := x.1.sublist ((List.sublist_append_left L F).cons_cons d)
theorem Ok.disj {P : Program} {f : FuncId} {args : List Value} {d : PHeap} {L : List PHeap} {R : Value → PHeap → List PHeap → Prop} (h : GCall P f args d L (Ret R)) : GCall P f args d L (Ret fun v d' L' => R v d' L' ∧ (d' :: L').Pairwise Disj) :=
  ⟨h.1, fun F W x => (h.2 F W x).mono fun e W' ⟨d', L', a, b, c, r⟩ => ⟨d', L', a, b, c, by
    cases e with
    | returned v => exact ⟨r, a.pw⟩
    | panicked c => exact r
    | outgrown => exact r⟩⟩
theorem GPure.borrow {P : Program} {f : FuncId} {vs : List Value} {d : PHeap} {L : List PHeap} {v : Value} (h : ∀ d1, Le d d1 → (∀ k ∈ L, Le k d1) → GPure P f vs d1 v) :
    GCall P f vs d L (Ret fun r d' L' => r = v ∧ d' = d ∧ L' = L) := by
  have h := h (joinL (d :: L)) (joinL_le (List.mem_cons_self ..)) (fun k hk => joinL_le (List.mem_cons_of_mem _ hk))
  refine ⟨h.1, fun F W x => ?_⟩
  have hp := x.pw
  have y : Ok (joinL (d :: L) :: ([] ++ F)) W := by
    have := (Vs.packL (d := emp) (L0 := F) (L := d :: L)).2 [] W (by simpa using x.emp)
    simpa using this.tail
  refine (h.2 F W y).mono fun e W' ⟨d', L', a, b, c, r⟩ => ?_
  cases e with
  | panicked c => exact r.elim
  | outgrown => exact r.elim
  | returned u =>
    obtain ⟨rfl, rfl, rfl⟩ := r
    refine ⟨d, L, ?_, Le.refl d, c, rfl, rfl, rfl⟩
    have := (Vs.openL (d := emp) (L0 := F) hp).2 [] W' (by simpa using a.emp)
    simpa using this.tail

section
variable {P : Program} {pan : List PanicEntry → Post} {Qn : Env → Post} {Ls L : List PHeap} {ρ : Env} {d : PHeap} {s : GS} {t : Nat} {tk : Bool}
theorem w_pureB {f : FuncId} {args : List Operand} {vs : List Value} {v : Value} (ea : args.map (ev ρ) = vs) (hc : ∀ d1, Le d d1 → (∀ k ∈ L, Le k d1) → GPure P f vs d1 v)
    (h : gws P pan Qn s Ls (upd ρ t v) d L) : gws P pan Qn (.op false ⟨some t, none, .call f args⟩ s) Ls ρ d L := by
  refine w_calln (R := fun r d' L' => r = v ∧ d' = d ∧ L' = L) L.length ea (by rw [List.take_length]; exact GPure.borrow hc) (fun r d' L' _ ⟨h1, h2, h3⟩ => ?_)
  subst h1; subst h2; subst h3
  rw [List.drop_length, List.append_nil]; exact h
theorem w_callA {f : FuncId} {args : List Operand} {R : Value → PHeap → List PHeap → Prop} {vs : List Value} {A B : List PHeap} (hL : L = A ++ B) (ea : args.map (ev ρ) = vs) (hc : GCall P f vs d A (Ret R))
    (h : ∀ v d' L', Le d d' → R v d' L' → gws P pan Qn s Ls (upd ρ t v) d' (L' ++ B)) : gws P pan Qn (.op false ⟨some t, none, .call f args⟩ s) Ls ρ d L := by
  subst hL
  refine w_calln A.length ea (by rw [List.take_left]; exact hc) (fun v d' L' hl hr => ?_)
  rw [List.drop_left]; exact h v d' L' hl hr
end

theorem RSl.cut {α : Type} {sz : Nat} {R : PHeap → List Value → α → Prop} {d : PHeap} {a : Option Addr} {n c : Nat} {xs : List α} (hr : RSl sz R d (.slice a n c) xs) {l h m : Nat} (h1 : l ≤ h) (h2 : h ≤ m) (h3 : m ≤ c) (h4 : h ≤ xs.length) :
    RSl sz R d (.slice (if m = l then a else a.map fun a => ⟨a.block, a.off + l * sz, none⟩) (h - l) (m - l)) ((xs.drop l).take (h - l)) := by
  obtain ⟨a', c', b, o, e, k2, k3, k4, k5, k6, k7, k8⟩ := hr
  cases e
  have hl : ((xs.drop l).take (h - l)).length = h - l := by simp; omega
  refine ⟨_, m - l, b, o + l * sz, by rw [hl], fun h0 => ?_, fun h0 a' ha => ?_, fun h0 => ?_, by omega, by omega, by omega, fun i hi => ?_⟩
  · rw [hl] at h0
    rw [if_neg (by omega), k2 (by omega)]; rfl
  · rw [if_neg (by omega)] at ha
    cases a with
    | none => cases ha
    | some a => cases ha; rfl
  · split at h0
    · omega
    · cases a with
      | none => have := k4 rfl; omega
      | some a => cases h0
  · rw [hl] at hi
    obtain ⟨cs, j1, j2, j3⟩ := k8 (l + i) (by omega)
    refine ⟨cs, j1, ?_, ?_⟩
    · rw [Nat.add_mul, ← Nat.add_assoc] at j2; exact j2
    · simpa using j3
section
variable {P : Program} {pan : List PanicEntry → Post} {Qn : Env → Post} {Ls L : List PHeap} {ρ : Env} {d : PHeap} {s : GS} {t : Nat} {tk : Bool} {α : Type} {sz : Nat} {R : PHeap → List Value → α → Prop} {x y z : Operand} {v : Value} {xs : List α} {kk kk' : IntKind} {n m : Nat}
theorem w_slTo {j : Int} (ex : ev ρ x = v) (hr : RSl sz R d v xs) (ey : ev ρ y = .int kk j) (hj : j = (n : Int)) (hn : n ≤ xs.length) (k : ∀ v', RSl sz R d v' (xs.take n) → gws P pan Qn s Ls (upd ρ t v') d L) :
    gws P pan Qn (.op tk ⟨some t, none, .sl sz x none (some y) none⟩ s) Ls ρ d L := by
  subst hj
  have hr' := hr
  obtain ⟨a, c, b, o, rfl, h2, h3, h4, h5, h6, h7, h8⟩ := hr
  have hc : cutV xs.length c none (some (ev ρ y)) none = some (0, n, c) := by
    simp only [cutV, cutM, cutH, cutL, Option.bind_some, Option.map_some, ey, bnd]
    rw [if_pos (by omega)]; simp
  refine w_q rfl ⟨a, xs.length, c, 0, n, c, ex, h3, hc, rfl⟩ (k _ ?_)
  simpa using hr'.cut (l := 0) (h := n) (m := c) (by omega) (by omega) (Nat.le_refl c) hn
theorem w_slTo3 {j j' : Int} (ex : ev ρ x = v) (hr : RSl sz R d v xs) (ey : ev ρ y = .int kk j) (ez : ev ρ z = .int kk' j') (hj : j = (n : Int)) (hj' : j' = (n : Int)) (hn : n ≤ xs.length) (k : ∀ v', RSl sz R d v' (xs.take n) → gws P pan Qn s Ls (upd ρ t v') d L) :
    gws P pan Qn (.op tk ⟨some t, none, .sl sz x none (some y) (some z)⟩ s) Ls ρ d L := by
  subst hj; subst hj'
  have hr' := hr
  obtain ⟨a, c, b, o, rfl, h2, h3, h4, h5, h6, h7, h8⟩ := hr
  have hc : cutV xs.length c none (some (ev ρ y)) (some (ev ρ z)) = some (0, n, n) := by
    simp only [cutV, cutM, cutH, cutL, Option.bind_some, ey, ez, bnd]
    rw [if_pos (by omega)]
    simp
  refine w_q rfl ⟨a, xs.length, c, 0, n, n, ex, fun h0 => h3 (by omega), hc, rfl⟩ (k _ ?_)
  simpa using hr'.cut (l := 0) (h := n) (m := n) (by omega) (by omega) (by omega) hn
theorem w_slFrom {j : Int} (ex : ev ρ x = v) (hr : RSl sz R d v xs) (ey : ev ρ y = .int kk j) (hj : j = (n : Int)) (hn : n ≤ xs.length) (k : ∀ v', RSl sz R d v' (xs.drop n) → gws P pan Qn s Ls (upd ρ t v') d L) :
    gws P pan Qn (.op tk ⟨some t, none, .sl sz x (some y) none none⟩ s) Ls ρ d L := by
  subst hj
  have hr' := hr
  obtain ⟨a, c, b, o, rfl, h2, h3, h4, h5, h6, h7, h8⟩ := hr
  have hc : cutV xs.length c (some (ev ρ y)) none none = some (n, xs.length, c) := by
    simp only [cutV, cutM, cutH, cutL, Option.isSome_none, Bool.false_eq_true, if_false, Option.bind_some, ey, bnd]
    rw [if_pos (by omega)]; simp
  refine w_q rfl ⟨a, xs.length, c, n, xs.length, c, ex, fun (h0 : c ≠ n) => h3 (by omega), hc, rfl⟩ (k _ ?_)
  have := hr'.cut (l := n) (h := xs.length) (m := c) (by omega) (by omega) (Nat.le_refl c) (Nat.le_refl _)
  rwa [List.take_of_length_le (by simp)] at this
theorem w_slMid {j j' : Int} (ex : ev ρ x = v) (hr : RSl sz R d v xs) (ey : ev ρ y = .int kk j) (ez : ev ρ z = .int kk' j') (hj : j = (n : Int)) (hj' : j' = (m : Int)) (hnm : n ≤ m) (hn : m ≤ xs.length) (k : ∀ v', RSl sz R d v' ((xs.drop n).take (m - n)) → gws P pan Qn s Ls (upd ρ t v') d L) :
    gws P pan Qn (.op tk ⟨some t, none, .sl sz x (some y) (some z) none⟩ s) Ls ρ d L := by
  subst hj; subst hj'
  have hr' := hr
  obtain ⟨a, c, b, o, rfl, h2, h3, h4, h5, h6, h7, h8⟩ := hr
  have hc : cutV xs.length c (some (ev ρ y)) (some (ev ρ z)) none = some (n, m, c) := by
    simp only [cutV, cutM, cutH, cutL, Option.bind_some, ey, ez, bnd]
    rw [if_pos (by omega)]
    simp only [Option.bind_some, Int.toNat_natCast]
    rw [if_pos (by omega)]; simp
  exact w_q rfl ⟨a, xs.length, c, n, m, c, ex, fun (h0 : c ≠ n) => h3 (by omega), hc, rfl⟩ (k _ (hr'.cut (l := n) (h := m) (m := c) hnm (by omega) (Nat.le_refl c) hn))
end
section
variable {P : Program} {pan : List PanicEntry → Post} {Qn : Env → Post} {Ls L : List PHeap} {ρ : Env} {d : PHeap} {s : GS} {t : Nat}
theorem w_appLO {sz by_ : Nat} {z : List Value} {x y : Operand} (i : Nat) {v : Value} {n m b : Nat} {T : TypeId} {xs cs : List Value} {h : PHeap} (ex : ev ρ x = v) (hi : L[i]? = some h) (ho : ORow sz v n xs h)
    (ey : ev ρ y = .slice (some ⟨b, 0, none⟩) m m) (hl : cs.length = m * sz) (h1 : (cs.all (·.oneCell')) = true) (hsz : 0 < sz) (hm : n + m ≤ 140737488355328) (hb : (n + m) * by_ ≤ 140737488355328)
    (k : ∀ v' h', ORow sz v' (n + m) (xs ++ cs) h' → gws P pan Qn s Ls (upd ρ t v') d (L.set i h')) : gws P pan Qn (.op false ⟨some t, none, .app sz by_ z x y⟩ s) Ls ρ d (bx b T cs :: L) := by
  have hrd : RdX d (Ls ++ (bx b T cs :: L) ++ (bx b T cs :: L)) (.slice (some ⟨b, 0, none⟩) m m) m sz cs :=
    RdX.lit (T := T) (Ls.length) (by rw [List.append_assoc, List.getElem?_append_right (Nat.le_refl _)]; simp) hl
  refine w_appV (i + 1) ex (by simpa using hi) ho ey hrd h1 hsz hm hb (fun v' h' o => ⟨d, L.set i h', ?_, k v' h' o⟩)
  rw [List.set_cons_succ]
  exact Vs.drop (List.sublist_cons_self _ _)
end
theorem Vs.picks {d : PHeap} (Ls : List (List PHeap)) (is js : List Nat) (hp : (is ++ js).isPerm (List.range Ls.length) = true) : Vs d Ls.flatten d ((is.map fun i => Ls.getD i []).flatten) := by
  have hp : (is ++ js).Perm (List.range Ls.length) := List.isPerm_iff.1 hp
  have h1 := hp.symm.map fun i => Ls.getD i []
  have h0 : (List.range Ls.length).map (fun i => Ls.getD i []) = Ls := by
    apply List.ext_getElem
    · simp
    · intro i h1 h2
      simp [List.getD, h2]
  rw [h0, List.map_append] at h1
  have h2 := h1.flatten
  rw [List.flatten_append] at h2
  exact (Vs.perm h2).trans (Vs.drop (List.sublist_append_left _ _))
section
variable {P : Program} {Q : GPost} {ρ : Env} {d : PHeap} {L : List PHeap}
theorem w_drawnA {s : GS} (Ls L1 : List PHeap) (hL : L = Ls ++ L1) (h : gws P Q.pan Q.n s Ls ρ d L1) : gwp P (.reg true s) Q ρ d L := ⟨d, Ls, L1, by rw [hL]; exact Vs.refl d _, h⟩
theorem finV {res : List GRes} {R : Ending → PHeap → List PHeap → Prop} (vs : List Value) {d' : PHeap} {L' : List PHeap} (hr : resAll ρ (HC d L) res vs) (hs : Vs d L d' L') (h : R (.returned (resV vs)) d' L') : retPost res R ρ d L :=
  ⟨vs, hr, d', L', hs, h⟩
end
theorem patch_set {l : List Value} {m : Nat} {x : Value} (h : m < l.length) : patch l m [x] = l.set m x := by
  rw [List.set_eq_take_append_cons_drop, if_pos h]; simp [patch]
theorem ORow.open1 {n : Nat} {v : Value} {us : List Value} {h : PHeap} (o : ORow 1 v n us h) {m : Nat} (hm : m < n) :
    ∃ b T l c, v = .slice (some ⟨b, 0, none⟩) n c ∧ h = bx b T l ∧ m < l.length ∧ (∀ u, us[m]? = some u → l[m]? = some u) ∧ ∀ x, ORow 1 v n (us.set m x) (bx b T (patch l m [x])) := by
  obtain ⟨h1, h2, ⟨rfl, rfl, rfl⟩ | ⟨b, T, l, c, rfl, rfl, h3, h4, h5, h6⟩⟩ := o
  · omega
  · have hml : m < l.length := by omega
    refine ⟨b, T, l, c, rfl, rfl, hml, fun u hu => ?_, fun x => ?_⟩
    · rw [← h6] at hu
      rw [List.getElem?_take_of_lt (by omega)] at hu
      exact hu
    · rw [patch_set hml]
      refine ⟨by simpa using h1, h2, .inr ⟨b, T, l.set m x, c, rfl, rfl, h3, h4, by simpa using h5, ?_⟩⟩
      rw [List.length_set, List.take_set, h6]
theorem GRow.openB {d : PHeap} {v : Value} {xs : List UInt8} {h : PHeap} (o : GRow 1 RByte d v xs h) {m : Nat} (hm : m < xs.length) :
    ∃ b T l c, v = .slice (some ⟨b, 0, none⟩) xs.length c ∧ h = bx b T l ∧ m < l.length ∧ l[m]? = some (byteV xs[m]) ∧ ∀ y, GRow 1 RByte d v (xs.set m y) (bx b T (patch l m [byteV y])) := by
  obtain ⟨b, T, l, c, h1, h2, h3, h4, h5⟩ := o.bytes.open1 hm
  refine ⟨b, T, l, c, h1, h2, h3, h4 _ (by simp [hm]), fun y => ?_⟩
  have := h5 (byteV y)
  rw [← List.map_set] at this
  refine ⟨(xs.set m y).map byteV, by rw [List.length_set]; exact this, fun i hi => ?_⟩
  simp only [RByte, chunk, Nat.mul_one, ← List.map_drop, ← List.map_take]
  rw [List.drop_eq_getElem_cons hi]; rfl
theorem GRow.openI {d : PHeap} {v : Value} {xs : List Int} {h : PHeap} (o : GRow 1 RInt d v xs h) {m : Nat} (hm : m < xs.length) :
    ∃ b T l c, v = .slice (some ⟨b, 0, none⟩) xs.length c ∧ h = bx b T l ∧ m < l.length ∧ l[m]? = some (.int .i64 xs[m]) ∧ ∀ y : Int, -9223372036854775808 ≤ y → y ≤ 9223372036854775807 → GRow 1 RInt d v (xs.set m y) (bx b T (patch l m [.int .i64 y])) := by
  obtain ⟨cs, ho, hr⟩ := o
  obtain ⟨b, T, l, c, h1, h2, h3, h4, h5⟩ := ho.open1 hm
  have hl := ho.1
  refine ⟨b, T, l, c, h1, h2, h3, h4 _ ?_, fun y hy1 hy2 => ⟨cs.set m (.int .i64 y), by rw [List.length_set]; exact h5 _, fun i hi => ?_⟩⟩
  · obtain ⟨e, _⟩ := hr m hm
    have e2 := congrArg (·[0]?) e
    simp only [chunk, Nat.mul_one, List.getElem?_take_of_lt (show 0 < 1 by omega), List.getElem?_drop, Nat.add_zero, List.getElem?_cons_zero] at e2
    exact e2
  · have hi' : i < xs.length := by simpa using hi
    have hic : i < cs.length := by omega
    by_cases e : m = i
    · subst e
      simp only [List.getElem_set_self]
      refine ⟨?_, hy1, hy2⟩
      simp only [chunk, Nat.mul_one]
      rw [List.drop_eq_getElem_cons (by simpa using hic)]
      simp
    · simp only [List.getElem_set_ne e]
      have := hr i hi'
      have e2 : chunk (cs.set m (.int .i64 y)) i 1 = chunk cs i 1 := by
        simp only [chunk, Nat.mul_one]
        rw [List.drop_eq_getElem_cons (by simpa using hic), List.getElem_set_ne e]
        have h0 : cs.drop i = cs[i] :: cs.drop (i + 1) := List.drop_eq_getElem_cons hic
        rw [h0]; rfl
      rw [e2]; exact this
section
variable {P : Program} {pan : List PanicEntry → Post} {Qn : Env → Post} {Ls L : List PHeap} {ρ : Env} {d : PHeap} {s : GS} {t : Nat} {tk : Bool}
theorem w_addB {x y : Operand} {a : UInt8} {c : Int} (ex : ev ρ x = byteV a) (ey : ev ρ y = .int .u8 c) (h : gws P pan Qn s Ls (upd ρ t (byteV (UInt8.ofNat ((a.toNat + c) % 256).toNat))) d L) :
    gws P pan Qn (.op tk ⟨some t, none, .bin .add x y⟩ s) Ls ρ d L :=
  w_bin (by rw [ex, ey]; simp only [byteV, binV]; rw [if_neg (by simp)]; simp only [byteV_wrap]; rfl) h
theorem w_idx1 {x i : Operand} {b n c : Nat} {k : IntKind} {j : Int} (m : Nat) (ex : ev ρ x = .slice (some ⟨b, 0, none⟩) n c) (ei : ev ρ i = .int k j) (hm : j = (m : Int)) (hl : m < n)
    (h : gws P pan Qn s Ls (upd ρ t (.pointer (some ⟨b, m, none⟩))) d L) : gws P pan Qn (.op tk ⟨some t, none, .idx 1 x i⟩ s) Ls ρ d L :=
  w_idx (o := 0) m ex ei hm hl (SAd.some n b 0) (by rw [Nat.zero_add, Nat.mul_one]; exact h)
end
end Go.Gk
end

section
namespace Go.Gk
open Go
def flat : List (List PHeap) → List PHeap
  | [] => []
  | [l] => l
  | l :: m :: Ls => l ++ flat (m :: Ls)
theorem flat_eq : ∀ Ls : List (List PHeap), flat Ls = Ls.flatten
  | [] => rfl
  | [l] => by simp [flat]
  | l :: m :: Ls => by simp only [flat]; rw [flat_eq (m :: Ls)]; simp
theorem Vs.picksE {d : PHeap} {L L' : List PHeap} (Ls : List (List PHeap)) (is js : List Nat) (hp : (is ++ js).isPerm (List.range Ls.length) = true) (hL : L = flat Ls) (hL' : (is.map fun i => Ls.getD i []).flatten = L') : Vs d L d L' := by
  subst hL'; rw [hL, flat_eq]; exact Vs.picks Ls is js hp
theorem GCall.borrow {P : Program} {f : FuncId} {vs : List Value} {d : PHeap} {L : List PHeap} {Q : Value → List PHeap → Prop} (h : ∀ d1, Le d d1 → (∀ k ∈ L, Le k d1) → GCall P f vs d1 [] (Ret fun r d' L' => d' = d1 ∧ Q r L')) :
    GCall P f vs d L (Ret fun r d' L' => d' = d ∧ ∃ L1, L' = L1 ++ L ∧ Q r L1) := by
  have h := h (joinL (d :: L)) (joinL_le (List.mem_cons_self ..)) (fun k hk => joinL_le (List.mem_cons_of_mem _ hk))
  refine ⟨h.1, fun F W x => ?_⟩
  have hp := x.pw
  have y : Ok (joinL (d :: L) :: ([] ++ F)) W := by
    have := (Vs.packL (d := emp) (L0 := F) (L := d :: L)).2 [] W (by simpa using x.emp)
    simpa using this.tail
  refine (h.2 F W y).mono fun e W' ⟨d', L', a, b, c, r⟩ => ?_
  cases e with
  | panicked c => exact r.elim
  | outgrown => exact r.elim
  | returned u =>
    obtain ⟨rfl, r⟩ := r
    refine ⟨d, L' ++ L, ?_, Le.refl d, c, rfl, L', rfl, r⟩
    have := (Vs.openL (d := emp) (L0 := L' ++ F) hp).2 [] W' (by simpa using a.emp)
    have z : Ok ((d :: L) ++ (L' ++ F)) W' := by simpa using this.tail
    refine z.perm ?_
    simp only [List.cons_append, List.append_assoc]
    refine List.Perm.cons d ?_
    rw [← List.append_assoc, ← List.append_assoc]
    exact List.Perm.append_right F List.perm_append_comm
section
variable {P : Program} {pan : List PanicEntry → Post} {Qn : Env → Post} {Ls L : List PHeap} {ρ : Env} {d : PHeap} {s : GS} {t : Nat} {tk : Bool}
theorem w_stE {n : Nat} {x y : Operand} {b o : Nat} {T : TypeId} {l : List Value} {v : Value} (i : Nat) (l' : List Value) (hi : L[i]? = some (bx b T l)) (ex : ev ρ x = .pointer (some ⟨b, o, none⟩)) (ey : ev ρ y = v)
    (hn : v.cells.size = n) (hl : o + n ≤ l.length) (h1 : (v.cells.toList.all (·.oneCell')) = true) (hp : patch l o v.cells.toList = l') (h : gws P pan Qn s Ls ρ d (L.set i (bx b T l'))) :
    gws P pan Qn (.op false ⟨none, none, .st n x y⟩ s) Ls ρ d L := by subst hp; exact w_st i hi ex ey hn hl h1 h
theorem w_callB {f : FuncId} {args : List Operand} {Q : Value → List PHeap → Prop} {vs : List Value} (ea : args.map (ev ρ) = vs) (hc : ∀ d1, Le d d1 → (∀ k ∈ L, Le k d1) → GCall P f vs d1 [] (Ret fun r d' L' => d' = d1 ∧ Q r L'))
    (h : ∀ r L', Q r L' → gws P pan Qn s Ls (upd ρ t r) d (L' ++ L)) : gws P pan Qn (.op false ⟨some t, none, .call f args⟩ s) Ls ρ d L := by
  refine w_calln (R := fun r d' L' => d' = d ∧ ∃ L1, L' = L1 ++ L ∧ Q r L1) L.length ea (by rw [List.take_length]; exact GCall.borrow hc) (fun r d' L' _ ⟨h1, L1, h2, h3⟩ => ?_)
  subst h1; subst h2
  rw [List.drop_length, List.append_nil]; exact h r L1 h3
theorem w_shl8 {x y : Operand} {k' : IntKind} {a : Nat} (ex : ev ρ x = .int .i64 a) (ey : ev ρ y = .int k' 8) (ha : a ≤ 1000000000000) (h : gws P pan Qn s Ls (upd ρ t (.int .i64 (a * 256 : Nat))) d L) :
    gws P pan Qn (.op tk ⟨some t, none, .bin .shl x y⟩ s) Ls ρ d L := by
  refine w_bin ?_ h
  have h1 : min (Int.toNat 8) IntKind.i64.bits = 8 := by simp [IntKind.bits]
  rw [ex, ey]
  simp only [binV, h1]
  rw [if_neg (by omega), wrap64_eq (by omega) (by omega)]
  congr 2
theorem w_or8 {x y : Operand} {a b : Nat} (ex : ev ρ x = .int .i64 (a * 256 : Nat)) (ey : ev ρ y = .int .i64 b) (ha : a ≤ 1000000000000) (hb : b < 256) (h : gws P pan Qn s Ls (upd ρ t (.int .i64 (a * 256 + b : Nat))) d L) :
    gws P pan Qn (.op tk ⟨some t, none, .bin .or x y⟩ s) Ls ρ d L := by
  refine w_bin ?_ h
  have e : (BitVec.ofInt IntKind.i64.bits ((a * 256 : Nat) : Int) ||| BitVec.ofInt IntKind.i64.bits ((b : Nat) : Int)).toNat = a * 256 + b := by
    have h1 := Nat.shiftLeft_add_eq_or_of_lt (i := 8) hb a
    rw [Nat.shiftLeft_eq] at h1
    show ((BitVec.ofInt 64 ((a * 256 : Nat) : Int) : BitVec 64) ||| (BitVec.ofInt 64 ((b : Nat) : Int) : BitVec 64)).toNat = _
    rw [BitVec.toNat_or, BitVec.ofInt_natCast, BitVec.ofInt_natCast, BitVec.toNat_ofNat, BitVec.toNat_ofNat]
    rw [Nat.mod_eq_of_lt (by omega), Nat.mod_eq_of_lt (by omega)]
    exact h1.symm
  rw [ex, ey]
  simp only [binV, e]
  rw [wrap64_eq (by omega) (by omega)]
  simp
theorem w_add8 {x y : Operand} {a b : Int} (ex : ev ρ x = .int .u8 a) (ey : ev ρ y = .int .u8 b) (h1 : 0 ≤ a + b) (h2 : a + b ≤ 255)
    (h : gws P pan Qn s Ls (upd ρ t (.int .u8 (a + b))) d L) : gws P pan Qn (.op tk ⟨some t, none, .bin .add x y⟩ s) Ls ρ d L :=
  w_bin (by
    have e : IntKind.u8.wrap (a + b) = a + b := by simp [IntKind.wrap, IntKind.signed, IntKind.bits]; omega
    rw [ex, ey]; simp [binV, e]) h
end
theorem Vs.frzSome (B : List PHeap) : ∀ (A : List PHeap) (d : PHeap), ∃ d', Vs d (A ++ B) d' B ∧ Le d d' ∧ ∀ h ∈ A, Le h d'
  | [], d => ⟨d, Vs.refl d B, Le.refl d, fun _ h => by cases h⟩
  | h :: A, d => by
    obtain ⟨d', h1, h2, h3⟩ := Vs.frzSome B A (Gk.join d h)
    refine ⟨d', Vs.freeze.trans h1, (Le.join_left d h).trans h2, fun k hk => ?_⟩
    rcases List.mem_cons.1 hk with rfl | hk
    · exact (Le.join_right d k).trans h2
    · exact h3 k hk
theorem w_drawnV {P : Program} {Q : GPost} {ρ : Env} {d : PHeap} {L : List PHeap} {s : GS} {d1 : PHeap} (Ls L1 : List PHeap) (hv : Vs d L d1 (Ls ++ L1)) (h : gws P Q.pan Q.n s Ls ρ d1 L1) : gwp P (.reg true s) Q ρ d L := ⟨d1, Ls, L1, hv, h⟩
theorem GRow.monoBs {d d' : PHeap} {v : Value} {xs : List (List UInt8)} {h : PHeap} (o : GRow 1 RBs d v xs h) (hl : Le d d') : GRow 1 RBs d' v xs h := GRow.mono (R := RBs) mono_bs o hl
theorem GRow.monoI {d d' : PHeap} {v : Value} {xs : List Int} {h : PHeap} (o : GRow 1 RInt d v xs h) (hl : Le d d') : GRow 1 RInt d' v xs h := GRow.mono (R := RInt) mono_int o hl
end Go.Gk
end

section
namespace Go.Gk
open Go

section
variable {P : Program} {Q : GPost} {ρ : Env} {d : PHeap} {L : List PHeap}
theorem x_sq {a b : XCode} (h : xwp P a { Q with n := xwp P b Q } ρ d L) : xwp P (.seq a b) Q ρ d L := h
theorem x_g {c : GCode} (h : gwp P c Q ρ d L) : xwp P (.g c) Q ρ d L := h
theorem x_ifT {c : Operand} {a b : XCode} (e : ev ρ c = .bool true) (h : xwp P a Q ρ d L) : xwp P (.cond c a b) Q ρ d L := ⟨true, e, fun _ => h, fun q => by cases q⟩
theorem x_ifF {c : Operand} {a b : XCode} (e : ev ρ c = .bool false) (h : xwp P b Q ρ d L) : xwp P (.cond c a b) Q ρ d L := ⟨false, e, fun q => (by cases q), fun _ => h⟩
theorem x_ifdT {c : Operand} {a b : XCode} {p : Prop} [Decidable p] (e : ev ρ c = .bool (decide p)) (hp : p) (h : xwp P a Q ρ d L) : xwp P (.cond c a b) Q ρ d L := x_ifT (by rw [e, decide_eq_true hp]) h
theorem x_ifdF {c : Operand} {a b : XCode} {p : Prop} [Decidable p] (e : ev ρ c = .bool (decide p)) (hp : ¬ p) (h : xwp P b Q ρ d L) : xwp P (.cond c a b) Q ρ d L := x_ifF (by rw [e, decide_eq_false hp]) h
theorem x_block {id : Nat} {a : XCode} (h : xwp P a { Q with ex := fun j => if j = id then Q.n else Q.ex j } ρ d L) : xwp P (.block id a) Q ρ d L := h
theorem x_slots {c : XCode} (l : List (Nat × Value)) (e : SlotsAre ρ l) (h : xwp P c Q (updL ρ l) d L) : xwp P c Q ρ d L := by rwa [updL_same e] at h
end
theorem xwp_mono' {P : Program} : ∀ (c : XCode) {Q Q' : GPost} {ρ : Env} {d : PHeap} {L : List PHeap}, xwp P c Q ρ d L → (∀ ρ d L, Q.n ρ d L → Q'.n ρ d L) → (∀ i ρ d L, Q.ex i ρ d L → Q'.ex i ρ d L) →
    (∀ ρ d L, Q.ret ρ d L → Q'.ret ρ d L) → Q.pan = Q'.pan → xwp P c Q' ρ d L
  | .g c, _, _, _, _, _, h, h1, h2, h3, h4 => gwp_mono' c h h1 h2 h3 h4
  | .seq a b, _, _, _, _, _, h, h1, h2, h3, h4 => xwp_mono' a h (fun _ _ _ h => xwp_mono' b h h1 h2 h3 h4) h2 h3 h4
  | .cond c a b, _, _, _, _, _, ⟨t, e, k1, k2⟩, h1, h2, h3, h4 => ⟨t, e, fun q => xwp_mono' a (k1 q) h1 h2 h3 h4, fun q => xwp_mono' b (k2 q) h1 h2 h3 h4⟩
  | .block id a, Q, Q', _, _, _, h, h1, h2, h3, h4 => by
    refine xwp_mono' a (Q := { Q with ex := fun j => if j = id then Q.n else Q.ex j }) (Q' := { Q' with ex := fun j => if j = id then Q'.n else Q'.ex j }) h h1 (fun i ρ d L hq => ?_) h3 h4
    simp only at hq ⊢
    split at hq
    · rename_i e; rw [if_pos e]; exact h1 _ _ _ hq
    · rename_i e; rw [if_neg e]; exact h2 _ _ _ _ hq
  | .loop a, Q, Q', _, _, _, ⟨I, ⟨m, hI⟩, round⟩, h1, h2, h3, h4 =>
    ⟨I, ⟨m, hI⟩, fun m ρ d L hi => xwp_mono' a (Q := { Q with n := _ }) (Q' := { Q' with n := _ }) (round m ρ d L hi) (fun _ _ _ h => h) h2 h3 h4⟩
  | .yl pre dst f args post, Q, Q', _, _, _, h, h1, _, _, h4 => by
    simp only [xwp] at h ⊢
    rw [← h4]
    refine gws_mono (fun ρ d L hm => ?_) pre h
    obtain ⟨l, A, B, R, e1, e2, hy, hR⟩ := hm
    exact ⟨l, A, B, R, e1, e2, hy, fun v d2 L2 hl hr => by rw [← h4]; exact gws_mono h1 post (hR v d2 L2 hl hr)⟩
  | .snd pre dst ch x post, Q, Q', _, _, _, h, h1, _, _, h4 => by
    simp only [xwp] at h ⊢
    rw [← h4]
    refine gws_mono (fun ρ d L hm => ?_) pre h
    obtain ⟨i, c, cap, buf, s, r, tm, e1, e2, e3, hR⟩ := hm
    exact ⟨i, c, cap, buf, s, r, tm, e1, e2, e3, by rw [← h4]; exact gws_mono h1 post hR⟩
  | .sel pre dst ch z post, Q, Q', _, _, _, h, h1, _, _, h4 => by
    simp only [xwp] at h ⊢
    rw [← h4]
    refine gws_mono (fun ρ d L hm => ?_) pre h
    obtain ⟨i, c, cap, buf, s, r, tm, e1, e2, k1, k2⟩ := hm
    exact ⟨i, c, cap, buf, s, r, tm, e1, e2, fun v rest e => by rw [← h4]; exact gws_mono h1 post (k1 v rest e), fun e => by rw [← h4]; exact gws_mono h1 post (k2 e)⟩
  | .rf f ps as bd, _, _, _, _, _, ⟨g, first, cap, e1, hit⟩, h1, h2, h3, h4 => by
    refine ⟨g, first, cap, e1, fun l rc k1 k2 k3 => ?_⟩
    obtain ⟨R, hc, hR⟩ := hit l rc k1 k2 k3
    refine ⟨R, hc, fun e d' L' hl hr => ?_⟩
    obtain ⟨v, rc', L'', q1, q2, q3, q4⟩ := hR e d' L' hl hr
    refine ⟨v, rc', L'', q1, q2, q3, ?_⟩
    cases hp : rc'.pending with
    | none => rw [hp] at q4; exact h1 _ _ _ q4
    | some j =>
      rw [hp] at q4
      cases j with
      | exit id => exact h2 _ _ _ _ q4
      | ret => exact h3 _ _ _ q4
      | _ => exact q4
theorem xwp_mono {P : Program} {c : XCode} {Q : GPost} {N N' : Env → Post} (hn : ∀ ρ d L, N ρ d L → N' ρ d L) {ρ : Env} {d : PHeap} {L : List PHeap} (h : xwp P c { Q with n := N } ρ d L) : xwp P c { Q with n := N' } ρ d L :=
  xwp_mono' c h hn (fun _ _ _ _ h => h) (fun _ _ _ h => h) rfl
section
variable {P : Program} {Q : GPost} {ρ : Env} {d : PHeap} {L : List PHeap}
theorem x_mid {a b : XCode} (M : Env → Post) (h1 : xwp P a { Q with n := M } ρ d L) (h2 : ∀ ρ d L, M ρ d L → xwp P b Q ρ d L) : xwp P (.seq a b) Q ρ d L :=
  x_sq (xwp_mono h2 h1)
theorem x_loopS {α : Type} {a : XCode} (slots : α → List (Nat × Value)) (inv : α → PHeap → List PHeap → Prop) (meas : α → Nat) (x0 : α) (h0 : SlotsAre ρ (slots x0)) (i0 : inv x0 d L)
    (round : ∀ x ρ d L, inv x d L → xwp P a { Q with n := fun ρ d L => ∃ x', meas x' < meas x ∧ SlotsAre ρ (slots x') ∧ inv x' d L } (updL ρ (slots x)) d L) : xwp P (.loop a) Q ρ d L := by
  refine ⟨fun m ρ d L => ∃ x, meas x = m ∧ SlotsAre ρ (slots x) ∧ inv x d L, ⟨meas x0, x0, rfl, h0, i0⟩, ?_⟩
  rintro m ρ d L ⟨x, rfl, h1, h2⟩
  exact x_slots _ h1 (xwp_mono (fun ρ' d' L' ⟨x', k1, k2, k3⟩ => ⟨meas x', k1, x', rfl, k2, k3⟩) (round x ρ d L h2))
theorem x_yl {pre post : GS} {dst : Option Nat} {f : Operand} {args : List Operand} (h : gws P Q.pan (ylMid P Q dst f args post) pre [] ρ d L) : xwp P (.yl pre dst f args post) Q ρ d L := h
theorem x_snd {pre post : GS} {dst : Option Nat} {ch x : Operand} (h : gws P Q.pan (sndMid P Q dst ch x post) pre [] ρ d L) : xwp P (.snd pre dst ch x post) Q ρ d L := h
theorem x_sel {pre post : GS} {dst : Option Nat} {ch : Operand} {z : Value} (h : gws P Q.pan (selMid P Q dst ch z post) pre [] ρ d L) : xwp P (.sel pre dst ch z post) Q ρ d L := h
theorem x_yield {dst : Option Nat} {f : Operand} {args : List Operand} {post : GS} {l : Nat} {vs : List Value} (A B : List PHeap) {R : Value → PHeap → List PHeap → Prop} (ef : ev ρ f = .func (.yield l) #[] #[]) (hL : L = A ++ B) (ea : args.map (ev ρ) = vs) (hy : GYield P l vs d A R)
    (k : ∀ v d2 L2, Le d d2 → R v d2 L2 → gws P Q.pan Q.n post [] (put ρ dst v) d2 (L2 ++ B)) : ylMid P Q dst f args post ρ d L :=
  ⟨l, A, B, R, ef, hL, ea ▸ hy, k⟩
theorem x_send {dst : Option Nat} {ch x : Operand} {post : GS} (i : Nat) {c cap : Nat} {buf : List Value} {s r : Nat} {tm : Bool} {v : Value} (ec : ev ρ ch = .chan (some c)) (hi : L[i]? = some (sg c (.chan cap buf.toArray false s r tm))) (hroom : buf.length < cap) (ex : ev ρ x = v)
    (k : gws P Q.pan Q.n post [] (put ρ dst undef) d (L.set i (sg c (.chan cap (buf ++ [v]).toArray false (s + 1) r tm)))) : sndMid P Q dst ch x post ρ d L :=
  ⟨i, c, cap, buf, s, r, tm, ec, hi, hroom, ex ▸ k⟩
theorem x_selSome {dst : Option Nat} {ch : Operand} {z : Value} {post : GS} (i : Nat) {c cap : Nat} {v : Value} {buf : List Value} {s r : Nat} {tm : Bool} (ec : ev ρ ch = .chan (some c)) (hi : L[i]? = some (sg c (.chan cap (v :: buf).toArray false s r tm)))
    (k : gws P Q.pan Q.n post [] (put ρ dst (.tuple #[.int .i64 0, .bool true, v])) d (L.set i (sg c (.chan cap buf.toArray false s (r + 1) tm)))) : selMid P Q dst ch z post ρ d L :=
  ⟨i, c, cap, v :: buf, s, r, tm, ec, hi, fun v' rest e => by cases e; exact k, fun e => by cases e⟩
theorem x_selNone {dst : Option Nat} {ch : Operand} {z : Value} {post : GS} (i : Nat) {c cap : Nat} {s r : Nat} {tm : Bool} (ec : ev ρ ch = .chan (some c)) (hi : L[i]? = some (sg c (.chan cap #[] false s r tm)))
    (k : gws P Q.pan Q.n post [] (put ρ dst (.tuple #[.int .i64 (-1), .bool false, z])) d L) : selMid P Q dst ch z post ρ d L :=
  ⟨i, c, cap, [], s, r, tm, ec, hi, (fun v' rest e => by cases e), fun _ => k⟩
end
end Go.Gk
end

section
namespace Go.Gk
open Go
section
variable {P : Program} {pan : List PanicEntry → Post} {Qn : Env → Post} {Ls L : List PHeap} {ρ : Env} {d : PHeap} {s : GS} {t : Nat} {tk : Bool}
theorem w_eqc {neg : Bool} {offs : List (Nat × Nat)} {x y : Operand} {xs ys : Array Value} (r : Bool) (ex : ev ρ x = .agg xs) (ey : ev ρ y = .agg ys) (h : eqCs xs ys offs = some r) (k : gws P pan Qn s Ls (upd ρ t (.bool (neg ^^ r))) d L) :
    gws P pan Qn (.op tk ⟨some t, none, .eqc neg offs x y⟩ s) Ls ρ d L := w_q rfl ⟨xs, ys, r, ex, ey, h, rfl⟩ k
theorem w_ldp {x : Operand} {n b o : Nat} {T : TypeId} {l : List Value} (i : Nat) (e : ev ρ x = .pointer (some ⟨b, o, none⟩)) (hi : (lk tk Ls L)[i]? = some (bx b T l)) (hn : Nat.ble (o + n) l.length = true)
    (h : gws P pan Qn s Ls (upd ρ t (.agg ((l.drop o).take n).toArray)) d L) : gws P pan Qn (.op tk ⟨some t, none, .ld (some n) x⟩ s) Ls ρ d L := by
  have hn := Nat.le_of_ble_eq_true hn
  refine w_q rfl ⟨b, o, (l.drop o).take n, e, by simp; omega, fun j u hu => hc_i i hi ?_, rfl⟩ h
  rw [List.getElem?_take] at hu
  split at hu
  · rw [List.getElem?_drop] at hu; exact hu
  · cases hu
theorem w_lddp {x : Operand} {n b o j : Nat} {l : List Value} (e : ev ρ x = .pointer (some ⟨b, o + j, none⟩)) (hd : DCs d b o l) (hn : Nat.ble (j + n) l.length = true)
    (h : gws P pan Qn s Ls (upd ρ t (.agg ((l.drop j).take n).toArray)) d L) : gws P pan Qn (.op tk ⟨some t, none, .ld (some n) x⟩ s) Ls ρ d L := by
  have hn := Nat.le_of_ble_eq_true hn
  refine w_q rfl ⟨b, o + j, (l.drop j).take n, e, by simp; omega, fun i u hu => ?_, rfl⟩ h
  rw [List.getElem?_take] at hu
  split at hu
  · rw [List.getElem?_drop] at hu
    rw [Nat.add_assoc]; exact hc_ds hd hu
  · cases hu
theorem wrapu_eq (a : Int) : IntKind.u64.wrap a = a % 18446744073709551616 := by simp [IntKind.wrap, IntKind.signed, IntKind.bits]
theorem w_cviu {x : Operand} {j : IntKind} {a : Int} (ex : ev ρ x = .int j a) (h : gws P pan Qn s Ls (upd ρ t (.int .u64 (a % 18446744073709551616))) d L) : gws P pan Qn (.op tk ⟨some t, none, .cvi .u64 x⟩ s) Ls ρ d L :=
  w_cvi ex (by rw [wrapu_eq]; exact h)
theorem w_negu {x : Operand} {a : Int} (ex : ev ρ x = .int .u64 a) (h : gws P pan Qn s Ls (upd ρ t (.int .u64 ((0 - a) % 18446744073709551616))) d L) : gws P pan Qn (.op tk ⟨some t, none, .un .neg x⟩ s) Ls ρ d L :=
  w_q rfl (by simp only [evq, unV, ex, wrapu_eq]) h
theorem w_remT {x y : Operand} {k : IntKind} {a b : Int} (ex : ev ρ x = .int k a) (ey : ev ρ y = .int k b) (h2 : b ≠ 0) (h : gws P pan Qn s Ls (upd ρ t (.int k (a.tmod b))) d L) : gws P pan Qn (.op tk ⟨some t, none, .bin .rem x y⟩ s) Ls ρ d L :=
  w_bin (by rw [ex, ey]; simp [binV, h2]) h
theorem w_slsTo {x y : Operand} {l : List UInt8} {kk : IntKind} {j : Int} {n : Nat} (ex : ev ρ x = strV l) (ey : ev ρ y = .int kk j) (hj : j = (n : Int)) (hn : n ≤ l.length) (h : gws P pan Qn s Ls (upd ρ t (strV (l.take n))) d L) :
    gws P pan Qn (.op tk ⟨some t, none, .sls x none (some y)⟩ s) Ls ρ d L := by
  subst hj
  refine w_q rfl ⟨l, 0, n, l.length, ex, ?_, rfl⟩ (by simpa using h)
  simp only [cutV, cutM, cutH, cutL, Option.bind_some, Option.map_some, Option.map_none, ey, bnd]
  rw [if_pos (by omega)]; simp
theorem w_slsFrom {x y : Operand} {l : List UInt8} {kk : IntKind} {j : Int} {n : Nat} (ex : ev ρ x = strV l) (ey : ev ρ y = .int kk j) (hj : j = (n : Int)) (hn : n ≤ l.length) (h : gws P pan Qn s Ls (upd ρ t (strV (l.drop n))) d L) :
    gws P pan Qn (.op tk ⟨some t, none, .sls x (some y) none⟩ s) Ls ρ d L := by
  subst hj
  refine w_q rfl ⟨l, n, l.length, l.length, ex, ?_, rfl⟩ (by rw [List.take_of_length_le (by simp)]; exact h)
  simp only [cutV, cutM, cutH, cutL, Option.isSome_none, Bool.false_eq_true, if_false, Option.bind_some, Option.map_some, Option.map_none, ey, bnd]
  rw [if_pos (by omega)]; simp
theorem w_slsMid {x y z : Operand} {l : List UInt8} {kk kk' : IntKind} {j j' : Int} {n m : Nat} (ex : ev ρ x = strV l) (ey : ev ρ y = .int kk j) (ez : ev ρ z = .int kk' j') (hj : j = (n : Int)) (hj' : j' = (m : Int)) (hnm : n ≤ m) (hn : m ≤ l.length)
    (h : gws P pan Qn s Ls (upd ρ t (strV ((l.drop n).take (m - n)))) d L) : gws P pan Qn (.op tk ⟨some t, none, .sls x (some y) (some z)⟩ s) Ls ρ d L := by
  subst hj; subst hj'
  refine w_q rfl ⟨l, n, m, l.length, ex, ?_, rfl⟩ h
  simp only [cutV, cutM, cutH, cutL, Option.bind_some, Option.map_some, ey, ez, bnd]
  rw [if_pos (by omega)]
  simp only [Option.bind_some, Int.toNat_natCast]
  rw [if_pos (by omega)]; simp
theorem w_bs1 {z : Value} {x0 : Operand} {v0 : Value} (e0 : ev ρ x0 = v0) (c0 : v0.cells = #[v0]) (h : ∀ b T, gws P pan Qn s Ls (upd ρ t (.slice (some ⟨b, 0, none⟩) 1 1)) d (bx b T [v0] :: L)) :
    gws P pan Qn (.op false ⟨some t, none, .bsl 1 1 [z] [(0, x0)]⟩ s) Ls ρ d L := by
  refine w_bsl (by omega) ?_ h
  simp [Instr.fill, zrow, List.range, List.range.loop, e0, c0]
theorem w_bs2 {z : Value} {x0 x1 : Operand} {v0 v1 : Value} (e0 : ev ρ x0 = v0) (c0 : v0.cells = #[v0]) (e1 : ev ρ x1 = v1) (c1 : v1.cells = #[v1]) (h : ∀ b T, gws P pan Qn s Ls (upd ρ t (.slice (some ⟨b, 0, none⟩) 2 2)) d (bx b T [v0, v1] :: L)) :
    gws P pan Qn (.op false ⟨some t, none, .bsl 2 1 [z] [(0, x0), (1, x1)]⟩ s) Ls ρ d L := by
  refine w_bsl (by omega) ?_ h
  simp [Instr.fill, zrow, List.range, List.range.loop, e0, c0, e1, c1]
theorem w_bs3 {z : Value} {x0 x1 x2 : Operand} {v0 v1 v2 : Value} (e0 : ev ρ x0 = v0) (c0 : v0.cells = #[v0]) (e1 : ev ρ x1 = v1) (c1 : v1.cells = #[v1]) (e2 : ev ρ x2 = v2) (c2 : v2.cells = #[v2]) (h : ∀ b T, gws P pan Qn s Ls (upd ρ t (.slice (some ⟨b, 0, none⟩) 3 3)) d (bx b T [v0, v1, v2] :: L)) :
    gws P pan Qn (.op false ⟨some t, none, .bsl 3 1 [z] [(0, x0), (1, x1), (2, x2)]⟩ s) Ls ρ d L := by
  refine w_bsl (by omega) ?_ h
  simp [Instr.fill, zrow, List.range, List.range.loop, e0, c0, e1, c1, e2, c2]
theorem w_bs4 {z : Value} {x0 x1 x2 x3 : Operand} {v0 v1 v2 v3 : Value} (e0 : ev ρ x0 = v0) (c0 : v0.cells = #[v0]) (e1 : ev ρ x1 = v1) (c1 : v1.cells = #[v1]) (e2 : ev ρ x2 = v2) (c2 : v2.cells = #[v2]) (e3 : ev ρ x3 = v3) (c3 : v3.cells = #[v3]) (h : ∀ b T, gws P pan Qn s Ls (upd ρ t (.slice (some ⟨b, 0, none⟩) 4 4)) d (bx b T [v0, v1, v2, v3] :: L)) :
    gws P pan Qn (.op false ⟨some t, none, .bsl 4 1 [z] [(0, x0), (1, x1), (2, x2), (3, x3)]⟩ s) Ls ρ d L := by
  refine w_bsl (by omega) ?_ h
  simp [Instr.fill, zrow, List.range, List.range.loop, e0, c0, e1, c1, e2, c2, e3, c3]
theorem w_quoT {x y : Operand} {a b : Int} (ex : ev ρ x = .int .i64 a) (ey : ev ρ y = .int .i64 b) (h1 : -9223372036854775808 ≤ a) (h2 : a ≤ 9223372036854775807) (h3 : 2 ≤ b) (h : gws P pan Qn s Ls (upd ρ t (.int .i64 (a.tdiv b))) d L) :
    gws P pan Qn (.op tk ⟨some t, none, .bin .quo x y⟩ s) Ls ρ d L := by
  refine w_bin ?_ h
  have h4 : ¬ b = 0 := by omega
  have h5 : (a.tdiv b).natAbs ≤ a.natAbs := by rw [Int.natAbs_tdiv]; exact Nat.div_le_self _ _
  have h6 : a = -9223372036854775808 → (a.tdiv b).natAbs ≤ 9223372036854775807 := by
    intro e
    rw [Int.natAbs_tdiv, e]
    have : 2 ≤ b.natAbs := by omega
    have e2 : (-9223372036854775808 : Int).natAbs = 9223372036854775808 := by decide
    rw [e2]
    have := Nat.div_le_div_left (a := 9223372036854775808) this (by omega)
    exact Nat.le_trans this (by decide)
  rw [ex, ey]; simp [binV, h4]; exact wrap64_eq (by omega) (by omega)
theorem w_eqc2 {neg : Bool} {x y : Operand} {k k' : IntKind} {a b a' b' : Int} (ex : ev ρ x = .agg [.int k a, .int k' b].toArray) (ey : ev ρ y = .agg [.int k a', .int k' b'].toArray) (h : gws P pan Qn s Ls (upd ρ t (.bool (neg ^^ (decide (a = a') && decide (b = b'))))) d L) :
    gws P pan Qn (.op tk ⟨some t, none, .eqc neg [(0, 0), (0, 1)] x y⟩ s) Ls ρ d L :=
  w_eqc (decide (a = a') && decide (b = b')) ex ey (by
    simp only [eqCs, eq1]
    by_cases h1 : a = a'
    · by_cases h2 : b = b' <;> simp [h1, h2]
    · simp [h1]) h
theorem w_idxa {x i : Operand} {len sz b o : Nat} {k : IntKind} {j : Int} (m : Nat) (ex : ev ρ x = .pointer (some ⟨b, o, none⟩)) (ei : ev ρ i = .int k j) (hm : j = (m : Int)) (hl : m < len) (h : gws P pan Qn s Ls (upd ρ t (.pointer (some ⟨b, o + m * sz, none⟩))) d L) :
    gws P pan Qn (.op tk ⟨some t, none, .idxa len sz x i⟩ s) Ls ρ d L := by
  subst hm
  exact w_q rfl ⟨b, o, k, m, ex, ei, by omega, by omega, rfl⟩ h
theorem w_s2r {x : Operand} {l : List UInt8} (ex : ev ρ x = strV l) (hl : (runesL l).length ≤ 140737488355328)
    (h : ∀ b T c, (runesL l).length ≤ c → c ≤ maxLen → gws P pan Qn s Ls (upd ρ t (.slice (some ⟨b, 0, none⟩) (runesL l).length c)) d (bx b T (runesL l ++ List.replicate (c - (runesL l).length) (.int .i32 0)) :: L)) :
    gws P pan Qn (.op false ⟨some t, none, .s2r x⟩ s) Ls ρ d L := ⟨d, L, Vs.refl d L, l, ex, hl, fun b T c h1 h2 => ⟨_, _, Vs.refl _ _, h b T c h1 h2⟩⟩
def RRune (_ : PHeap) (cs : List Value) (x : Int) : Prop := cs = [.int .i32 x]
theorem w_r2s {x : Operand} {v : Value} {rs : List Int} (ex : ev ρ x = v) (hr : RSl 1 RRune d v rs) (h : gws P pan Qn s Ls (upd ρ t (strV (rs.flatMap encL))) d L) : gws P pan Qn (.op tk ⟨some t, none, .r2s x⟩ s) Ls ρ d L := by
  obtain ⟨a, c, b, o, rfl, h2, h3, h4, h5, h6, h7, h8⟩ := hr
  refine w_q rfl ⟨a, rs, c, ex, fun e => ?_, fun a' ha i r hi => ?_, rfl⟩ h
  · cases rs with
    | nil => rfl
    | cons u us => have := h2 (by simp); rw [e] at this; cases this
  · obtain ⟨hlt, rfl⟩ := List.getElem?_eq_some_iff.1 hi
    have e := h2 (by omega)
    rw [ha] at e; cases e
    obtain ⟨cs, k1, k2, k3⟩ := h8 i hlt
    have k3 : cs = [.int .i32 rs[i]] := k3
    subst k3
    rw [Nat.mul_one] at k2
    rw [Addr.add_lit]
    exact hc_d k2.one
end
theorem GCall.forget {P : Program} {f : FuncId} {args : List Value} {d : PHeap} {L : List PHeap} {Q : Value → List PHeap → Prop} (h : GCall P f args d L (Ret fun r _ L' => Q r L')) : GCall P f args d L (Ret fun r d' L' => d' = d ∧ Q r L') :=
  ⟨h.1, fun F W x => (h.2 F W x).mono fun e W' ⟨d', L', a, b, c, r⟩ => ⟨d, L', a.le b, Le.refl d, c, by
    cases e with
    | returned v => exact ⟨rfl, r⟩
    | panicked c => exact r.elim
    | outgrown => exact r.elim⟩⟩
theorem GPure.of {P : Program} {f : FuncId} {args : List Value} {d : PHeap} {v : Value} (h : GCall P f args d [] (Ret fun r _ L' => r = v ∧ L' = [])) : GPure P f args d v :=
  (GCall.forget (Q := fun r L' => r = v ∧ L' = []) h).mono fun e d' L' _ r => by
    cases e with
    | returned v => exact ⟨r.2.1, r.1, r.2.2⟩
    | panicked c => exact r.elim
    | outgrown => exact r.elim
theorem GPure.of' {pr : Bool} {P : Program} {f : FuncId} {g : GFun} (hd : decG pr P f = some g) {args : List Value} (ha : args.length ≤ g.n) {d : PHeap} {v : Value} (h : gwp P g.code (mkPost g.res (Ret fun r _ L' => r = v ∧ L' = [])) (env0 args) d []) : GPure P f args d v := GPure.of (GCall_of hd ha h)
section
variable {ρ : Env} {d : PHeap} {L : List PHeap} {t u : Nat}
theorem finQ {v : Value} (e : ρ t = v) : retPost [.tmp t] (Ret fun r _ L' => r = v ∧ L' = []) ρ d L := fin1n e ⟨rfl, rfl⟩
theorem finQb {a b : Bool} (e : ρ t = .bool a) (h : a = b) : retPost [.tmp t] (Ret fun r _ L' => r = .bool b ∧ L' = []) ρ d L := fin1n e ⟨by rw [h], rfl⟩
theorem finQi {k : IntKind} {a b : Int} (e : ρ t = .int k a) (h : a = b) : retPost [.tmp t] (Ret fun r _ L' => r = .int k b ∧ L' = []) ρ d L := fin1n e ⟨by rw [h], rfl⟩
theorem finQ2 {v w : Value} (e : ρ t = v) (e' : ρ u = w) : retPost [.tmp t, .tmp u] (Ret fun r _ L' => r = .tuple #[v, w] ∧ L' = []) ρ d L := fin2n e e' ⟨rfl, rfl⟩
end
end Go.Gk
end

section
namespace Go.Gk
open Go
section
variable {P : Program} {pan : List PanicEntry → Post} {Qn : Env → Post} {Ls L : List PHeap} {ρ : Env} {d : PHeap} {s : GS} {t : Nat} {tk : Bool}
theorem w_bvZ (h : gws P pan Qn s Ls (upd ρ t (.agg [.int .i64 0, .int .i64 0, .int .i64 0, strV [], .slice none 0 0, .slice none 0 0].toArray)) d L) :
    gws P pan Qn (.op tk ⟨some t, none, .bld [(0, 1), (1, 2), (3, 1), (4, 1), (5, 1)] [.int .i64 0, .int .i64 0, .int .i64 0, strV [], .slice none 0 0, .slice none 0 0] []⟩ s) Ls ρ d L :=
  w_bld (cs := [.int .i64 0, .int .i64 0, .int .i64 0, strV [], .slice none 0 0, .slice none 0 0]) rfl h
theorem w_bvK {x : Operand} {k : IntKind} {a : Int} (ex : ev ρ x = .int k a) (h : gws P pan Qn s Ls (upd ρ t (.agg [.int k a, .int .i64 0, .int .i64 0, strV [], .slice none 0 0, .slice none 0 0].toArray)) d L) :
    gws P pan Qn (.op tk ⟨some t, none, .bld [(0, 1), (1, 2), (3, 1), (4, 1), (5, 1)] [.int .i64 0, .int .i64 0, .int .i64 0, strV [], .slice none 0 0, .slice none 0 0] [(0, x)]⟩ s) Ls ρ d L :=
  w_bld (cs := [.int k a, .int .i64 0, .int .i64 0, strV [], .slice none 0 0, .slice none 0 0]) (by simp [Instr.fill, ex, Value.cells, strV]) h
theorem w_bvKL {x y : Operand} {k : IntKind} {a : Int} {b : Option Addr} {n c : Nat} (ex : ev ρ x = .int k a) (ey : ev ρ y = .slice b n c) (h : gws P pan Qn s Ls (upd ρ t (.agg [.int k a, .int .i64 0, .int .i64 0, strV [], .slice b n c, .slice none 0 0].toArray)) d L) :
    gws P pan Qn (.op tk ⟨some t, none, .bld [(0, 1), (1, 2), (3, 1), (4, 1), (5, 1)] [.int .i64 0, .int .i64 0, .int .i64 0, strV [], .slice none 0 0, .slice none 0 0] [(0, x), (3, y)]⟩ s) Ls ρ d L :=
  w_bld (cs := [.int k a, .int .i64 0, .int .i64 0, strV [], .slice b n c, .slice none 0 0]) (by simp [Instr.fill, ex, ey, Value.cells, strV]) h
theorem w_bvL {y : Operand} {b : Option Addr} {n c : Nat} (ey : ev ρ y = .slice b n c) (h : gws P pan Qn s Ls (upd ρ t (.agg [.int .i64 0, .int .i64 0, .int .i64 0, strV [], .slice b n c, .slice none 0 0].toArray)) d L) :
    gws P pan Qn (.op tk ⟨some t, none, .bld [(0, 1), (1, 2), (3, 1), (4, 1), (5, 1)] [.int .i64 0, .int .i64 0, .int .i64 0, strV [], .slice none 0 0, .slice none 0 0] [(3, y)]⟩ s) Ls ρ d L :=
  w_bld (cs := [.int .i64 0, .int .i64 0, .int .i64 0, strV [], .slice b n c, .slice none 0 0]) (by simp [Instr.fill, ey, Value.cells, strV]) h
theorem w_bvKT {x y : Operand} {k : IntKind} {a : Int} {l : List UInt8} (ex : ev ρ x = .int k a) (ey : ev ρ y = strV l) (h : gws P pan Qn s Ls (upd ρ t (.agg [.int k a, .int .i64 0, .int .i64 0, strV l, .slice none 0 0, .slice none 0 0].toArray)) d L) :
    gws P pan Qn (.op tk ⟨some t, none, .bld [(0, 1), (1, 2), (3, 1), (4, 1), (5, 1)] [.int .i64 0, .int .i64 0, .int .i64 0, strV [], .slice none 0 0, .slice none 0 0] [(0, x), (2, y)]⟩ s) Ls ρ d L :=
  w_bld (cs := [.int k a, .int .i64 0, .int .i64 0, strV l, .slice none 0 0, .slice none 0 0]) (by simp [Instr.fill, ex, ey, Value.cells, strV]) h
theorem w_bvM {x y z : Operand} {k : IntKind} {a : Int} {b b' : Option Addr} {n c n' c' : Nat} (ex : ev ρ x = .int k a) (ey : ev ρ y = .slice b' n' c') (ez : ev ρ z = .slice b n c)
    (h : gws P pan Qn s Ls (upd ρ t (.agg [.int k a, .int .i64 0, .int .i64 0, strV [], .slice b n c, .slice b' n' c'].toArray)) d L) :
    gws P pan Qn (.op tk ⟨some t, none, .bld [(0, 1), (1, 2), (3, 1), (4, 1), (5, 1)] [.int .i64 0, .int .i64 0, .int .i64 0, strV [], .slice none 0 0, .slice none 0 0] [(0, x), (4, y), (3, z)]⟩ s) Ls ρ d L :=
  w_bld (cs := [.int k a, .int .i64 0, .int .i64 0, strV [], .slice b n c, .slice b' n' c']) (by simp [Instr.fill, ex, ey, ez, Value.cells, strV]) h
theorem w_bvC {x y z u : Operand} {k k1 k2 : IntKind} {a m e : Int} {l : List UInt8} {b : Option Addr} {n c : Nat} (ex : ev ρ x = .int k a) (ey : ev ρ y = .agg [.int k1 m, .int k2 e].toArray) (ez : ev ρ z = strV l) (eu : ev ρ u = .slice b n c)
    (h : gws P pan Qn s Ls (upd ρ t (.agg [.int k a, .int k1 m, .int k2 e, strV l, .slice none 0 0, .slice b n c].toArray)) d L) :
    gws P pan Qn (.op tk ⟨some t, none, .bld [(0, 1), (1, 2), (3, 1), (4, 1), (5, 1)] [.int .i64 0, .int .i64 0, .int .i64 0, strV [], .slice none 0 0, .slice none 0 0] [(0, x), (1, y), (2, z), (4, u)]⟩ s) Ls ρ d L :=
  w_bld (cs := [.int k a, .int k1 m, .int k2 e, strV l, .slice none 0 0, .slice b n c]) (by simp [Instr.fill, ex, ey, ez, eu, Value.cells, strV]) h
end
end Go.Gk
end

section
namespace Go.Gk
open Go
section
variable {P : Program} {pan : List PanicEntry → Post} {Qn : Env → Post} {Ls L : List PHeap} {ρ : Env} {d : PHeap} {s : GS} {t : Nat} {tk : Bool}
theorem w_bstF {y : Operand} {l : List UInt8} (ey : ev ρ y = strV l) (h : gws P pan Qn s Ls (upd ρ t (.agg [.int .i64 0, strV l, .int .i64 0, .int .i64 0, .bool false, .bool false].toArray)) d L) :
    gws P pan Qn (.op tk ⟨some t, none, .bld [(0, 1), (1, 1), (2, 1), (3, 1), (4, 1), (5, 1)] [.int .i64 0, strV [], .int .i64 0, .int .i64 0, .bool false, .bool false] [(0, .const (.int .i64 0)), (1, y)]⟩ s) Ls ρ d L :=
  w_bld (cs := [.int .i64 0, strV l, .int .i64 0, .int .i64 0, .bool false, .bool false]) (by have e0 : ev ρ (.const (.int .i64 0)) = .int .i64 0 := rfl; simp [Instr.fill, e0, ey, Value.cells, strV]) h
theorem w_bstI {y : Operand} {a : Int} (ey : ev ρ y = .int .i64 a) (h : gws P pan Qn s Ls (upd ρ t (.agg [.int .i64 1, strV [], .int .i64 a, .int .i64 0, .bool false, .bool false].toArray)) d L) :
    gws P pan Qn (.op tk ⟨some t, none, .bld [(0, 1), (1, 1), (2, 1), (3, 1), (4, 1), (5, 1)] [.int .i64 0, strV [], .int .i64 0, .int .i64 0, .bool false, .bool false] [(0, .const (.int .i64 1)), (2, y)]⟩ s) Ls ρ d L :=
  w_bld (cs := [.int .i64 1, strV [], .int .i64 a, .int .i64 0, .bool false, .bool false]) (by have e0 : ev ρ (.const (.int .i64 1)) = .int .i64 1 := rfl; simp [Instr.fill, e0, ey, Value.cells, strV]) h
end
end Go.Gk
end

section
namespace Go.Gk
open Go
section
variable {P : Program} {pan : List PanicEntry → Post} {Qn : Env → Post} {Ls L : List PHeap} {ρ : Env} {d : PHeap} {s : GS}
theorem w_appGF {α : Type} {sz by_ t : Nat} {R : PHeap → List Value → α → Prop} {z : List Value} {x y : Operand} {v w : Value} {xs ys : List α} {h : PHeap} (hR : Mono R) (ex : ev ρ x = v) (ho : GRow sz R d v xs h)
    (ey : ev ρ y = w) (hs : Src sz R d (Ls ++ (h :: L) ++ (h :: L)) w ys) (hsz : 0 < sz) (hm : xs.length + ys.length ≤ 140737488355328) (hb : (xs.length + ys.length) * by_ ≤ 140737488355328)
    (k : ∀ a c d', Le d d' → RSl sz R d' (.slice a (xs ++ ys).length c) (xs ++ ys) → gws P pan Qn s Ls (upd ρ t (.slice a (xs ++ ys).length c)) d' L) : gws P pan Qn (.op false ⟨some t, none, .app sz by_ z x y⟩ s) Ls ρ d (h :: L) := by
  obtain ⟨cs, h1, h2⟩ := ho
  obtain ⟨news, k1, k2, k3⟩ := hs
  have hl := h1.1
  refine w_appV 0 ex rfl h1 ey k1 k2 hsz hm hb (fun v' h' o => ⟨join d h', L, Vs.freeze, ?_⟩)
  have hg : GRow sz R d v' (xs ++ ys) h' := by
    refine ⟨cs ++ news, by rw [List.length_append]; exact o, fun j hj => ?_⟩
    by_cases e : j < xs.length
    · rw [chunk_app_left hl e, List.getElem_append_left e]; exact h2 j e
    · rw [chunk_app_right hl (by omega), List.getElem_append_right (by omega)]
      exact k3 _ (by simp at hj; omega)
  have hr := hg.rsl hR hsz (Le.join_left d h') (Le.join_right d h')
  obtain ⟨a, c, rfl⟩ := hr.val
  exact k a c _ (Le.join_left d h') hr
theorem w_cat2 {α : Type} {sz by_ t0 t1 t2 : Nat} {R : PHeap → List Value → α → Prop} {z : List Value} {x y : Operand} {vx vy : Value} {xs ys : List α} (hR : Mono R) (hc : Cell1 R) (hsz : 0 < sz) (_ : (t0 == t1) = false)
    (rx : RSl sz R d vx xs) (ry : RSl sz R d vy ys) (ex : ∀ u, ev (upd ρ t0 u) x = vx) (ey : ∀ u w, ev (upd (upd ρ t0 u) t1 w) y = vy) (hb : (xs.length + ys.length) * by_ ≤ 140737488355328) (hm : xs.length + ys.length ≤ 140737488355328)
    (k : ∀ v0 v1 a c d', Le d d' → RSl sz R d' (.slice a (xs ++ ys).length c) (xs ++ ys) → gws P pan Qn s Ls (upd (upd (upd ρ t0 v0) t1 v1) t2 (.slice a (xs ++ ys).length c)) d' L) :
    gws P pan Qn (.op false ⟨some t0, none, .bsl 0 sz z []⟩ (.op false ⟨some t1, none, .app sz by_ z (.tmp t0) x⟩ (.op false ⟨some t2, none, .app sz by_ z (.tmp t1) y⟩ s))) Ls ρ d L := by
  have up : ∀ (ρ : Env) (t : Nat) (v : Value), ev (upd ρ t v) (.tmp t) = v := fun ρ t v => by simp [ev, upd]
  refine w_bsl (cs := []) (by simp) (by simp [Instr.fill, zrow]) (fun b T => ?_)
  have hm1 : xs.length * by_ ≤ 140737488355328 := Nat.le_trans (Nat.mul_le_mul_right _ (by omega)) hb
  refine w_appG (R := R) 0 (up _ _ _) rfl (GRow.lit0 (R := R) (sz := sz)) (ex _) (rx.src hc hsz _) hsz (by simp; omega) (by simpa using hm1) (fun v1 h1 o1 => ?_)
  rw [List.nil_append] at o1
  exact w_appGF (R := R) hR (up _ _ _) o1 (ey _ _) (ry.src hc hsz _) hsz hm hb (fun a c d' hl hr => k _ _ a c d' hl hr)
theorem w_cat1 {α : Type} {sz by_ t0 t1 : Nat} {R : PHeap → List Value → α → Prop} {z : List Value} {x : Operand} {vx : Value} {xs : List α} (_ : Mono R) (hc : Cell1 R) (hsz : 0 < sz)
    (rx : RSl sz R d vx xs) (ex : ∀ u, ev (upd ρ t0 u) x = vx) (hb : xs.length * by_ ≤ 140737488355328) (hm : xs.length ≤ 140737488355328)
    (k : ∀ v0 v1 h1, GRow sz R d v1 xs h1 → gws P pan Qn s Ls (upd (upd ρ t0 v0) t1 v1) d (h1 :: L)) :
    gws P pan Qn (.op false ⟨some t0, none, .bsl 0 sz z []⟩ (.op false ⟨some t1, none, .app sz by_ z (.tmp t0) x⟩ s)) Ls ρ d L := by
  have up : ∀ (ρ : Env) (t : Nat) (v : Value), ev (upd ρ t v) (.tmp t) = v := fun ρ t v => by simp [ev, upd]
  refine w_bsl (cs := []) (by simp) (by simp [Instr.fill, zrow]) (fun b T => ?_)
  refine w_appG (R := R) 0 (up _ _ _) rfl (GRow.lit0 (R := R) (sz := sz)) (ex _) (rx.src hc hsz _) hsz (by simp; omega) (by simpa using hb) (fun v1 h1 o1 => ?_)
  rw [List.nil_append] at o1
  exact k _ _ _ o1
theorem w_app2 {α : Type} {sz by_ t1 t2 : Nat} {R : PHeap → List Value → α → Prop} {z : List Value} {x0 x y : Operand} {v0 vx vy : Value} {ws xs ys : List α} {h : PHeap} (hR : Mono R) (hc : Cell1 R) (hsz : 0 < sz)
    (ho : GRow sz R d v0 ws h) (rx : RSl sz R d vx xs) (ry : RSl sz R d vy ys) (e0 : ev ρ x0 = v0) (ex : ev ρ x = vx) (ey : ∀ u, ev (upd ρ t1 u) y = vy) (hb : (ws.length + xs.length + ys.length) * by_ ≤ 140737488355328) (hm : ws.length + xs.length + ys.length ≤ 140737488355328)
    (k : ∀ v1 a c d', Le d d' → RSl sz R d' (.slice a (ws ++ xs ++ ys).length c) (ws ++ xs ++ ys) → gws P pan Qn s Ls (upd (upd ρ t1 v1) t2 (.slice a (ws ++ xs ++ ys).length c)) d' L) :
    gws P pan Qn (.op false ⟨some t1, none, .app sz by_ z x0 x⟩ (.op false ⟨some t2, none, .app sz by_ z (.tmp t1) y⟩ s)) Ls ρ d (h :: L) := by
  have up : ∀ (ρ : Env) (t : Nat) (v : Value), ev (upd ρ t v) (.tmp t) = v := fun ρ t v => by simp [ev, upd]
  have hm1 : (ws.length + xs.length) * by_ ≤ 140737488355328 := Nat.le_trans (Nat.mul_le_mul_right _ (by omega)) hb
  refine w_appG (R := R) 0 e0 rfl ho ex (rx.src hc hsz _) hsz (by omega) hm1 (fun v1 h1 o1 => ?_)
  exact w_appGF (R := R) hR (up _ _ _) o1 (ey _) (ry.src hc hsz _) hsz (by rw [List.length_append]; exact hm) (by rw [List.length_append]; exact hb) (fun a c d' hl hr => k _ a c d' hl hr)
end
end Go.Gk
namespace Go.Gk
open Go
section
variable {P : Program} {pan : List PanicEntry → Post} {Qn : Env → Post} {Ls L : List PHeap} {ρ : Env} {d : PHeap} {s : GS} {t : Nat} {tk : Bool}
theorem w_addn {x y : Operand} {a b : Int} (ex : ev ρ x = .int .i64 a) (ey : ev ρ y = .int .i64 b) (h : ∀ u, (-9223372036854775808 ≤ a + b → a + b ≤ 9223372036854775807 → u = a + b) → gws P pan Qn s Ls (upd ρ t (.int .i64 u)) d L) :
    gws P pan Qn (.op tk ⟨some t, none, .bin .add x y⟩ s) Ls ρ d L :=
  w_bin (by rw [ex, ey]; simp [binV]) (h (IntKind.i64.wrap (a + b)) (fun h1 h2 => wrap64_eq h1 h2))
end
end Go.Gk
namespace Go.Gk
open Go
theorem get_patch {l vs : List Value} {o k : Nat} (h : o + vs.length ≤ l.length) : (patch l o vs)[k]? = if o ≤ k ∧ k < o + vs.length then vs[k - o]? else l[k]? := by
  unfold patch
  have hl : (l.take o).length = o := by rw [List.length_take]; omega
  by_cases h1 : k < o
  · rw [if_neg (by omega), List.append_assoc, List.getElem?_append_left (by omega), List.getElem?_take_of_lt h1]
  by_cases h2 : k < o + vs.length
  · rw [if_pos ⟨by omega, h2⟩, List.getElem?_append_left (by rw [List.length_append]; omega), List.getElem?_append_right (by omega), hl]
  · rw [if_neg (by omega), List.getElem?_append_right (by rw [List.length_append]; omega), List.getElem?_drop, List.length_append, hl]
    congr 1; omega
theorem patch_len {l vs : List Value} {o : Nat} (h : o + vs.length ≤ l.length) : (patch l o vs).length = l.length := by
  unfold patch; simp only [List.length_append, List.length_take, List.length_drop]; omega
theorem take_patch {l vs : List Value} {o n : Nat} (h : o + vs.length ≤ n) (hn : n ≤ l.length) : (patch l o vs).take n = patch (l.take n) o vs := by
  refine List.ext_getElem? fun k => ?_
  have hl : (l.take n).length = n := by rw [List.length_take]; omega
  rw [get_patch (by omega)]
  by_cases hk : k < n
  · rw [List.getElem?_take_of_lt hk, List.getElem?_take_of_lt hk, get_patch (by omega)]
  · rw [if_neg (by omega), List.getElem?_eq_none (by rw [List.length_take]; omega), List.getElem?_eq_none (by omega)]
theorem get_chunk {cs : List Value} {i sz k : Nat} : (chunk cs i sz)[k]? = if k < sz then cs[i * sz + k]? else none := by
  unfold chunk
  by_cases h : k < sz
  · rw [List.getElem?_take_of_lt h, List.getElem?_drop, if_pos h]
  · rw [if_neg h, List.getElem?_eq_none (by rw [List.length_take]; omega)]
theorem chunk_patch {cs vs : List Value} {i m sz n : Nat} (hl : cs.length = n * sz) (hv : vs.length = sz) (hm : m < n) : chunk (patch cs (m * sz) vs) i sz = if i = m then vs else chunk cs i sz := by
  have h1 : m * sz + sz ≤ n * sz := by have := Nat.mul_le_mul_right sz (show m + 1 ≤ n from hm); rwa [Nat.add_mul, Nat.one_mul] at this
  refine List.ext_getElem? fun k => ?_
  rw [get_chunk]
  by_cases e : i = m
  · subst e
    rw [if_pos rfl]
    by_cases hk : k < sz
    · rw [if_pos hk, get_patch (by omega), if_pos (by omega)]
      congr 1; omega
    · rw [if_neg hk, List.getElem?_eq_none (by omega)]
  · rw [if_neg e, get_chunk]
    by_cases hk : k < sz
    · rw [if_pos hk, if_pos hk, get_patch (by omega), if_neg]
      rintro ⟨a, b⟩
      rcases Nat.lt_or_gt_of_ne e with q | q
      · have := Nat.mul_le_mul_right sz (show i + 1 ≤ m from q); rw [Nat.add_mul, Nat.one_mul] at this; omega
      · have := Nat.mul_le_mul_right sz (show m + 1 ≤ i from q); rw [Nat.add_mul, Nat.one_mul] at this; omega
    · rw [if_neg hk, if_neg hk]
theorem w_doneF {P : Program} {pan : List PanicEntry → Post} {Qn : Env → Post} {Ls : List PHeap} {ρ : Env} {d g : PHeap} (h : ∀ d', Le d d' → Le g d' → Qn ρ d' Ls) : gws P pan Qn .done Ls ρ d [g] :=
  ⟨join d g, Ls, (Vs.perm List.perm_append_comm : Vs d (Ls ++ [g]) d ([g] ++ Ls)).trans Vs.freeze, h _ (Le.join_left _ _) (Le.join_right _ _)⟩
theorem GRow.openV {α : Type} {sz : Nat} {R : PHeap → List Value → α → Prop} {d : PHeap} {v : Value} {xs : List α} {h : PHeap} (_ : 0 < sz) (o : GRow sz R d v xs h) {m : Nat} (hm : m < xs.length) :
    ∃ b T l c, v = .slice (some ⟨b, 0, none⟩) xs.length c ∧ h = bx b T l ∧ m * sz + sz ≤ l.length ∧ ∀ cs' x, cs'.length = sz → R d cs' x → GRow sz R d v (xs.set m x) (bx b T (patch l (m * sz) cs')) := by
  obtain ⟨cs, ⟨h1, h2, ⟨rfl, h0, rfl⟩ | ⟨b, T, l, c, rfl, rfl, h3, h4, h5, h6⟩⟩, hr⟩ := o
  · omega
  · have hmz : m * sz + sz ≤ xs.length * sz := by have := Nat.mul_le_mul_right sz (show m + 1 ≤ xs.length from hm); rwa [Nat.add_mul, Nat.one_mul] at this
    have hcz : xs.length * sz ≤ c * sz := Nat.mul_le_mul_right sz h3
    refine ⟨b, T, l, c, rfl, rfl, by omega, fun cs' x hl hx => ⟨patch cs (m * sz) cs', ?_, fun i hi => ?_⟩⟩
    · have hp : (patch cs (m * sz) cs').length = cs.length := patch_len (by omega)
      refine ⟨by rw [hp, List.length_set, h1], by rw [List.length_set]; exact h2, .inr ⟨b, T, _, c, by rw [List.length_set], rfl, by rw [List.length_set]; exact h3, h4, by rw [patch_len (by omega)]; exact h5, ?_⟩⟩
      rw [hp, take_patch (by omega) (by omega), h6]
    · rw [chunk_patch h1 hl hm]
      rw [List.length_set] at hi
      by_cases e : i = m
      · subst e
        rw [if_pos rfl, List.getElem_set_self]; exact hx
      · rw [if_neg e, List.getElem_set_ne (fun q => e q.symm)]; exact hr i hi
end Go.Gk
end

section
namespace Go.Gk
open Go
section
variable {P : Program} {pan : List PanicEntry → Post} {Qn : Env → Post} {Ls L : List PHeap} {ρ : Env} {d : PHeap} {s : GS} {t : Nat} {tk : Bool}
theorem ev_upd {ρ : Env} {t : Nat} {v : Value} : ev (upd ρ t v) (.tmp t) = v := by simp [ev, upd]
theorem w_push {t1 t2 : Nat} {z : List Value} {x y : Operand} {b : UInt8} {v : Value} {xs : List UInt8} {h : PHeap} {zb : Value} (ex : ev ρ x = byteV b) (ho : GRow 1 RByte d v xs h) (ey : ∀ u, ev (upd ρ t1 u) y = v) (hm : xs.length + 1 ≤ 140737488355328)
    (k : ∀ u v' h', GRow 1 RByte d v' (xs ++ [b]) h' → gws P pan Qn s Ls (upd (upd ρ t1 u) t2 v') d (h' :: L)) :
    gws P pan Qn (.op false ⟨some t1, none, .bsl 1 1 [zb] [(0, x)]⟩ (.op false ⟨some t2, none, .app 1 1 z y (.tmp t1)⟩ s)) Ls ρ d (h :: L) := by
  refine w_bs1 (v0 := byteV b) ex rfl (fun q T => ?_)
  exact w_appL (R := RByte) 0 (ey _) rfl ho ev_upd (GRow.litB (l := [b]) rfl rfl (by simp)) cell1_byte (by omega) (by simpa using hm) (by simpa using hm) (fun v' h' o => k _ v' h' o)
theorem w_push2 {t1 t2 : Nat} {z : List Value} {x x' y : Operand} {b b' : UInt8} {v : Value} {xs : List UInt8} {h : PHeap} {zb : Value} (ex : ev ρ x = byteV b) (ex' : ev ρ x' = byteV b') (ho : GRow 1 RByte d v xs h) (ey : ∀ u, ev (upd ρ t1 u) y = v) (hm : xs.length + 2 ≤ 140737488355328)
    (k : ∀ u v' h', GRow 1 RByte d v' (xs ++ [b, b']) h' → gws P pan Qn s Ls (upd (upd ρ t1 u) t2 v') d (h' :: L)) :
    gws P pan Qn (.op false ⟨some t1, none, .bsl 2 1 [zb] [(0, x), (1, x')]⟩ (.op false ⟨some t2, none, .app 1 1 z y (.tmp t1)⟩ s)) Ls ρ d (h :: L) := by
  refine w_bs2 (v0 := byteV b) (v1 := byteV b') ex rfl ex' rfl (fun q T => ?_)
  exact w_appL (R := RByte) 0 (ey _) rfl ho ev_upd (GRow.litB (l := [b, b']) rfl rfl (by simp)) cell1_byte (by omega) (by simpa using hm) (by simpa using hm) (fun v' h' o => k _ v' h' o)
theorem w_xorB {x y : Operand} {a b : UInt8} (ex : ev ρ x = byteV a) (ey : ev ρ y = byteV b) (h : gws P pan Qn s Ls (upd ρ t (byteV (a ^^^ b))) d L) : gws P pan Qn (.op tk ⟨some t, none, .bin .xor x y⟩ s) Ls ρ d L := by
  refine w_q rfl (show binV .xor (ev ρ x) (ev ρ y) = some (byteV (a ^^^ b)) from ?_) h
  rw [ex, ey]
  have h1 : ∀ a : UInt8, (BitVec.ofInt 8 (a.toNat : Int)) = a.toBitVec := fun a => by
    apply BitVec.eq_of_toNat_eq
    simp
  simp only [byteV, binV, IntKind.bits, if_true, h1]
  have h2 : ((a.toBitVec ^^^ b.toBitVec).toNat : Int) % 256 = (a.toBitVec ^^^ b.toBitVec).toNat := by
    have : (a.toBitVec ^^^ b.toBitVec).toNat < 256 := (a.toBitVec ^^^ b.toBitVec).isLt
    omega
  have e8 : (2 : Int) ^ IntKind.u8.bits = 256 := rfl
  simp [IntKind.wrap, UInt8.toNat_xor, IntKind.signed, e8]
  exact h2
theorem w_sub8 {x y : Operand} {a b : Int} (ex : ev ρ x = .int .u8 a) (ey : ev ρ y = .int .u8 b) (h1 : 0 ≤ a - b) (h2 : a - b ≤ 255)
    (h : gws P pan Qn s Ls (upd ρ t (.int .u8 (a - b))) d L) : gws P pan Qn (.op tk ⟨some t, none, .bin .sub x y⟩ s) Ls ρ d L :=
  w_bin (by
    have e : IntKind.u8.wrap (a - b) = a - b := by simp [IntKind.wrap, IntKind.signed, IntKind.bits]; omega
    rw [ex, ey]; simp [binV, e]) h
theorem w_bnum2 {x y : Operand} {a b : Int} (ex : ev ρ x = .int .i64 a) (ey : ev ρ y = .int .i64 b) (h : gws P pan Qn s Ls (upd ρ t (.agg [.int .i64 a, .int .i64 b].toArray)) d L) :
    gws P pan Qn (.op tk ⟨some t, none, .bld [(0, 1), (1, 1)] [.int .i64 0, .int .i64 0] [(0, x), (1, y)]⟩ s) Ls ρ d L :=
  w_bld (cs := [.int .i64 a, .int .i64 b]) (by simp [Instr.fill, ex, ey, Value.cells]) h
theorem w_pan {x : Operand} {T : TypeId} {v : Value} (ex : ev ρ x = .iface T v) (h : pan [{ v := .iface T v, recovered := false }] d (Ls ++ L)) : gws P pan Qn (.op false ⟨none, none, .pan x⟩ s) Ls ρ d L :=
  ⟨d, L, Vs.refl d L, T, v, ex, h⟩
theorem w_cut {Q : GPost} {c : GCode} (M : Env → Post) (h : gwp P c { Q with n := M } ρ d L) (k : ∀ ρ d L, M ρ d L → Q.n ρ d L) : gwp P c Q ρ d L :=
  gwp_mono' c h k (fun _ _ _ _ h => h) (fun _ _ _ h => h) rfl
theorem w_callE {f : FuncId} {args : List Operand} {R : Ending → PHeap → List PHeap → Prop} {vs : List Value} {A B : List PHeap} (hL : L = A ++ B) (ea : args.map (ev ρ) = vs) (hc : GCall P f vs d A R) (ho : ∀ d' L', ¬ R .outgrown d' L')
    (h : ∀ v d' L', Le d d' → R (.returned v) d' L' → gws P pan Qn s Ls (upd ρ t v) d' (L' ++ B)) (hp : ∀ c d' L', Le d d' → R (.panicked c) d' L' → pan c d' (Ls ++ (L' ++ B))) : gws P pan Qn (.op false ⟨some t, none, .call f args⟩ s) Ls ρ d L := by
  subst hL
  refine ⟨d, A ++ B, Vs.refl d _, A, B, R, rfl, by rw [ea]; exact hc, fun e d' L' hl hr => ?_⟩
  cases e with
  | returned v => exact ⟨_, _, Vs.refl _ _, h v d' L' hl hr⟩
  | panicked c => exact hp c d' L' hl hr
  | outgrown => exact (ho _ _ hr).elim
end
end Go.Gk
end

section
namespace Go.Gk
open Go
theorem wrap64_range (a : Int) : -9223372036854775808 ≤ IntKind.i64.wrap a ∧ IntKind.i64.wrap a ≤ 9223372036854775807 := by
  simp [IntKind.wrap, IntKind.signed, IntKind.bits]; omega
section
variable {P : Program} {pan : List PanicEntry → Post} {Qn : Env → Post} {Ls L : List PHeap} {ρ : Env} {d : PHeap} {s : GS} {t : Nat} {tk : Bool}
theorem w_addW {x y : Operand} {a b : Int} (ex : ev ρ x = .int .i64 a) (ey : ev ρ y = .int .i64 b) (h : ∀ u, -9223372036854775808 ≤ u → u ≤ 9223372036854775807 → (-9223372036854775808 ≤ a + b → a + b ≤ 9223372036854775807 → u = a + b) → gws P pan Qn s Ls (upd ρ t (.int .i64 u)) d L) :
    gws P pan Qn (.op tk ⟨some t, none, .bin .add x y⟩ s) Ls ρ d L :=
  w_bin (by rw [ex, ey]; simp [binV]) (h (IntKind.i64.wrap (a + b)) (wrap64_range _).1 (wrap64_range _).2 (fun h1 h2 => wrap64_eq h1 h2))
theorem w_subW {x y : Operand} {a b : Int} (ex : ev ρ x = .int .i64 a) (ey : ev ρ y = .int .i64 b) (h : ∀ u, -9223372036854775808 ≤ u → u ≤ 9223372036854775807 → (-9223372036854775808 ≤ a - b → a - b ≤ 9223372036854775807 → u = a - b) → gws P pan Qn s Ls (upd ρ t (.int .i64 u)) d L) :
    gws P pan Qn (.op tk ⟨some t, none, .bin .sub x y⟩ s) Ls ρ d L :=
  w_bin (by rw [ex, ey]; simp [binV]) (h (IntKind.i64.wrap (a - b)) (wrap64_range _).1 (wrap64_range _).2 (fun h1 h2 => wrap64_eq h1 h2))
theorem w_mulW {x y : Operand} {a b : Int} (ex : ev ρ x = .int .i64 a) (ey : ev ρ y = .int .i64 b) (h : ∀ u, -9223372036854775808 ≤ u → u ≤ 9223372036854775807 → (-9223372036854775808 ≤ a * b → a * b ≤ 9223372036854775807 → u = a * b) → gws P pan Qn s Ls (upd ρ t (.int .i64 u)) d L) :
    gws P pan Qn (.op tk ⟨some t, none, .bin .mul x y⟩ s) Ls ρ d L :=
  w_bin (by rw [ex, ey]; simp [binV]) (h (IntKind.i64.wrap (a * b)) (wrap64_range _).1 (wrap64_range _).2 (fun h1 h2 => wrap64_eq h1 h2))
theorem w_negW {x : Operand} {a : Int} (ex : ev ρ x = .int .i64 a) (h : ∀ u, -9223372036854775808 ≤ u → u ≤ 9223372036854775807 → (-9223372036854775808 ≤ -a → -a ≤ 9223372036854775807 → u = -a) → gws P pan Qn s Ls (upd ρ t (.int .i64 u)) d L) :
    gws P pan Qn (.op tk ⟨some t, none, .un .neg x⟩ s) Ls ρ d L :=
  w_q rfl (by simp only [evq, unV, ex, Int.zero_sub]) (h (IntKind.i64.wrap (-a)) (wrap64_range _).1 (wrap64_range _).2 (fun h1 h2 => wrap64_eq h1 h2))
end
end Go.Gk
end

section
namespace Go.Gk
open Go

section
variable {κ ν : Type} (kE : κ → Value) (vE : ν → Value)
def ents (ms : List (κ × ν × Nat)) : List MapEntry := ms.map fun p => ⟨kE p.1, vE p.2.1, p.2.2⟩
def mp (b : Nat) (ms : List (κ × ν × Nat)) (c : Nat) : PHeap := sg b (.map (ents kE vE ms).toArray c)
end
section
variable {κ ν : Type} [DecidableEq κ]
def mIx (k : κ) : List (κ × ν × Nat) → Nat → Option (Nat × ν)
  | [], _ => none
  | p :: ms, i => if k = p.1 then some (i, p.2.1) else mIx k ms (i + 1)
def mGet (k : κ) : List (κ × ν × Nat) → Option ν
  | [] => none
  | p :: ms => if k = p.1 then some p.2.1 else mGet k ms
def mPut (k : κ) (v : ν) (c : Nat) : List (κ × ν × Nat) → List (κ × ν × Nat)
  | [] => [(k, v, c)]
  | p :: ms => if k = p.1 then (p.1, v, p.2.2) :: ms else p :: mPut k v c ms
def mClk (k : κ) (c : Nat) (ms : List (κ × ν × Nat)) : Nat := if (mGet k ms).isSome then c else c + 1
def mDel (k : κ) : List (κ × ν × Nat) → List (κ × ν × Nat)
  | [] => []
  | p :: ms => if k = p.1 then ms else p :: mDel k ms
def KeyE (kd : Nat) (kE : κ → Value) : Prop := ∀ a b, eq1 kd (kE a) (kE b) = some (decide (a = b))
theorem findK_ents {kd : Nat} {kE : κ → Value} {vE : ν → Value} (hk : KeyE kd kE) (k : κ) : ∀ (ms : List (κ × ν × Nat)) (i : Nat), findK kd (kE k) (ents kE vE ms) i = some ((mIx k ms i).map fun p => (p.1, vE p.2))
  | [], i => rfl
  | p :: ms, i => by
    have ih := findK_ents (vE := vE) hk k ms (i + 1)
    have e : eq1 kd (kE k) (kE p.1) = some (decide (k = p.1)) := hk k p.1
    show findK kd (kE k) (⟨kE p.1, vE p.2.1, p.2.2⟩ :: ents kE vE ms) i = _
    rw [findK, mIx]
    simp only [e]
    by_cases h : k = p.1
    · simp only [h, decide_true, if_true]; rfl
    · simp only [h, decide_false, if_false]; exact ih
theorem mIx_get (k : κ) : ∀ (ms : List (κ × ν × Nat)) (i : Nat), (mIx k ms i).map (·.2) = mGet k ms
  | [], _ => rfl
  | p :: ms, i => by
    rw [mIx, mGet]
    by_cases h : k = p.1
    · simp [h]
    · rw [if_neg h, if_neg h]; exact mIx_get k ms (i + 1)
theorem upO_ents {kE : κ → Value} {vE : ν → Value} (k : κ) (v : ν) (c : Nat) (ms : List (κ × ν × Nat)) :
    upO (ents kE vE ms) c (kE k) (vE v) ((mIx k ms 0).map fun p => (p.1, vE p.2)) = .map (ents kE vE (mPut k v c ms)).toArray (mClk k c ms) := by
  have key : ∀ (ms : List (κ × ν × Nat)) (i : Nat), (∀ j u, mIx k ms i = some (j, u) → i ≤ j ∧ (ents kE vE ms).modify (j - i) (fun e : MapEntry => { e with val := vE v }) = ents kE vE (mPut k v c ms)) ∧
      (mIx k ms i = none → ents kE vE ms ++ [(⟨kE k, vE v, c⟩ : MapEntry)] = ents kE vE (mPut k v c ms)) := by
    intro ms
    induction ms with
    | nil => intro i; exact ⟨fun j u h => (by cases h), fun _ => rfl⟩
    | cons p ms ih =>
      intro i
      rw [mIx, mPut]
      by_cases h : k = p.1
      · rw [if_pos h, if_pos h]
        refine ⟨fun j u e => ?_, fun e => by cases e⟩
        cases e
        refine ⟨Nat.le_refl _, ?_⟩
        rw [Nat.sub_self]; simp [ents]
      · rw [if_neg h, if_neg h]
        obtain ⟨h1, h2⟩ := ih (i + 1)
        refine ⟨fun j u e => ?_, fun e => ?_⟩
        · obtain ⟨h3, h4⟩ := h1 j u e
          refine ⟨by omega, ?_⟩
          rw [show j - i = (j - (i + 1)) + 1 by omega]
          simp only [ents, List.map_cons, List.modify_succ_cons] at h4 ⊢
          rw [h4]
        · have := h2 e
          simp only [ents, List.map_cons, List.cons_append] at this ⊢
          rw [this]
  have hg := mIx_get k ms 0
  cases hq : mIx k ms 0 with
  | none =>
    rw [hq] at hg
    simp only [Option.map_none, upO, mClk, ← hg, Option.isSome_none, Bool.false_eq_true, if_false]
    rw [(key ms 0).2 hq]
  | some p =>
    obtain ⟨j, u⟩ := p
    rw [hq] at hg
    simp only [Option.map_some, upO, mClk, ← hg, Option.isSome_some, if_true]
    have := ((key ms 0).1 j u hq).2
    rw [Nat.sub_zero] at this
    rw [this]
theorem delO_ents {kE : κ → Value} {vE : ν → Value} (k : κ) (c : Nat) (ms : List (κ × ν × Nat)) :
    delO (ents kE vE ms) c ((mIx k ms 0).map fun p => (p.1, vE p.2)) = .map (ents kE vE (mDel k ms)).toArray c := by
  have key : ∀ (ms : List (κ × ν × Nat)) (i : Nat), (∀ j u, mIx k ms i = some (j, u) → i ≤ j ∧ (ents kE vE ms).eraseIdx (j - i) = ents kE vE (mDel k ms)) ∧ (mIx k ms i = none → mDel k ms = ms) := by
    intro ms
    induction ms with
    | nil => intro i; exact ⟨fun j u h => (by cases h), fun _ => rfl⟩
    | cons p ms ih =>
      intro i
      rw [mIx, mDel]
      by_cases h : k = p.1
      · rw [if_pos h, if_pos h]
        refine ⟨fun j u e => ?_, fun e => by cases e⟩
        cases e
        refine ⟨Nat.le_refl _, ?_⟩
        rw [Nat.sub_self]; simp [ents]
      · rw [if_neg h, if_neg h]
        obtain ⟨h1, h2⟩ := ih (i + 1)
        refine ⟨fun j u e => ?_, fun e => by rw [h2 e]⟩
        obtain ⟨h3, h4⟩ := h1 j u e
        refine ⟨by omega, ?_⟩
        rw [show j - i = (j - (i + 1)) + 1 by omega]
        simp only [ents, List.map_cons, List.eraseIdx_cons_succ] at h4 ⊢
        rw [h4]
  cases hq : mIx k ms 0 with
  | none => simp only [Option.map_none, delO]; rw [(key ms 0).2 hq]
  | some p =>
    obtain ⟨j, u⟩ := p
    have := ((key ms 0).1 j u hq).2
    rw [Nat.sub_zero] at this
    simp only [Option.map_some, delO, this]
theorem keyStr : KeyE 1 strV := fun a b => by
  show eq1 1 (.string ⟨a.toArray⟩) (.string ⟨b.toArray⟩) = _
  show some ((⟨a.toArray⟩ : ByteArray) == ⟨b.toArray⟩) = _
  have h : ((⟨a.toArray⟩ : ByteArray) == ⟨b.toArray⟩) = (a.toArray == b.toArray) := rfl
  rw [h]
  congr 1
  by_cases e : a = b
  · subst e; simp
  · have : a.toArray ≠ b.toArray := fun h => e (by simpa using h)
    simp [e]
theorem keyInt : KeyE 0 (fun i : Int => Value.int .i64 i) := fun a b => by
  show some (a == b) = _
  by_cases e : a = b <;> simp [e]
end

section
variable {κ ν : Type} {kE : κ → Value} {vE : ν → Value}
variable {P : Program} {pan : List PanicEntry → Post} {Qn : Env → Post} {Ls L : List PHeap} {ρ : Env} {d : PHeap} {s : GS} {t : Nat}
theorem w_mmk (kE : κ → Value) (vE : ν → Value) (h : ∀ b, gws P pan Qn s Ls (upd ρ t (.map (some b))) d (mp kE vE b [] 0 :: L)) : gws P pan Qn (.op false ⟨some t, none, .mop .mk⟩ s) Ls ρ d L :=
  ⟨d, L, Vs.refl d L, fun b => ⟨_, _, Vs.refl _ _, h b⟩⟩
theorem w_mup [DecidableEq κ] {kd : Nat} {x y z : Operand} {b c : Nat} {ms : List (κ × ν × Nat)} {k : κ} {v : ν} (hk : KeyE kd kE) (i : Nat) (hi : L[i]? = some (mp kE vE b ms c)) (ex : ev ρ x = .map (some b)) (ey : ev ρ y = kE k) (ez : ev ρ z = vE v)
    (h : gws P pan Qn s Ls ρ d (L.set i (mp kE vE b (mPut k v c ms) (mClk k c ms)))) : gws P pan Qn (.op false ⟨none, none, .mop (.up kd x y z)⟩ s) Ls ρ d L :=
  ⟨d, L, Vs.refl d L, i, b, ents kE vE ms, c, _, hi, ex, by rw [ey]; exact findK_ents hk k ms 0, _, _, Vs.refl _ _, by rw [ey, ez, upO_ents]; exact h⟩
theorem w_mdl [DecidableEq κ] {kd : Nat} {x y : Operand} {b c : Nat} {ms : List (κ × ν × Nat)} {k : κ} {t : Option Nat} (hk : KeyE kd kE) (i : Nat) (hi : L[i]? = some (mp kE vE b ms c)) (ex : ev ρ x = .map (some b)) (ey : ev ρ y = kE k)
    (h : gws P pan Qn s Ls (put ρ t (.tuple #[])) d (L.set i (mp kE vE b (mDel k ms) c))) : gws P pan Qn (.op false ⟨t, none, .mop (.del kd x y)⟩ s) Ls ρ d L :=
  ⟨d, L, Vs.refl d L, i, b, ents kE vE ms, c, _, hi, ex, by rw [ey]; exact findK_ents hk k ms 0, _, _, Vs.refl _ _, by rw [delO_ents]; exact h⟩
theorem w_mcl {x : Operand} {b c : Nat} {ms : List (κ × ν × Nat)} {t : Option Nat} (i : Nat) (hi : L[i]? = some (mp kE vE b ms c)) (ex : ev ρ x = .map (some b))
    (h : gws P pan Qn s Ls (put ρ t (.tuple #[])) d (L.set i (mp kE vE b [] c))) : gws P pan Qn (.op false ⟨t, none, .mop (.clr x)⟩ s) Ls ρ d L :=
  ⟨d, L, Vs.refl d L, i, b, (ents kE vE ms).toArray, c, hi, ex, _, _, Vs.refl _ _, h⟩
theorem mapAt_mp {b c i : Nat} {ms : List (κ × ν × Nat)} (hi : (Ls ++ L)[i]? = some (mp kE vE b ms c)) : mapAt d ((Ls ++ L) ++ L) (.map (some b)) (ents kE vE ms) :=
  .inr ⟨b, c, rfl, _, .inr (List.mem_append_left _ (List.mem_of_getElem? hi)), sg_self _ _⟩
theorem w_mlk [DecidableEq κ] {kd : Nat} {z : Value} {x y : Operand} {b c : Nat} {ms : List (κ × ν × Nat)} {k : κ} {v : ν} (hk : KeyE kd kE) (i : Nat) (hi : (Ls ++ L)[i]? = some (mp kE vE b ms c)) (ex : ev ρ x = .map (some b)) (ey : ev ρ y = kE k) (hg : mGet k ms = some v)
    (h : gws P pan Qn s Ls (upd ρ t (vE v)) d L) : gws P pan Qn (.op false ⟨some t, none, .mop (.lk kd z false x y)⟩ s) Ls ρ d L := by
  refine ⟨d, L, Vs.refl d L, ents kE vE ms, _, by rw [ex]; exact mapAt_mp hi, by rw [ey]; exact findK_ents hk k ms 0, _, _, Vs.refl _ _, ?_⟩
  have := mIx_get k ms 0
  rw [hg] at this
  cases hq : mIx k ms 0 with
  | none => rw [hq] at this; cases this
  | some p => rw [hq] at this; simp at this; subst this; exact h
theorem w_mlk0 [DecidableEq κ] {kd : Nat} {z : Value} {x y : Operand} {b c : Nat} {ms : List (κ × ν × Nat)} {k : κ} (hk : KeyE kd kE) (i : Nat) (hi : (Ls ++ L)[i]? = some (mp kE vE b ms c)) (ex : ev ρ x = .map (some b)) (ey : ev ρ y = kE k) (hg : mGet k ms = none)
    (h : gws P pan Qn s Ls (upd ρ t z) d L) : gws P pan Qn (.op false ⟨some t, none, .mop (.lk kd z false x y)⟩ s) Ls ρ d L := by
  refine ⟨d, L, Vs.refl d L, ents kE vE ms, _, by rw [ex]; exact mapAt_mp hi, by rw [ey]; exact findK_ents hk k ms 0, _, _, Vs.refl _ _, ?_⟩
  have := mIx_get k ms 0
  rw [hg] at this
  cases hq : mIx k ms 0 with
  | none => exact h
  | some p => rw [hq] at this; cases this
def mit (q b n : Nat) (seen : List Nat) : PHeap := sg q (.mapIter (some b) n seen.toArray n)
theorem w_rng {x : Operand} {b c : Nat} {ms : List (κ × ν × Nat)} (kE : κ → Value) (vE : ν → Value) (i : Nat) (hi : (Ls ++ L)[i]? = some (mp kE vE b ms c)) (ex : ev ρ x = .map (some b))
    (h : ∀ q, gws P pan Qn s Ls (upd ρ t (.pointer (some ⟨q, 0, none⟩))) d (mit q b c [] :: L)) : gws P pan Qn (.op false ⟨some t, none, .mop (.rng x)⟩ s) Ls ρ d L :=
  ⟨d, L, Vs.refl d L, b, (ents kE vE ms).toArray, c, ex, ⟨_, .inr (List.mem_append_left _ (List.mem_of_getElem? hi)), sg_self _ _⟩, fun q => ⟨_, _, Vs.refl _ _, h q⟩⟩
theorem w_nxt {x : Operand} {q b c : Nat} {ms : List (κ × ν × Nat)} {seen : List Nat} (kE : κ → Value) (vE : ν → Value) (j : Nat) (hj : L[j]? = some (mit q b c seen)) (i : Nat) (hi : (Ls ++ L)[i]? = some (mp kE vE b ms c)) (ex : ev ρ x = .pointer (some ⟨q, 0, none⟩))
    (hs : ∀ p ∈ ms, p.2.2 < c) (h0 : seen ≠ [] → ms ≠ [])
    (h1 : ∀ p ∈ ms, p.2.2 ∉ seen → gws P pan Qn s Ls (upd ρ t (.tuple #[.bool true, kE p.1, vE p.2.1])) d (L.set j (mit q b c (seen ++ [p.2.2]))))
    (h2 : (∀ p ∈ ms, p.2.2 ∈ seen) → gws P pan Qn s Ls (upd ρ t (.tuple #[.bool false])) d L) : gws P pan Qn (.op false ⟨some t, none, .mop (.nxt x)⟩ s) Ls ρ d L := by
  refine ⟨d, L, Vs.refl d L, j, q, b, c, seen.toArray, c, ents kE vE ms, c, hj, ex, ⟨_, .inr (List.mem_append_left _ (List.mem_of_getElem? hi)), sg_self _ _⟩, ?_, fun e he hb => ⟨_, _, Vs.refl _ _, ?_⟩, fun ha => ⟨_, _, Vs.refl _ _, h2 fun p hp => ?_⟩⟩
  · by_cases e : seen = []
    · subst e; exact .inl rfl
    · obtain ⟨p, hp⟩ := List.exists_mem_of_ne_nil _ (h0 e)
      exact .inr ⟨_, List.mem_map_of_mem hp, hs p hp⟩
  · obtain ⟨p, hp, rfl⟩ := List.mem_map.1 he
    have := h1 p hp (by simpa using hb)
    have e : seen.toArray.push p.2.2 = (seen ++ [p.2.2]).toArray := by simp
    simp only [mit] at this
    rw [← e] at this
    exact this
  · have := ha ⟨kE p.1, vE p.2.1, p.2.2⟩ (List.mem_map_of_mem hp) (hs p hp)
    simpa using this
theorem w_ent {x : Operand} {q b c : Nat} {ms : List (κ × ν × Nat)} {seen : List Nat} {p : κ × ν × Nat} (kE : κ → Value) (vE : ν → Value) (j : Nat) (hj : (Ls ++ L)[j]? = some (mit q b c (seen ++ [p.2.2]))) (i : Nat) (hi : (Ls ++ L)[i]? = some (mp kE vE b ms c)) (ex : ev ρ x = .pointer (some ⟨q, 0, none⟩))
    (hm : p ∈ ms) (hn : (ms.map (·.2.2)).Nodup) (h : gws P pan Qn s Ls (upd ρ t (.tuple #[kE p.1, vE p.2.1])) d L) : gws P pan Qn (.op false ⟨some t, none, .mop (.ent x)⟩ s) Ls ρ d L := by
  refine ⟨d, L, Vs.refl d L, q, b, c, (seen ++ [p.2.2]).toArray, c, p.2.2, ents kE vE ms, ⟨kE p.1, vE p.2.1, p.2.2⟩, ex, ⟨_, .inr (List.mem_append_left _ (List.mem_of_getElem? hj)), sg_self _ _⟩, by simp, ⟨_, .inr (List.mem_append_left _ (List.mem_of_getElem? hi)), sg_self _ _⟩, ?_, _, _, Vs.refl _ _, h⟩
  clear hi h
  induction ms with
  | nil => cases hm
  | cons a ms ih =>
    rw [List.map_cons, List.nodup_cons] at hn
    show List.find? _ (⟨kE a.1, vE a.2.1, a.2.2⟩ :: ents kE vE ms) = _
    rw [List.find?_cons]
    rcases List.mem_cons.1 hm with rfl | hm
    · simp
    · have hne : a.2.2 ≠ p.2.2 := fun e => hn.1 (by rw [e]; exact List.mem_map_of_mem hm)
      have : ((a.2.2 : Nat) == p.2.2) = false := by simpa using hne
      simp only [this]
      exact ih hm hn.2
end
end Go.Gk
end

section
namespace Go.Gk
open Go

def z256 : List Value := List.replicate 256 (.int .u8 0)
theorem z256_len : z256.length = 256 := List.length_replicate

theorem fillFold : ∀ (cs : List Value) (k off : Nat) (a : Array Value), off + k + cs.length ≤ a.size → (cs.zipIdx k).foldl (fun (a : Array Value) (p : Value × Nat) => a.setIfInBounds (off + p.2) p.1) a = (patch a.toList (off + k) cs).toArray
  | [], k, off, a, h => by simp [patch]
  | c :: cs, k, off, a, h => by
    simp only [List.length_cons] at h
    rw [List.zipIdx_cons, List.foldl_cons, fillFold cs (k + 1) off _ (by simp; omega)]
    congr 1
    have h1 : off + k < a.toList.length := by simp; omega
    simp only [Array.toList_setIfInBounds]
    apply List.ext_getElem?
    intro i
    rw [get_patch (by simp; omega), get_patch (by simp; omega)]
    simp only [List.length_cons]
    by_cases e : i = off + k
    · subst e
      rw [if_neg (by omega), if_pos ⟨by omega, by omega⟩, Nat.sub_self, List.getElem?_set_self h1]
      rfl
    · by_cases e2 : off + (k + 1) ≤ i ∧ i < off + (k + 1) + cs.length
      · rw [if_pos e2, if_pos ⟨by omega, by omega⟩, show i - (off + k) = (i - (off + (k + 1))) + 1 by omega, List.getElem?_cons_succ]
      · rw [if_neg e2, if_neg (by omega), List.getElem?_set_ne (by omega)]
theorem fill_cons {place : Nat → Option (Nat × Nat)} {a : List Value} {i off sz : Nat} {v : Value} {ps : List (Nat × Value)} (hp : place i = some (off, sz)) (hs : v.cells.size = sz) (ho : off + sz ≤ a.length) :
    Instr.fill place a.toArray ((i, v) :: ps) = Instr.fill place (patch a off v.cells.toList).toArray ps := by
  rw [Instr.fill]
  simp only [hp]
  rw [if_neg (by simp [hs]; omega)]
  congr 1
  have := fillFold v.cells.toList 0 off a.toArray (by simp [hs]; omega)
  rw [Nat.add_zero] at this
  have e : v.cells.zipIdx.foldl (fun cs (c, j) => cs.setIfInBounds (off + j) c) a.toArray = (v.cells.toList.zipIdx 0).foldl (fun (a : Array Value) (p : Value × Nat) => a.setIfInBounds (off + p.2) p.1) a.toArray := by
    rw [← Array.foldl_toList, Array.toList_zipIdx]
  exact e.trans this
theorem patch_all {l cs : List Value} (h : l.length = cs.length) : patch l 0 cs = cs := by simp [patch, h]
theorem oneCell_map (l : List UInt8) : ((l.map byteV).all (·.oneCell')) = true := oneCell_bytes l

section
variable {P : Program} {pan : List PanicEntry → Post} {Qn : Env → Post} {Ls L : List PHeap} {ρ : Env} {d : PHeap} {s : GS} {t : Nat} {tk : Bool}
theorem w_aloL {l : List Value} (h : ∀ b T, gws P pan Qn s Ls (upd ρ t (.pointer (some ⟨b, 0, none⟩))) d (bx b T l :: L)) :
    gws P pan Qn (.op false ⟨some t, none, .alo (.agg l.toArray)⟩ s) Ls ρ d L := w_alo h
theorem w_stA {n : Nat} {x y : Operand} {b : Nat} {T : TypeId} {l cs : List Value} (i : Nat) (hi : L[i]? = some (bx b T l)) (ex : ev ρ x = .pointer (some ⟨b, 0, none⟩)) (ey : ev ρ y = .agg cs.toArray) (hn : cs.length = n) (hl : l.length = n) (h1 : (cs.all (·.oneCell')) = true)
    (h : gws P pan Qn s Ls ρ d (L.set i (bx b T cs))) : gws P pan Qn (.op false ⟨none, none, .st n x y⟩ s) Ls ρ d L :=
  w_st (v := .agg cs.toArray) i hi ex ey (by simpa [Value.cells] using hn) (by omega) (by simpa [Value.cells] using h1) (by
    have : patch l 0 (Value.agg cs.toArray).cells.toList = cs := by simp only [Value.cells]; exact patch_all (by omega)
    rw [this]; exact h)
theorem w_stE2 {n : Nat} {x y : Operand} {b o : Nat} {T : TypeId} {l cs : List Value} (i : Nat) (hi : L[i]? = some (bx b T l)) (ex : ev ρ x = .pointer (some ⟨b, o, none⟩)) (ey : ev ρ y = .agg cs.toArray) (hn : cs.length = n) (hl : o + n ≤ l.length) (h1 : (cs.all (·.oneCell')) = true)
    (h : gws P pan Qn s Ls ρ d (L.set i (bx b T (patch l o cs)))) : gws P pan Qn (.op false ⟨none, none, .st n x y⟩ s) Ls ρ d L :=
  w_st (v := .agg cs.toArray) i hi ex ey (by simpa [Value.cells] using hn) hl (by simpa [Value.cells] using h1) h
theorem w_ldC {x : Operand} {n b o : Nat} {T : TypeId} {l : List Value} (cs : List Value) (i : Nat) (e : ev ρ x = .pointer (some ⟨b, o, none⟩)) (hi : (lk tk Ls L)[i]? = some (bx b T l)) (hn : cs.length = n) (hc : ∀ j u, cs[j]? = some u → l[o + j]? = some u)
    (h : gws P pan Qn s Ls (upd ρ t (.agg cs.toArray)) d L) : gws P pan Qn (.op tk ⟨some t, none, .ld (some n) x⟩ s) Ls ρ d L :=
  w_q rfl ⟨b, o, cs, e, hn, fun j u hu => hc_i i hi (hc j u hu), rfl⟩ h
theorem w_idxN {x i : Operand} {sz b n c : Nat} {k : IntKind} {j : Int} (m : Nat) (ex : ev ρ x = .slice (some ⟨b, 0, none⟩) n c) (ei : ev ρ i = .int k j) (hm : j = (m : Int)) (hl : m < n)
    (h : gws P pan Qn s Ls (upd ρ t (.pointer (some ⟨b, m * sz, none⟩))) d L) : gws P pan Qn (.op tk ⟨some t, none, .idx sz x i⟩ s) Ls ρ d L :=
  w_idx (o := 0) m ex ei hm hl (SAd.some n b 0) (by rw [Nat.zero_add]; exact h)
theorem w_bsl1 {sz : Nat} {z cs : List Value} {x : Operand} (ex : ev ρ x = .agg cs.toArray) (hz : z.length = sz) (hc : cs.length = sz) (hs : sz ≤ 16777216) (h : ∀ b T, gws P pan Qn s Ls (upd ρ t (.slice (some ⟨b, 0, none⟩) 1 1)) d (bx b T cs :: L)) :
    gws P pan Qn (.op false ⟨some t, none, .bsl 1 sz z [(0, x)]⟩ s) Ls ρ d L := by
  refine w_bsl (cs := cs) (by omega) ?_ h
  simp only [List.map_cons, List.map_nil, ex]
  rw [fill_cons (off := 0) (sz := sz) (by simp) (by simpa [Value.cells] using hc) (by simp [zrow])]
  rw [Instr.fill, show (Value.agg cs.toArray).cells.toList = cs from rfl, patch_all (by simp [zrow, hc])]
theorem w_bwr {x y : Operand} {k : IntKind} {a : Int} {cs : List Value} (ex : ev ρ x = .int k a) (ey : ev ρ y = .agg cs.toArray) (hc : cs.length = 256) (h : gws P pan Qn s Ls (upd ρ t (.agg (Value.int k a :: cs).toArray)) d L) :
    gws P pan Qn (.op tk ⟨some t, none, .bld [(0, 1), (1, 256)] (Value.int .i64 0 :: z256) [(0, x), (1, y)]⟩ s) Ls ρ d L := by
  refine w_bld ?_ h
  simp only [List.map_cons, List.map_nil, ex, ey]
  have e0 : patch (Value.int .i64 0 :: z256) 0 (Value.int k a).cells.toList = Value.int k a :: z256 := rfl
  have e2 : patch (Value.int k a :: z256) 1 (Value.agg cs.toArray).cells.toList = Value.int k a :: cs := by
    show List.take 1 (Value.int k a :: z256) ++ cs ++ List.drop (1 + cs.length) (Value.int k a :: z256) = _
    rw [List.drop_of_length_le (by rw [List.length_cons, z256_len]; omega), List.append_nil]
    rfl
  rw [fill_cons (off := 0) (sz := 1) rfl rfl (by rw [List.length_cons]; omega), e0, fill_cons (off := 1) (sz := 256) rfl (by simpa only [Value.cells, List.size_toArray] using hc) (by rw [List.length_cons, z256_len]; omega), e2]
  rfl
theorem w_s2ld {x : Operand} {n t1 t2 : Nat} {v : Value} {l : List UInt8} (tk2 : Bool) (ex : ev ρ x = v) (hr : RBytes d v l) (hl : l.length = n) (hn : n ≠ 0) (k : ∀ p, gws P pan Qn s Ls (upd (upd ρ t1 p) t2 (.agg (l.map byteV).toArray)) d L) :
    gws P pan Qn (.op tk ⟨some t1, none, .s2a n x⟩ (.op tk2 ⟨some t2, none, .ld (some n) (.tmp t1)⟩ s)) Ls ρ d L := by
  obtain ⟨a, c, b, o, rfl, h2, h3, h4, h5, h6, h7, h8⟩ := hr
  have ha := h2 (by omega)
  subst ha
  refine w_q (v := .pointer (some ⟨b, o, none⟩)) rfl ⟨_, _, _, ex, by omega, rfl⟩ ?_
  refine w_q rfl ⟨b, o, l.map byteV, by simp [ev, upd], by simpa using hl, fun i u hu => ?_, rfl⟩ (k _)
  rw [List.getElem?_map] at hu
  cases hi : l[i]? with
  | none => rw [hi] at hu; cases hu
  | some w =>
    rw [hi] at hu; cases hu
    obtain ⟨hi', rfl⟩ := List.getElem?_eq_some_iff.1 hi
    obtain ⟨cs, k1, k2, k3⟩ := h8 i hi'
    have k3 : cs = [byteV l[i]] := k3
    subst k3
    rw [Nat.mul_one] at k2
    exact hc_d k2.one
end
theorem GRow.at {α : Type} {sz : Nat} {R : PHeap → List Value → α → Prop} {d : PHeap} {v : Value} {xs : List α} {h : PHeap} (hsz : 0 < sz) (o : GRow sz R d v xs h) {m : Nat} (hm : m < xs.length) :
    ∃ b T l c cs, v = .slice (some ⟨b, 0, none⟩) xs.length c ∧ h = bx b T l ∧ cs.length = sz ∧ (∀ j u, cs[j]? = some u → l[m * sz + j]? = some u) ∧ m * sz + sz ≤ l.length ∧ R d cs xs[m] ∧
      ∀ cs' x, cs'.length = sz → R d cs' x → GRow sz R d v (xs.set m x) (bx b T (patch l (m * sz) cs')) := by
  obtain ⟨b, T, l, c, e1, e2, e3, e4⟩ := o.openV hsz hm
  obtain ⟨cs, ⟨h1, h2, ⟨q1, h0, q2⟩ | ⟨b', T', l', c', q1, q2, h3, h4, h5, h6⟩⟩, hr⟩ := o
  · omega
  · have hmz : m * sz + sz ≤ xs.length * sz := by have := Nat.mul_le_mul_right sz (show m + 1 ≤ xs.length from hm); rwa [Nat.add_mul, Nat.one_mul] at this
    have hbl : l'.toArray = l.toArray ∧ b' = b := by
      rw [e2] at q2
      have := (congrFun (congrFun q2 b) (.cells l.toArray T (0, 0))).mp (sg_self _ _)
      obtain ⟨z1, z2⟩ := sg_some this
      injection z2 with z3
      exact ⟨z3.symm, z1.symm⟩
    have hl' : l' = l := by simpa using hbl.1
    subst hl'
    refine ⟨b, T, l', c, chunk cs m sz, e1, e2, ?_, fun j u hu => ?_, e3, hr m hm, e4⟩
    · exact chunk_len h1 hm
    · rw [get_chunk] at hu
      split at hu
      · rename_i hj
        rw [← h6, List.getElem?_take] at hu
        split at hu
        · exact hu
        · cases hu
      · cases hu
theorem GRow.zero {α : Type} {sz : Nat} {R : PHeap → List Value → α → Prop} {d : PHeap} {b n : Nat} {T : TypeId} {z : List Value} {x : α} (hz : z.length = sz) (h0 : 0 < sz) (hx : R d z x) (hn : n ≤ 140737488355328) :
    GRow sz R d (.slice (some ⟨b, 0, none⟩) n n) (List.replicate n x) (bx b T (zrow z (n * sz))) := by
  refine GRow.lit (by simp) (by simp [zrow]) (by simpa using hn) (fun i hi => ?_)
  have hin : i < n := by simpa using hi
  have : chunk (zrow z (n * sz)) i sz = z := by
    refine List.ext_getElem? fun k => ?_
    rw [get_chunk]
    by_cases hk : k < sz
    · have h1 : (i + 1) * sz ≤ n * sz := Nat.mul_le_mul_right sz hin
      rw [Nat.add_mul, Nat.one_mul] at h1
      rw [if_pos hk, zrow, List.getElem?_map, List.getElem?_range (by omega), Option.map_some, hz, show i * sz + k = k + sz * i by rw [Nat.mul_comm]; omega, Nat.add_mul_mod_self_left, Nat.mod_eq_of_lt hk]
      rw [List.getD_eq_getElem?_getD, List.getElem?_eq_getElem (by omega)]
      simp
    · rw [if_neg hk, List.getElem?_eq_none (by omega)]
  rw [this]
  simpa using hx
theorem patch_part {l cs : List Value} {o j : Nat} {x : Value} (hc : ∀ i u, cs[i]? = some u → l[o + i]? = some u) (hj : j < cs.length) (hl : o + cs.length ≤ l.length) : patch l (o + j) [x] = patch l o (cs.set j x) := by
  refine List.ext_getElem? fun k => ?_
  rw [get_patch (by simp; omega), get_patch (by simp; omega)]
  simp only [List.length_cons, List.length_nil, List.length_set]
  by_cases h1 : o ≤ k ∧ k < o + cs.length
  · rw [if_pos h1]
    by_cases h2 : k = o + j
    · subst h2
      rw [if_pos (by omega), Nat.sub_self, show o + j - o = j by omega, List.getElem?_set_self hj]; rfl
    · rw [if_neg (by omega), List.getElem?_set_ne (by omega)]
      have := hc (k - o) cs[k - o] (List.getElem?_eq_getElem (by omega))
      rw [show o + (k - o) = k by omega] at this
      rw [this, List.getElem?_eq_getElem (by omega)]
  · rw [if_neg h1, if_neg (by omega)]
theorem GCall.reorder {P : Program} {f : FuncId} {args : List Value} {d : PHeap} {L L1 : List PHeap} {R : Ending → PHeap → List PHeap → Prop} (p : L.Perm L1) (h : GCall P f args d L1 R) : GCall P f args d L R := GCall.vs (Vs.perm p) h
end Go.Gk
namespace Go.Gk
open Go
def GRead (P : Program) (f : FuncId) (args : List Value) (d : PHeap) (L : List PHeap) (v : Value) : Prop := GCall P f args d L (Ret fun r d' L' => r = v ∧ d' = d ∧ L' = L)
section
variable {P : Program} {pan : List PanicEntry → Post} {Qn : Env → Post} {Ls L : List PHeap} {ρ : Env} {d : PHeap} {s : GS} {t : Nat}
theorem w_read {f : FuncId} {args : List Operand} {vs : List Value} {v : Value} {A B : List PHeap} (hL : L = A ++ B) (ea : args.map (ev ρ) = vs) (hc : GRead P f vs d A v) (h : gws P pan Qn s Ls (upd ρ t v) d L) :
    gws P pan Qn (.op false ⟨some t, none, .call f args⟩ s) Ls ρ d L :=
  w_callA hL ea hc (fun r d' L' _ ⟨h1, h2, h3⟩ => by subst h1; subst h2; subst h3; rw [← hL]; exact h)
theorem w_callU {f : FuncId} {args : List Operand} {R : Value → PHeap → List PHeap → Prop} {vs : List Value} {A B : List PHeap} (hL : L = A ++ B) (ea : args.map (ev ρ) = vs) (hc : GCall P f vs d A (Ret R))
    (h : ∀ v d' L', Le d d' → R v d' L' → gws P pan Qn s Ls (upd ρ t v) d' (L' ++ B)) : gws P pan Qn (.op false ⟨some t, none, .call f args⟩ s) Ls ρ d L := w_callA hL ea hc h
theorem finR {v : Value} {L1 : List PHeap} (e : ρ t = v) (hs : L1.Sublist L) : retPost [.tmp t] (Ret fun r d' L' => r = v ∧ d' = d ∧ L' = L1) ρ d L := fin1 e hs ⟨rfl, rfl, rfl⟩
theorem finR2 {u : Nat} {v w : Value} {L1 : List PHeap} (e : ρ t = v) (e' : ρ u = w) (hs : L1.Sublist L) : retPost [.tmp t, .tmp u] (Ret fun r d' L' => r = .tuple #[v, w] ∧ d' = d ∧ L' = L1) ρ d L := fin2 e e' hs ⟨rfl, rfl, rfl⟩
end
end Go.Gk
namespace Go.Gk
open Go
theorem x_rf {P : Program} {Q : GPost} {ρ : Env} {d : PHeap} {L : List PHeap} {f : Operand} {ps : List Nat} {as bd : GCode} {g : FuncId} {first cap : Array Value} (ef : ev ρ f = .func (.func g) first cap)
    (h : ∀ l rc, IsRec P ρ ps as bd rc → rc.state = .ready → rc.pending = none → GCall P g (first.toList ++ [.func (.yield l) #[] #[]] ++ cap.toList) d (sg l (.loop rc) :: L)
      (Ret fun _ d' L' => ∃ rc' L'', L' = sg l (.loop rc') :: L'' ∧ rc'.state ≠ .busy ∧ (match rc'.pending with | none => Q.n ρ d' L'' | some (.exit id) => Q.ex id ρ d' L'' | some .ret => Q.ret ρ d' L'' | _ => False))) : xwp P (.rf f ps as bd) Q ρ d L :=
  ⟨g, first, cap, ef, fun l rc h1 h2 h3 => ⟨_, h l rc h1 h2 h3, fun e d' L' _ hr => by
    cases e with
    | returned v => obtain ⟨rc', L'', k1, k2, k3⟩ := hr; exact ⟨v, rc', L'', rfl, k1, k2, k3⟩
    | panicked c => exact hr.elim
    | outgrown => exact hr.elim⟩⟩
theorem rc_same {rc : Loop} (h1 : rc.state = .ready) (h2 : rc.pending = none) : { rc with state := .ready, pending := none } = rc := by
  cases rc; simp only at h1 h2; subst h1; subst h2; rfl
end Go.Gk
namespace Go.Gk
open Go
section
variable {P : Program} {pan : List PanicEntry → Post} {Qn : Env → Post} {Ls L : List PHeap} {ρ : Env} {d : PHeap} {s : GS} {t : Nat}
theorem w_callP {f : FuncId} {args : List Operand} {R : Value → PHeap → List PHeap → Prop} {vs : List Value} {A B : List PHeap} (hp : L.Perm (A ++ B)) (ea : args.map (ev ρ) = vs) (hc : GCall P f vs d A (Ret R))
    (h : ∀ v d' L', Le d d' → R v d' L' → ∃ d2 L2, Vs d' (L' ++ B) d2 L2 ∧ gws P pan Qn s Ls (upd ρ t v) d2 L2) : gws P pan Qn (.op false ⟨some t, none, .call f args⟩ s) Ls ρ d L := by
  refine w_vs d (A ++ B) (Vs.perm hp) ⟨d, A ++ B, Vs.refl d _, A, B, Ret R, rfl, by rw [ea]; exact hc, fun e d' L' hl hr => ?_⟩
  cases e with
  | returned v => exact h v d' L' hl hr
  | panicked c => exact hr.elim
  | outgrown => exact hr
theorem w_callQ {f : FuncId} {args : List Operand} {R : Value → PHeap → List PHeap → Prop} {vs : List Value} {A B : List PHeap} (hc : GCall P f vs d A (Ret R)) (hp : L.Perm (A ++ B)) (ea : args.map (ev ρ) = vs)
    (h : ∀ v d' L', Le d d' → R v d' L' → ∃ d2 L2, Vs d' (L' ++ B) d2 L2 ∧ gws P pan Qn s Ls (upd ρ t v) d2 L2) : gws P pan Qn (.op false ⟨some t, none, .call f args⟩ s) Ls ρ d L := w_callP hp ea hc h
theorem w_callO {f : FuncId} {args : List Operand} {R : Value → PHeap → List PHeap → Prop} {vs : List Value} (hc : GCall P f vs d L (Ret R)) (ea : args.map (ev ρ) = vs)
    (h : ∀ v d' L', Le d d' → R v d' L' → gws P pan Qn s Ls (upd ρ t v) d' L') : gws P pan Qn (.op false ⟨some t, none, .call f args⟩ s) Ls ρ d L :=
  w_callA (B := []) (List.append_nil _).symm ea hc (fun v d' L' hl hr => by rw [List.append_nil]; exact h v d' L' hl hr)
theorem w_readP {f : FuncId} {args : List Operand} {vs : List Value} {v : Value} {A B : List PHeap} (hp : L.Perm (A ++ B)) (ea : args.map (ev ρ) = vs) (hc : GRead P f vs d A v) (h : gws P pan Qn s Ls (upd ρ t v) d L) :
    gws P pan Qn (.op false ⟨some t, none, .call f args⟩ s) Ls ρ d L :=
  w_callP hp ea hc (fun r d' L' _ ⟨h1, h2, h3⟩ => by subst h1; subst h2; subst h3; exact ⟨d', L, Vs.perm hp.symm, h⟩)
end
theorem patch_at {l cs : List Value} {o j : Nat} {u : Value} (hl : o + cs.length ≤ l.length) (hu : cs[j]? = some u) : (patch l o cs)[o + j]? = some u := by
  have := (List.getElem?_eq_some_iff.1 hu).1
  rw [get_patch hl, if_pos (by omega), show o + j - o = j by omega, hu]
theorem patch_patch {l cs ds : List Value} {o : Nat} (hl : o + cs.length ≤ l.length) (he : ds.length = cs.length) : patch (patch l o cs) o ds = patch l o ds := by
  refine List.ext_getElem? fun k => ?_
  rw [get_patch (l := patch l o cs) (by rw [patch_len hl]; omega), get_patch (l := l) (vs := cs) hl, get_patch (l := l) (vs := ds) (by omega)]
  by_cases h : o ≤ k ∧ k < o + ds.length
  · rw [if_pos h, if_pos h]
  · rw [if_neg h, if_neg h, if_neg (by omega)]
theorem patch_more {l cs : List Value} {o j : Nat} {x : Value} (hj : j < cs.length) (hl : o + cs.length ≤ l.length) : patch (patch l o cs) (o + j) [x] = patch l o (cs.set j x) := by
  rw [patch_part (cs := cs) (fun i u hu => patch_at hl hu) hj (by rw [patch_len hl]; exact hl), patch_patch hl (by simp)]
end Go.Gk
namespace Go.Gk
open Go
section
variable {P : Program} {pan : List PanicEntry → Post} {Qn : Env → Post} {Ls L : List PHeap} {ρ : Env} {d : PHeap} {s : GS} {t : Nat}
theorem w_mkc {by_ : Nat} {x : Operand} {k : IntKind} {n : Nat} (ex : ev ρ x = .int k (n : Nat)) (h1 : by_ * n + 112 ≤ 281474976710656) (h2 : n < 9223372036854775808)
    (h : ∀ b, gws P pan Qn s Ls (upd ρ t (.chan (some b))) d (sg b (.chan n #[] false 0 0 false) :: L)) : gws P pan Qn (.op false ⟨some t, none, .mop (.mkc by_ x)⟩ s) Ls ρ d L :=
  ⟨d, L, Vs.refl d L, by simp only [gop, gi, mi]; exact ⟨k, n, ex, h1, h2, fun b => ⟨_, _, Vs.refl _ _, h b⟩⟩⟩
end
end Go.Gk
namespace Go.Gk
open Go
section
variable {P : Program} {pan : List PanicEntry → Post} {Qn : Env → Post} {Ls L : List PHeap} {ρ : Env} {d : PHeap} {s : GS} {t : Nat}
theorem w_cpy0 {sz : Nat} {x y : Operand} {sa : Option Addr} {n c n' c' : Nat} {t : Option Nat} (ex : ev ρ x = .slice sa n c) (ey : ev ρ y = .slice none n' c') (hn : n' = 0) (h : gws P pan Qn s Ls (put ρ t (.int .i64 0)) d L) :
    gws P pan Qn (.op false ⟨t, none, .mop (.cpy sz x y)⟩ s) Ls ρ d L := by
  subst hn
  refine ⟨d, L, Vs.refl d L, ?_⟩
  simp only [gop, gi, mi]
  refine ⟨sa, n, c, none, 0, c', [], ex, ey, by simp, rfl, fun _ => rfl, (fun a h => by cases h), .inl ⟨rfl, d, L, Vs.refl d L, ?_⟩⟩
  simpa using h
end
end Go.Gk
namespace Go.Gk
open Go
section
variable {P : Program} {pan : List PanicEntry → Post} {Qn : Env → Post} {Ls L : List PHeap} {ρ : Env} {d : PHeap} {s : GS} {t : Nat} {tk : Bool}
theorem w_eqpE {neg : Bool} {x y : Operand} {a : Option Addr} (ex : ev ρ x = .pointer a) (ey : ev ρ y = .pointer a) (h : gws P pan Qn s Ls (upd ρ t (.bool (!neg))) d L) :
    gws P pan Qn (.op tk ⟨some t, none, .eqp neg x y⟩ s) Ls ρ d L := w_q rfl ⟨a, a, ex, ey, by cases a; exact .inl rfl; exact .inr (.inr rfl), by cases neg <;> simp⟩ h
theorem w_eqmS {neg : Bool} {x y : Operand} {b : Nat} (ex : ev ρ x = .map (some b)) (ey : ev ρ y = .map none) (h : gws P pan Qn s Ls (upd ρ t (.bool neg)) d L) :
    gws P pan Qn (.op tk ⟨some t, none, .eqm neg x y⟩ s) Ls ρ d L := w_q rfl ⟨some b, ex, ey, by cases neg <;> rfl⟩ h
theorem w_tas {T : TypeId} {x : Operand} {v : Value} (ex : ev ρ x = .iface T v) (h : gws P pan Qn s Ls (upd ρ t v) d L) :
    gws P pan Qn (.op tk ⟨some t, none, .tas T x⟩ s) Ls ρ d L := w_q rfl ex h
theorem w_cln {x : Operand} {T : TypeId} {b c : Nat} {es : Array MapEntry} (ex : ev ρ x = .iface T (.map (some b))) (hm : HO d (Ls ++ L ++ L) b (.map es c)) (h : ∀ q, gws P pan Qn s Ls (upd ρ t (.iface T (.map (some q)))) d (sg q (.map es c) :: L)) :
    gws P pan Qn (.op false ⟨some t, none, .mop (.cln x)⟩ s) Ls ρ d L :=
  ⟨d, L, Vs.refl d L, by simp only [gop, gi, mi]; exact ⟨T, b, es, c, ex, hm, fun q => ⟨_, _, Vs.refl _ _, h q⟩⟩⟩
end
end Go.Gk
namespace Go.Gk
open Go
theorem w_doneX {P : Program} {pan : List PanicEntry → Post} {Qn : Env → Post} {Ls L : List PHeap} {ρ : Env} {d : PHeap} (h : ∃ d1 L1, Vs d (Ls ++ L) d1 L1 ∧ Qn ρ d1 L1) : gws P pan Qn .done Ls ρ d L := h
end Go.Gk
end

section
namespace Go.Gk.Dev
open Go Go.Gk
attribute [local irreducible] gwp gws xwp

abbrev Sec := List UInt8
structure DevD where
  syn : List Sec
  opn : List (Nat × Sec)
def RSec (_ : PHeap) (cs : List Value) (x : Sec) : Prop := cs = x.map byteV ∧ x.length = 256
def RWr (_ : PHeap) (cs : List Value) (x : Nat × Sec) : Prop := cs = .int .i64 x.1 :: x.2.map byteV ∧ x.2.length = 256
theorem mono_sec : Mono RSec := fun _ h => h
theorem mono_wr : Mono RWr := fun _ h => h
theorem cell1_sec : Cell1 RSec := fun _ _ _ h => by obtain ⟨rfl, _⟩ := h; exact oneCell_bytes _
theorem cell1_wr : Cell1 RWr := fun _ _ _ h => by obtain ⟨rfl, _⟩ := h; rw [List.all_cons, oneCell_bytes]; rfl
def zsec : Sec := List.replicate 256 0
theorem rsec_z {d : PHeap} : RSec d z256 zsec := ⟨by rw [zsec, List.map_replicate]; rfl, List.length_replicate⟩
def lastW (k : Nat) : List (Nat × Sec) → Option Sec
  | [] => none
  | w :: l => match lastW k l with | some b => some b | none => if w.1 = k then some w.2 else none
def DevD.cur (D : DevD) (k : Nat) : Sec := (lastW k D.opn).getD (D.syn.getD k [])
def synced (l : List (Nat × Sec)) (s : List Sec) : List Sec := l.foldl (fun s w => s.set w.1 w.2) s
theorem synced_len (l : List (Nat × Sec)) : ∀ s, (synced l s).length = s.length := by
  induction l with
  | nil => exact fun _ => rfl
  | cons w l ih => intro s; rw [synced, List.foldl_cons]; exact (ih _).trans (List.length_set ..)
theorem synced_snoc (l : List (Nat × Sec)) (w : Nat × Sec) (s : List Sec) : synced (l ++ [w]) s = (synced l s).set w.1 w.2 := by simp [synced]

def Dv (d : PHeap) (D : DevD) (v : Value) (L : List PHeap) : Prop :=
  ∃ b T vs vo r hs ho, v = .pointer (some ⟨b, 0, none⟩) ∧ L = [bx b T [vs, vo, .int .i64 r, .int .i64 0], hs, ho] ∧ GRow 256 RSec d vs D.syn hs ∧ GRow 257 RWr d vo D.opn ho ∧ (∀ w ∈ D.opn, w.1 < D.syn.length) ∧ D.syn.length ≤ 8192
theorem Dv.mono {d d' : PHeap} {D : DevD} {v : Value} {L : List PHeap} (h : Dv d D v L) (hl : Le d d') : Dv d' D v L :=
  let ⟨b, T, vs, vo, r, hs, ho, h1, h2, h3, h4, h5, h6⟩ := h
  ⟨b, T, vs, vo, r, hs, ho, h1, h2, GRow.mono (R := RSec) mono_sec h3 hl, GRow.mono (R := RWr) mono_wr h4 hl, h5, h6⟩

def DSizeOk (P : Program) (f : FuncId) : Prop := ∀ {d : PHeap} {D : DevD} {v : Value} {L : List PHeap}, Dv d D v L → GRead P f [v] d L (.int .i64 D.syn.length)
def g_device_Device_Size : GFun :=
 ⟨10, [(.tmp 2)],
 (.seq
 (.reg false (.op false ⟨(some 2), none, (.mv (.const (.int .i64 0)))⟩ .done))
 (.seq (.seq
 (.reg false (.op false ⟨(some 3), none, (.mv (.tmp 0))⟩
  (.op false ⟨(some 4), none, (.eqp false (.tmp 3) (.const (.pointer none)))⟩ .done))) (.cond (.tmp 4)
 (.seq
 (.reg false (.op false ⟨(some 2), none, (.mv (.const (.int .i64 0)))⟩ .done)) .ret) .skip))
 (.seq
 (.reg false (.op false ⟨(some 5), none, (.mv (.tmp 0))⟩
  (.op false ⟨(some 6), none, (.nilc (.tmp 5))⟩
  (.op false ⟨(some 7), none, (.fld 0 (.tmp 6))⟩
  (.op false ⟨(some 8), none, (.ld none (.tmp 7))⟩
  (.op false ⟨(some 9), none, (.len (.tmp 8))⟩
  (.op false ⟨(some 2), none, (.mv (.tmp 9))⟩ .done))))))) .ret)))⟩

theorem dsize_ok {P : Program} {f : FuncId} (hd : dec P f = some g_device_Device_Size) : DSizeOk P f := by
  intro d D v L h
  obtain ⟨b, T, vs, vo, r, hs, ho, rfl, rfl, h3, h4, h5, h6⟩ := h
  refine GCall_of hd (Nat.le_of_ble_eq_true rfl) ?_
  show gwp P _ _ _ _ _
  (apply w_sq; apply w_reg; apply w_mvi; rfl; apply w_done0; apply w_sq; apply w_sq; apply w_reg; apply w_mvp; rfl; apply w_eqpS; rfl; rfl; apply w_done0; apply w_ifF; rfl; apply w_skip; apply w_sq; apply w_reg; apply w_mvp; rfl; apply w_nilc; rfl; apply w_fld; rfl; apply w_ld; rfl; exact hc_i 0 rfl rfl; apply w_lenG; rfl; assumption; apply w_mvi; rfl; apply w_done0; apply w_ret)
  exact finR rfl (List.Sublist.refl _)

def DReadyOk (P : Program) (f : FuncId) : Prop := ∀ {d : PHeap} {D : DevD} {v : Value} {L : List PHeap} {k n : Nat}, Dv d D v L → k < D.syn.length → n = 256 → GRead P f [v, .int .i64 k, .int .i64 n] d L (.int .i64 0)
def g_device_Device_ready (f_device_Device_Size : Nat) : GFun :=
 ⟨32, [(.tmp 6)],
 (.seq
 (.reg false (.op false ⟨(some 6), none, (.mv (.const (.int .i64 0)))⟩ .done))
 (.seq (.block 0
 (.seq
 (.reg false (.op false ⟨(some 8), none, (.mv (.tmp 0))⟩
  (.op false ⟨(some 9), none, (.call f_device_Device_Size [(.tmp 8)])⟩
  (.op false ⟨(some 10), none, (.bin .eql (.tmp 9) (.const (.int .i64 0)))⟩
  (.op false ⟨(some 7), none, (.mv (.tmp 10))⟩ .done))))) (.cond (.tmp 7)
 (.seq
 (.reg false (.op false ⟨(some 6), none, (.mv (.const (.int .i64 1)))⟩ .done)) .ret)
 (.seq
 (.reg false (.op false ⟨(some 12), none, (.mv (.tmp 1))⟩
  (.op false ⟨(some 13), none, (.bin .lss (.tmp 12) (.const (.int .i64 0)))⟩
  (.op false ⟨(some 14), none, (.mv (.tmp 13))⟩
  (.op false ⟨(some 15), (some (14, false)), (.mv (.tmp 1))⟩
  (.op false ⟨(some 16), (some (14, false)), (.mv (.tmp 0))⟩
  (.op false ⟨(some 17), (some (14, false)), (.nilc (.tmp 16))⟩
  (.op false ⟨(some 18), (some (14, false)), (.fld 0 (.tmp 17))⟩
  (.op false ⟨(some 19), (some (14, false)), (.ld none (.tmp 18))⟩
  (.op false ⟨(some 20), (some (14, false)), (.len (.tmp 19))⟩
  (.op false ⟨(some 21), (some (14, false)), (.bin .geq (.tmp 15) (.tmp 20))⟩
  (.op false ⟨(some 22), none, (.pick (.tmp 14) (.const (.bool true)) (.tmp 21))⟩
  (.op false ⟨(some 11), none, (.mv (.tmp 22))⟩ .done))))))))))))) (.cond (.tmp 11)
 (.seq
 (.reg false (.op false ⟨(some 6), none, (.mv (.const (.int .i64 4)))⟩ .done)) .ret)
 (.seq
 (.reg false (.op false ⟨(some 24), none, (.mv (.tmp 2))⟩
  (.op false ⟨(some 25), none, (.bin .neq (.tmp 24) (.const (.int .i64 256)))⟩
  (.op false ⟨(some 23), none, (.mv (.tmp 25))⟩ .done)))) (.cond (.tmp 23)
 (.seq
 (.reg false (.op false ⟨(some 6), none, (.mv (.const (.int .i64 2)))⟩ .done)) .ret)
 (.seq
 (.reg false (.op false ⟨(some 27), none, (.mv (.tmp 0))⟩
  (.op false ⟨(some 28), none, (.nilc (.tmp 27))⟩
  (.op false ⟨(some 29), none, (.fld 3 (.tmp 28))⟩
  (.op false ⟨(some 30), none, (.ld none (.tmp 29))⟩
  (.op false ⟨(some 31), none, (.bin .eql (.tmp 30) (.const (.int .i64 1)))⟩
  (.op false ⟨(some 26), none, (.mv (.tmp 31))⟩ .done))))))) (.cond (.tmp 26)
 (.seq
 (.reg false (.op false ⟨(some 6), none, (.mv (.const (.int .i64 150)))⟩ .done)) .ret) .skip)))))))))
 (.seq
 (.reg false (.op false ⟨(some 6), none, (.mv (.const (.int .i64 0)))⟩ .done)) .ret)))⟩

theorem dready_ok {P : Program} {f f1 : FuncId} (hd : dec P f = some (g_device_Device_ready f1)) (h1 : DSizeOk P f1) : DReadyOk P f := by
  intro d D v L k n h hk hn
  have h0 := h
  obtain ⟨b, T, vs, vo, r, hs, ho, rfl, rfl, h3, h4, h5, h6⟩ := h
  refine GCall_of hd (Nat.le_of_ble_eq_true rfl) ?_
  show gwp P _ _ _ _ _
  (apply w_sq; apply w_reg; apply w_mvi; rfl; apply w_done0; apply w_sq; apply w_block; apply w_sq; apply w_reg; apply w_mvp; rfl)
  refine w_read (B := []) rfl rfl (h1 h0) ?_
  (apply w_eql; rfl; rfl; apply w_mvb; rfl; apply w_done0; refine w_ifdF rfl (by omega) ?_; apply w_sq; apply w_reg; apply w_mvi; rfl; apply w_lss; rfl; rfl; apply w_mvb; rfl; refine w_gdF rfl (by omega) ?_; apply w_gT; rfl; apply w_mvi; rfl; apply w_gT; rfl; apply w_mvp; rfl; apply w_gT; rfl; apply w_nilc; rfl; apply w_gT; rfl; apply w_fld; rfl; apply w_gT; rfl; apply w_ld; rfl; exact hc_i 0 rfl rfl; apply w_gT; rfl; apply w_lenG; rfl; assumption; apply w_gT; rfl; apply w_geq; rfl; rfl; apply w_pickFb; rfl; rfl; apply w_mvb; rfl; apply w_done0; refine w_ifdF rfl (by omega) ?_; apply w_sq; apply w_reg; apply w_mvi; rfl; apply w_neq; rfl; rfl; apply w_mvb; rfl; apply w_done0; refine w_ifdF rfl (by omega) ?_; apply w_sq; apply w_reg; apply w_mvp; rfl; apply w_nilc; rfl; apply w_fld; rfl; apply w_ld; rfl; exact hc_i 0 rfl rfl; apply w_eql; rfl; rfl; apply w_mvb; rfl; apply w_done0; refine w_ifdF rfl (by omega) ?_; apply w_skip; apply w_sq; apply w_reg; apply w_mvi; rfl; apply w_done0; apply w_ret)
  exact finR rfl (List.Sublist.refl _)

def DBurnOk (P : Program) (f : FuncId) : Prop := ∀ {d : PHeap} {D : DevD} {v : Value} {L : List PHeap}, Dv d D v L → GCall P f [v] d L (Ret fun r d' L' => d' = d ∧ L' = L)
def g_device_Device_burn : GFun :=
 ⟨14, [],
 (.seq
 (.reg false (.op false ⟨(some 2), none, (.mv (.tmp 0))⟩
  (.op false ⟨(some 3), none, (.nilc (.tmp 2))⟩
  (.op false ⟨(some 4), none, (.fld 3 (.tmp 3))⟩
  (.op false ⟨(some 5), none, (.ld none (.tmp 4))⟩
  (.op false ⟨(some 6), none, (.bin .gtr (.tmp 5) (.const (.int .i64 1)))⟩ .done)))))) (.cond (.tmp 6)
 (.reg false (.op false ⟨(some 7), none, (.mv (.tmp 0))⟩
  (.op false ⟨(some 8), none, (.nilc (.tmp 7))⟩
  (.op false ⟨(some 9), none, (.fld 3 (.tmp 8))⟩
  (.op false ⟨(some 10), none, (.ld none (.tmp 9))⟩
  (.op false ⟨(some 11), none, (.bin .sub (.tmp 10) (.const (.int .i64 1)))⟩
  (.op false ⟨(some 12), none, (.nilc (.tmp 7))⟩
  (.op false ⟨(some 13), none, (.fld 3 (.tmp 12))⟩
  (.op false ⟨none, none, (.st 1 (.tmp 13) (.tmp 11))⟩ .done))))))))) .skip))⟩

theorem dburn_ok {P : Program} {f : FuncId} (hd : dec P f = some g_device_Device_burn) : DBurnOk P f := by
  intro d D v L h
  obtain ⟨b, T, vs, vo, r, hs, ho, rfl, rfl, h3, h4, h5, h6⟩ := h
  refine GCall_of hd (Nat.le_of_ble_eq_true rfl) ?_
  show gwp P _ _ _ _ _
  (apply w_sq; apply w_reg; apply w_mvp; rfl; apply w_nilc; rfl; apply w_fld; rfl; apply w_ld; rfl; exact hc_i 0 rfl rfl; apply w_gtr; rfl; rfl; apply w_done0; refine w_ifdF rfl (by omega) ?_; apply w_skip)
  exact finS [] trivial (List.Sublist.refl _) ⟨rfl, rfl⟩

def DevNewOk (P : Program) (f : FuncId) : Prop := ∀ {d : PHeap} {n : Nat}, 1 ≤ n → n ≤ 8192 → GCall P f [.int .i64 n] d [] (Ret fun r d' L' => ∃ v, r = .tuple #[v, .int .i64 0] ∧ d' = d ∧ Dv d ⟨List.replicate n zsec, []⟩ v L')
def g_device_New : GFun :=
 ⟨14, [(.tmp 2), (.tmp 3)],
 (.seq
 (.reg false (.op false ⟨(some 2), none, (.mv (.const (.pointer none)))⟩
  (.op false ⟨(some 3), none, (.mv (.const (.int .i64 0)))⟩ .done)))
 (.seq (.seq
 (.reg false (.op false ⟨(some 4), none, (.mv (.tmp 0))⟩
  (.op false ⟨(some 5), none, (.bin .lss (.tmp 4) (.const (.int .i64 1)))⟩
  (.op false ⟨(some 6), none, (.mv (.tmp 5))⟩
  (.op false ⟨(some 7), (some (6, false)), (.mv (.tmp 0))⟩
  (.op false ⟨(some 8), (some (6, false)), (.bin .gtr (.tmp 7) (.const (.int .i64 8192)))⟩
  (.op false ⟨(some 9), none, (.pick (.tmp 6) (.const (.bool true)) (.tmp 8))⟩ .done))))))) (.cond (.tmp 9)
 (.seq
 (.reg false (.op false ⟨(some 2), none, (.mv (.const (.pointer none)))⟩
  (.op false ⟨(some 3), none, (.mv (.const (.int .i64 2)))⟩ .done))) .ret) .skip))
 (.seq
 (.reg false (.op false ⟨(some 10), none, (.mv (.tmp 0))⟩
  (.op false ⟨(some 11), none, (.mks 256 256 z256 (.tmp 10) (.tmp 10))⟩
  (.op false ⟨(some 12), none, (.bld [(0, 1), (1, 1), (2, 1), (3, 1)] [(.slice none 0 0), (.slice none 0 0), (.int .i64 0), (.int .i64 0)] [(0, (.tmp 11))])⟩
  (.op false ⟨(some 13), none, (.box (.tmp 12))⟩
  (.op false ⟨(some 2), none, (.mv (.tmp 13))⟩
  (.op false ⟨(some 3), none, (.mv (.const (.int .i64 0)))⟩ .done))))))) .ret)))⟩

theorem dnew_ok {P : Program} {f : FuncId} (hd : dec P f = some g_device_New) : DevNewOk P f := by
  intro d n h1 h2
  refine GCall_of hd (Nat.le_of_ble_eq_true rfl) ?_
  show gwp P _ _ _ _ _
  (apply w_sq; apply w_reg; apply w_mvp; rfl; apply w_mvi; rfl; apply w_done0; apply w_sq; apply w_sq; apply w_reg; apply w_mvi; rfl; apply w_lss; rfl; rfl; apply w_mvb; rfl; refine w_gdF rfl (by omega) ?_; apply w_gT; rfl; apply w_mvi; rfl; apply w_gT; rfl; apply w_gtr; rfl; rfl; apply w_pickFb; rfl; rfl; apply w_done0; refine w_ifdF rfl (by omega) ?_; apply w_skip; apply w_sq; apply w_reg; apply w_mvi; rfl)
  refine w_mks rfl rfl (Nat.le_refl n) (by omega) (by omega) (fun b T => ?_)
  (apply w_bld; rfl; apply w_boxa; rfl; intro _ _; apply w_mvp; rfl; apply w_mvi; rfl; apply w_done0; apply w_ret)
  rename_i b2 T2
  refine finV [_, _] ⟨rfl, rfl, trivial⟩ (d' := d) (L' := [bx b2 T2 [.slice (some ⟨b, 0, none⟩) n n, .slice none 0 0, .int .i64 0, .int .i64 0], bx b T (zrow z256 (n * 256)), emp]) ?_ ⟨_, rfl, rfl, _, _, _, _, _, _, _, rfl, rfl, ?_, GRow.nil, fun w hw => (by cases hw), by simpa using h2⟩
  · exact (Vs.emp).trans (Vs.perm (List.perm_append_comm (l₁ := [emp])))
  · exact GRow.zero z256_len (by omega) rsec_z (by omega)

def DWriteOk (P : Program) (f : FuncId) : Prop := ∀ {d : PHeap} {D : DevD} {v w : Value} {L : List PHeap} {k : Nat} {l : Sec}, Dv d D v L → k < D.syn.length → RBytes d w l → l.length = 256 → D.opn.length ≤ 1000000 →
  GCall P f [v, .int .i64 k, w] d L (Ret fun r d' L' => r = .int .i64 0 ∧ d' = d ∧ Dv d ⟨D.syn, D.opn ++ [(k, l)]⟩ v L')
def g_device_Device_Write (f_device_Device_ready f_device_Device_burn : Nat) : GFun :=
 ⟨32, [(.tmp 6)],
 (.seq
 (.reg false (.op false ⟨(some 6), none, (.mv (.const (.int .i64 0)))⟩ .done))
 (.seq (.seq
 (.reg false (.op false ⟨(some 8), none, (.mv (.tmp 0))⟩
  (.op false ⟨(some 9), none, (.mv (.tmp 1))⟩
  (.op false ⟨(some 10), none, (.mv (.tmp 2))⟩
  (.op false ⟨(some 11), none, (.len (.tmp 10))⟩
  (.op false ⟨(some 12), none, (.call f_device_Device_ready [(.tmp 8), (.tmp 9), (.tmp 11)])⟩
  (.op false ⟨(some 7), none, (.mv (.tmp 12))⟩ .done)))))))
 (.seq
 (.reg false (.op false ⟨(some 13), none, (.mv (.tmp 7))⟩
  (.op false ⟨(some 14), none, (.bin .neq (.tmp 13) (.const (.int .i64 0)))⟩ .done))) (.cond (.tmp 14)
 (.seq
 (.reg false (.op false ⟨(some 15), none, (.mv (.tmp 7))⟩
  (.op false ⟨(some 6), none, (.mv (.tmp 15))⟩ .done))) .ret) .skip)))
 (.seq
 (.reg true (.op true ⟨(some 16), none, (.mv (.tmp 0))⟩
  (.op true ⟨(some 17), none, (.mv (.tmp 0))⟩
  (.op true ⟨(some 18), none, (.nilc (.tmp 17))⟩
  (.op true ⟨(some 19), none, (.fld 1 (.tmp 18))⟩
  (.op true ⟨(some 21), none, (.mv (.tmp 1))⟩
  (.op true ⟨(some 22), none, (.mv (.tmp 2))⟩
  (.op true ⟨(some 23), none, (.s2a 256 (.tmp 22))⟩
  (.op true ⟨(some 24), none, (.ld (some 256) (.tmp 23))⟩
  (.op true ⟨(some 25), none, (.bld [(0, 1), (1, 256)] (Value.int .i64 0 :: z256) [(0, (.tmp 21)), (1, (.tmp 24))])⟩
  (.alt ⟨(some 20), none, (.ld none (.tmp 19))⟩
  (.op false ⟨(some 26), none, (.bsl 1 257 (Value.int .i64 0 :: z256) [(0, (.tmp 25))])⟩
  (.op false ⟨(some 27), none, (.app 257 264 (Value.int .i64 0 :: z256) (.tmp 20) (.tmp 26))⟩
  (.op true ⟨(some 28), none, (.nilc (.tmp 16))⟩
  (.op true ⟨(some 29), none, (.fld 1 (.tmp 28))⟩
  (.op false ⟨none, none, (.st 1 (.tmp 29) (.tmp 27))⟩ .done))))) (.op false ⟨(some 26), none, (.bsl 1 257 (Value.int .i64 0 :: z256) [(0, (.tmp 25))])⟩
  (.op false ⟨(some 20), none, (.ld none (.tmp 19))⟩
  (.op false ⟨(some 27), none, (.app 257 264 (Value.int .i64 0 :: z256) (.tmp 20) (.tmp 26))⟩
  (.op true ⟨(some 28), none, (.nilc (.tmp 16))⟩
  (.op true ⟨(some 29), none, (.fld 1 (.tmp 28))⟩
  (.op false ⟨none, none, (.st 1 (.tmp 29) (.tmp 27))⟩ .done)))))))))))))))))
 (.seq
 (.reg false (.op false ⟨(some 30), none, (.mv (.tmp 0))⟩
  (.op false ⟨(some 31), none, (.call f_device_Device_burn [(.tmp 30)])⟩ .done)))
 (.seq
 (.reg false (.op false ⟨(some 6), none, (.mv (.const (.int .i64 0)))⟩ .done)) .ret)))))⟩

theorem dwrite_ok {P : Program} {f f1 f2 : FuncId} (hd : dec P f = some (g_device_Device_Write f1 f2)) (h1 : DReadyOk P f1) (h2 : DBurnOk P f2) : DWriteOk P f := by
  intro d D v w L k l h hk hw hl hn
  have h0 := h
  obtain ⟨b, T, vs, vo, r, hs, ho, rfl, rfl, h3, h4, h5, h6⟩ := h
  refine GCall_of hd (Nat.le_of_ble_eq_true rfl) ?_
  show gwp P _ _ _ _ _
  (apply w_sq; apply w_reg; apply w_mvi; rfl; apply w_done0; apply w_sq; apply w_sq; apply w_reg; apply w_mvp; rfl; apply w_mvi; rfl; apply w_mv; apply w_lenR; rfl; assumption)
  refine w_read (B := []) rfl rfl (h1 h0 hk hl) ?_
  (apply w_mvi; rfl; apply w_done0; apply w_sq; apply w_reg; apply w_mvi; rfl; apply w_neq; rfl; rfl; apply w_done0; refine w_ifdF rfl (by omega) ?_; apply w_skip; apply w_sq)
  refine w_drawnA [] _ rfl ?_
  (apply w_mvp; rfl; apply w_mvp; rfl; apply w_nilc; rfl; apply w_fld; rfl; apply w_mvi; rfl; apply w_mv)
  refine w_s2ld true rfl hw hl (by omega) (fun p => ?_)
  refine w_bwr rfl rfl (by rw [List.length_map]; exact hl) ?_
  have hcl : (Value.int .i64 (k : Int) :: l.map byteV).length = 257 := by rw [List.length_cons, List.length_map]; omega
  have hwr : RWr d (Value.int .i64 (k : Int) :: l.map byteV) (k, l) := ⟨rfl, hl⟩
  refine w_alt ?_ ?_
  · (apply w_ld; rfl; exact hc_i 0 rfl rfl)
    refine w_bsl1 rfl (by rw [List.length_cons, z256_len]) hcl (by omega) (fun b2 T2 => ?_)
    skip
    refine w_appL (R := RWr) 2 rfl rfl h4 rfl (GRow.lit1 hcl hwr) cell1_wr (by omega) (by simp; omega) (by simp; omega) (fun v' h' ho' => ?_)
    (apply w_nilc; rfl; apply w_fld; rfl)
    obtain ⟨av, cv, rfl⟩ := ho'.val
    refine w_stE 0 [vs, .slice av (D.opn ++ [(k, l)]).length cv, .int .i64 r, .int .i64 0] rfl rfl rfl rfl (Nat.le_of_ble_eq_true rfl) rfl rfl ?_
    have hD : Dv d ⟨D.syn, D.opn ++ [(k, l)]⟩ (.pointer (some ⟨b, 0, none⟩)) [bx b T [vs, .slice av (D.opn ++ [(k, l)]).length cv, .int .i64 r, .int .i64 0], hs, h'] :=
      ⟨b, T, vs, _, r, hs, h', rfl, rfl, h3, ho', fun w hw => by
        rcases List.mem_append.1 hw with hw | hw
        · exact h5 w hw
        · cases List.mem_singleton.1 hw; exact hk, h6⟩
    (apply w_done0; apply w_sq; apply w_reg; apply w_mvp; rfl)
    refine w_callU (B := []) rfl rfl (h2 hD) (fun u d' L' _ ⟨e1, e2⟩ => ?_)
    subst e1; subst e2
    (apply w_done0; apply w_sq; apply w_reg; apply w_mvi; rfl; apply w_done0; apply w_ret)
    exact fin1 rfl (List.Sublist.refl _) ⟨rfl, rfl, hD⟩
  · refine w_bsl1 rfl (by rw [List.length_cons, z256_len]) hcl (by omega) (fun b2 T2 => ?_)
    (apply w_ld; rfl; exact hc_i 1 rfl rfl)
    refine w_appL (R := RWr) 2 rfl rfl h4 rfl (GRow.lit1 hcl hwr) cell1_wr (by omega) (by simp; omega) (by simp; omega) (fun v' h' ho' => ?_)
    (apply w_nilc; rfl; apply w_fld; rfl)
    obtain ⟨av, cv, rfl⟩ := ho'.val
    refine w_stE 0 [vs, .slice av (D.opn ++ [(k, l)]).length cv, .int .i64 r, .int .i64 0] rfl rfl rfl rfl (Nat.le_of_ble_eq_true rfl) rfl rfl ?_
    have hD : Dv d ⟨D.syn, D.opn ++ [(k, l)]⟩ (.pointer (some ⟨b, 0, none⟩)) [bx b T [vs, .slice av (D.opn ++ [(k, l)]).length cv, .int .i64 r, .int .i64 0], hs, h'] :=
      ⟨b, T, vs, _, r, hs, h', rfl, rfl, h3, ho', fun w hw => by
        rcases List.mem_append.1 hw with hw | hw
        · exact h5 w hw
        · cases List.mem_singleton.1 hw; exact hk, h6⟩
    (apply w_done0; apply w_sq; apply w_reg; apply w_mvp; rfl)
    refine w_callU (B := []) rfl rfl (h2 hD) (fun u d' L' _ ⟨e1, e2⟩ => ?_)
    subst e1; subst e2
    (apply w_done0; apply w_sq; apply w_reg; apply w_mvi; rfl; apply w_done0; apply w_ret)
    exact fin1 rfl (List.Sublist.refl _) ⟨rfl, rfl, hD⟩

def DSyncOk (P : Program) (f : FuncId) : Prop := ∀ {d : PHeap} {D : DevD} {v : Value} {L : List PHeap}, Dv d D v L → 1 ≤ D.syn.length →
  GCall P f [v] d L (Ret fun r d' L' => r = .int .i64 0 ∧ d' = d ∧ Dv d ⟨synced D.opn D.syn, []⟩ v L')
def g_device_Device_Sync (f_device_Device_ready f_device_Device_burn : Nat) : GFun :=
 ⟨35, [(.tmp 2)],
 (.seq
 (.reg false (.op false ⟨(some 2), none, (.mv (.const (.int .i64 0)))⟩ .done))
 (.seq (.seq
 (.reg false (.op false ⟨(some 6), none, (.mv (.tmp 0))⟩
  (.op false ⟨(some 7), none, (.call f_device_Device_ready [(.tmp 6), (.const (.int .i64 0)), (.const (.int .i64 256))])⟩
  (.op false ⟨(some 3), none, (.mv (.tmp 7))⟩ .done))))
 (.seq
 (.reg false (.op false ⟨(some 8), none, (.mv (.tmp 3))⟩
  (.op false ⟨(some 9), none, (.bin .neq (.tmp 8) (.const (.int .i64 0)))⟩ .done))) (.cond (.tmp 9)
 (.seq
 (.reg false (.op false ⟨(some 10), none, (.mv (.tmp 3))⟩
  (.op false ⟨(some 2), none, (.mv (.tmp 10))⟩ .done))) .ret) .skip)))
 (.seq (.seq
 (.reg false (.op false ⟨(some 11), none, (.mv (.tmp 0))⟩
  (.op false ⟨(some 12), none, (.nilc (.tmp 11))⟩
  (.op false ⟨(some 13), none, (.fld 1 (.tmp 12))⟩
  (.op false ⟨(some 14), none, (.ld none (.tmp 13))⟩
  (.op false ⟨(some 15), none, (.len (.tmp 14))⟩
  (.op false ⟨(some 16), none, (.mv (.const (.int .i64 0)))⟩ .done))))))) (.block 0 (.loop
 (.seq
 (.reg false (.op false ⟨(some 17), none, (.bin .lss (.tmp 16) (.tmp 15))⟩ .done))
 (.seq (.cond (.tmp 17) .skip (.exit 0))
 (.seq (.block 1
 (.seq
 (.reg false (.op false ⟨(some 18), none, (.idx 257 (.tmp 14) (.tmp 16))⟩
  (.op false ⟨(some 19), none, (.ld (some 257) (.tmp 18))⟩
  (.op false ⟨(some 5), none, (.alo (.agg (Value.int .i64 0 :: z256).toArray))⟩
  (.op false ⟨none, none, (.st 257 (.tmp 5) (.tmp 19))⟩ .done)))))
 (.reg true (.op true ⟨(some 20), none, (.mv (.tmp 0))⟩
  (.op true ⟨(some 21), none, (.nilc (.tmp 20))⟩
  (.op true ⟨(some 22), none, (.fld 0 (.tmp 21))⟩
  (.op true ⟨(some 23), none, (.ld none (.tmp 22))⟩
  (.op true ⟨(some 24), none, (.fld 0 (.tmp 5))⟩
  (.op true ⟨(some 25), none, (.ld none (.tmp 24))⟩
  (.op true ⟨(some 26), none, (.fld 1 (.tmp 5))⟩
  (.op true ⟨(some 27), none, (.ld (some 256) (.tmp 26))⟩
  (.op true ⟨(some 28), none, (.idx 256 (.tmp 23) (.tmp 25))⟩
  (.bar (.op false ⟨none, none, (.st 256 (.tmp 28) (.tmp 27))⟩ .done))))))))))))))
 (.reg false (.op false ⟨(some 29), none, (.bin .add (.tmp 16) (.const (.int .i64 1)))⟩
  (.op false ⟨(some 16), none, (.mv (.tmp 29))⟩ .done)))))))))
 (.seq
 (.reg false (.op false ⟨(some 30), none, (.mv (.tmp 0))⟩
  (.op false ⟨(some 31), none, (.nilc (.tmp 30))⟩
  (.op false ⟨(some 32), none, (.fld 1 (.tmp 31))⟩
  (.op false ⟨none, none, (.st 1 (.tmp 32) (.const (.slice none 0 0)))⟩ .done)))))
 (.seq
 (.reg false (.op false ⟨(some 33), none, (.mv (.tmp 0))⟩
  (.op false ⟨(some 34), none, (.call f_device_Device_burn [(.tmp 33)])⟩ .done)))
 (.seq
 (.reg false (.op false ⟨(some 2), none, (.mv (.const (.int .i64 0)))⟩ .done)) .ret))))))⟩

theorem dsync_ok {P : Program} {f f1 f2 : FuncId} (hd : dec P f = some (g_device_Device_Sync f1 f2)) (h1 : DReadyOk P f1) (h2 : DBurnOk P f2) : DSyncOk P f := by
  intro d D v L h hk
  have h0 := h
  obtain ⟨b, T, vs, vo, r, hs, ho, rfl, rfl, h3, h4, h5, h6⟩ := h
  obtain ⟨ao, co, rfl⟩ := h4.val
  have hlen := h4.len_le
  refine GCall_of hd (Nat.le_of_ble_eq_true rfl) ?_
  show gwp P _ _ _ _ _
  (apply w_sq; apply w_reg; apply w_mvi; rfl; apply w_done0; apply w_sq; apply w_sq; apply w_reg; apply w_mvp; rfl)
  refine w_read (B := []) rfl rfl (h1 (n := 256) (k := 0) h0 hk rfl) ?_
  (apply w_mvi; rfl; apply w_done0; apply w_sq; apply w_reg; apply w_mvi; rfl; apply w_neq; rfl; rfl; apply w_done0; refine w_ifdF rfl (by omega) ?_; apply w_skip; apply w_sq; apply w_sq; apply w_reg; apply w_mvp; rfl; apply w_nilc; rfl; apply w_fld; rfl; apply w_ld; rfl; exact hc_i 0 rfl rfl; apply w_len; rfl; apply w_mvi; rfl; apply w_done0; apply w_block)
  refine w_loopS (α := Nat × PHeap) (fun x => [(0, .pointer (some ⟨b, 0, none⟩)), (14, .slice ao D.opn.length co), (15, .int .i64 D.opn.length), (16, .int .i64 x.1)])
    (fun x d' L' => d' = d ∧ x.1 ≤ D.opn.length ∧ L' = [bx b T [vs, .slice ao D.opn.length co, .int .i64 r, .int .i64 0], x.2, ho] ∧ GRow 256 RSec d vs (synced (D.opn.take x.1) D.syn) x.2) (fun x => D.opn.length - x.1) (0, hs)
    ⟨rfl, rfl, rfl, rfl, trivial⟩ ⟨rfl, by omega, rfl, h3⟩ ?_
  rintro ⟨i, hs'⟩ ρ d' L' ⟨rfl, hi, rfl, hg⟩
  simp only at hi hg ⊢
  by_cases e : i < D.opn.length
  · obtain ⟨bo, To, lo, co', cs, e1, e2, hcl, hcs, hle, hr, -⟩ := GRow.at (by omega) h4 e
    cases e1; subst e2
    obtain ⟨rfl, hbl⟩ := hr
    have hin : D.opn[i].1 < (synced (D.opn.take i) D.syn).length := by rw [synced_len]; exact h5 _ (List.getElem_mem e)
    obtain ⟨bs, Ts, ls, cs', us, rfl, rfl, hul, hus, hsle, -, hset⟩ := GRow.at (by omega) hg hin
    (apply w_sq; apply w_reg; apply w_lss; rfl; rfl; apply w_done0; apply w_sq; refine w_ifdT rfl (by omega) ?_; apply w_skip; apply w_sq; apply w_block; apply w_sq; apply w_reg; refine w_idxN _ rfl rfl rfl (by omega) ?_)
    refine w_ldC _ 2 rfl rfl hcl hcs ?_
    (apply w_aloL; intro _ _)
    refine w_stA 0 rfl rfl rfl hcl (by rw [List.length_cons, z256_len]) (by rw [List.all_cons, oneCell_bytes]; rfl) ?_
    (apply w_done0; apply w_drawn; apply w_mvp; rfl; apply w_nilc; rfl; apply w_fld; rfl; apply w_ld; rfl; exact hc_i 1 rfl rfl; apply w_fld; rfl; apply w_ld; rfl; exact hc_i 0 rfl rfl; apply w_fld; rfl)
    refine w_ldC (D.opn[i].2.map byteV) 0 rfl rfl (by rw [List.length_map]; exact hbl) (fun j u hu => by rw [Nat.add_comm]; simpa using hu) ?_
    (refine w_idxN _ rfl rfl rfl (by omega) ?_; apply w_bar)
    refine w_stE2 2 rfl rfl rfl (by rw [List.length_map]; exact hbl) hsle (oneCell_bytes _) ?_
    refine w_doneE ⟨_, [_, _, _], Vs.drop (List.sublist_cons_self _ _), ?_⟩
    (apply w_reg; apply w_add; rfl; rfl; omega; omega; apply w_mvi; rfl; apply w_done0)
    refine ⟨(i + 1, _), by simp only; omega, ⟨rfl, rfl, rfl, rfl, trivial⟩, rfl, e, rfl, ?_⟩
    have := hset _ D.opn[i].2 (by rw [List.length_map]; exact hbl) ⟨rfl, hbl⟩
    rw [List.take_succ_eq_append_getElem e]
    rw [synced_snoc]
    exact this
  · (apply w_sq; apply w_reg; apply w_lss; rfl; rfl; apply w_done0; apply w_sq; refine w_ifdF rfl (by omega) ?_; apply w_exit; apply w_sq; apply w_reg; apply w_mvp; rfl; apply w_nilc; rfl; apply w_fld; rfl)
    refine w_stE 0 [vs, .slice none 0 0, .int .i64 r, .int .i64 0] rfl rfl rfl rfl (Nat.le_of_ble_eq_true rfl) rfl rfl ?_
    have ei : i = D.opn.length := by omega
    subst ei
    rw [List.take_length] at hg
    have hD : Dv d' ⟨synced D.opn D.syn, []⟩ (.pointer (some ⟨b, 0, none⟩)) [bx b T [vs, .slice none 0 0, .int .i64 r, .int .i64 0], hs', emp] :=
      ⟨b, T, vs, _, r, hs', emp, rfl, rfl, hg, GRow.nil, fun w hw => (by cases hw), by rw [synced_len]; exact h6⟩
    refine w_doneE ⟨d', [bx b T [vs, .slice none 0 0, .int .i64 r, .int .i64 0], hs', emp], ?_, ?_⟩
    · exact ((Vs.drop (by exact List.Sublist.cons_cons _ (List.Sublist.cons_cons _ (List.Sublist.cons _ List.Sublist.slnil)))).trans Vs.emp).trans (Vs.perm (List.perm_append_comm (l₁ := [emp])))
    (apply w_sq; apply w_reg; apply w_mvp; rfl)
    refine w_callU (B := []) rfl rfl (h2 hD) (fun u d' L' _ ⟨e1, e2⟩ => ?_)
    subst e1; subst e2
    (apply w_done0; apply w_sq; apply w_reg; apply w_mvi; rfl; apply w_done0; apply w_ret)
    exact fin1 rfl (List.Sublist.refl _) ⟨rfl, rfl, hD⟩
end Go.Gk.Dev
end
