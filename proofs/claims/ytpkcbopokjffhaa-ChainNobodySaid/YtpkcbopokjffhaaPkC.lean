/-
  Our own texts, one behind the other: Gk36 Gk37 Gk38 Gk12 Gk13 Gk14 Gk15 Gk39 Gk16 Gk17 Gk18 Gk23 Gk30 Gk31 Gk24 GkE0 GkE1 GkC0 GkC4 GkPg0 GkE2 GkC1 GkC2 GkC3 GkCl GkPg1 GkPg2 GkPg3 GkPg4 GkPg5 GkC5 GkPg6 GkPg7 GkPg8 GkPgL GkPgM Gk28 Gk29 Gk40 GkH1 GkH2 GkH3 GkH4 GkH5.
-/
import Derived.Recover
import Derived.BigFrame
import Derived.Test.YtpkcbopokjffhaaPkB
section
namespace Go.Gk
open Go Go.Conc

section
variable {P : Program} {ops : Array Oper} {k : Nat} {o : Oper} {a : Act} {W : World} {c cap s r : Nat} {buf : Array Value} {tm : Bool}
theorem snd_step (ho : ops[k]? = some o) (hg : o.guard = none) {ch x : Operand} (hop : o.op = .send ch x) (hc : a.eval ch = .chan (some c)) (hh : W.heap[c]? = some (.chan cap buf false s r tm)) (hroom : buf.size < cap)
    (b : Frame) (items : List Item) (cs : List Frame) (rest : List Nat) :
    step P (lone (b.at a (.inRegion ops (k :: rest) :: items)) cs W) = .next (lone ((b.at a (.inRegion ops (k :: rest) :: items)).finish undef) cs (W.setChan c cap (buf.push (a.eval x)) false (s + 1) r tm)) := by
  have hw : Region.wanted o (yielded ops a.tmps) = true := by simp [Region.wanted, hg]
  have hrun : (execOp a.eval o).run P W = .ok (.comm #[scase c (a.eval x) (.tuple #[])] true .send) W := by simp [execOp, hop, hc, scase]
  have h := stepG_op (P := P) (b := b) (a := a) (k := items) (cs := cs) (w := W) (ops := ops) (rest := rest) ho hw
  simp only [stepG.apply, Sem.runT_eq, hrun] at h
  exact step_lone_send_room h hh hroom
theorem sel_step_some (ho : ops[k]? = some o) (hg : o.guard = none) {ch : Operand} {e : TypeId} {z : Value} {ti : TypeInfo} (hop : o.op = .select #[⟨ch, none, e⟩] false) (hi : P.info? e = some ti) (hz : ti.zero = some z) (hc : a.eval ch = .chan (some c)) (hh : W.heap[c]? = some (.chan cap buf false s r tm)) (hsome : 0 < buf.size)
    (b : Frame) (items : List Item) (cs : List Frame) (rest : List Nat) :
    step P (lone (b.at a (.inRegion ops (k :: rest) :: items)) cs W) = .next (lone ((b.at a (.inRegion ops (k :: rest) :: items)).finish (.tuple #[goInt 0, .bool true, buf.getD 0 undef])) cs (W.setChan c cap (buf.extract 1 buf.size) false s (r + 1) tm)) := by
  have hw : Region.wanted o (yielded ops a.tmps) = true := by simp [Region.wanted, hg]
  have hrun : (execOp a.eval o).run P W = .ok (.comm #[rcase c z] false .select) W := by simp [execOp, hop, hc, rcase, zero_run hi hz, Sem.run_bind, Result.andThen]
  have h := stepG_op (P := P) (b := b) (a := a) (k := items) (cs := cs) (w := W) (ops := ops) (rest := rest) ho hw
  simp only [stepG.apply, Sem.runT_eq, hrun] at h
  exact step_lone_select_recv_buf h hh hsome
theorem sel_step_none (ho : ops[k]? = some o) (hg : o.guard = none) {ch : Operand} {e : TypeId} {z : Value} {ti : TypeInfo} (hop : o.op = .select #[⟨ch, none, e⟩] false) (hi : P.info? e = some ti) (hz : ti.zero = some z) (hc : a.eval ch = .chan (some c)) (hh : W.heap[c]? = some (.chan cap #[] false s r tm))
    (b : Frame) (items : List Item) (cs : List Frame) (rest : List Nat) :
    step P (lone (b.at a (.inRegion ops (k :: rest) :: items)) cs W) = .next (lone ((b.at a (.inRegion ops (k :: rest) :: items)).finish (.tuple #[goInt (-1), .bool false, z])) cs W) := by
  have hw : Region.wanted o (yielded ops a.tmps) = true := by simp [Region.wanted, hg]
  have hrun : (execOp a.eval o).run P W = .ok (.comm #[rcase c z] false .select) W := by simp [execOp, hop, hc, rcase, zero_run hi hz, Sem.run_bind, Result.andThen]
  have h := stepG_op (P := P) (b := b) (a := a) (k := items) (cs := cs) (w := W) (ops := ops) (rest := rest) ho hw
  simp only [stepG.apply, Sem.runT_eq, hrun] at h
  exact step_lone_select_default h hh
end
theorem setChan_heap (W : World) (c cap : Nat) (buf : Array Value) (cl : Bool) (s r : Nat) (tm : Bool) : (W.setChan c cap buf cl s r tm).heap = W.heap.setIfInBounds c (.chan cap buf cl s r tm) := rfl
theorem keep_setChan (W : World) (c cap : Nat) (buf : Array Value) (cl : Bool) (s r : Nat) (tm : Bool) : Keep W (W.setChan c cap buf cl s r tm) := ⟨rfl, rfl, rfl, by rw [setChan_heap]; simp⟩
theorem Ok.setAtI {d : PHeap} {L F : List PHeap} {W W' : World} {i b : Nat} {o o' : Obj} (x : Ok (d :: (L ++ F)) W) (hi : L[i]? = some (sg b o)) (e : W'.heap = W.heap.setIfInBounds b o') : Ok (d :: (L.set i (sg b o') ++ F)) W' := by
  obtain ⟨A, B, h1, h2⟩ := getElem?_split hi (sg b o')
  rw [h2]
  rw [h1] at x
  exact Ok.front.2 ((Ok.front.1 x).write W' e)
end Go.Gk
end

section
namespace Go.Gk
open Go Go.Conc

section
variable {Fe : Fence} {m : Nat} {P : Program}
theorem wpIn_monoQ {o : Oper} {a : Act} {w : World} {K K' : Act → World → Prop} {Q Q' : Exit → Act → World → Prop} (h : ∀ a w, K a w → K' a w) (hp : ∀ c a w, Q (.panic c) a w → Q' (.panic c) a w) (hl : LetsOut Q → LetsOut Q')
    (hh : o.wpIn Fe m P a w K Q) : o.wpIn Fe m P a w K' Q' := by
  unfold Oper.wpIn at *
  refine ⟨hh.1, ?_⟩
  have hh := hh.2
  generalize (o.semAt Fe.round a.eval).run P w = r at *
  cases r with
  | ok x w' =>
    cases x <;> simp only [Oper.uponIn] at hh ⊢ <;>
      first
        | exact h _ _ hh
        | exact ⟨hh.1, CallsIn.mono hh.2 (fun e w'' he => by cases e <;> first | exact h _ _ he | exact hp _ _ _ he | exact hl he)⟩
        | exact ⟨hh.1, RowsIn.mono hh.2 (fun _ _ he => h _ _ he)⟩
        | exact ⟨hh.1, RoundIn.mono hh.2 (fun e w'' he => by cases e <;> first | exact h _ _ he | exact hp _ _ _ he | exact hl he)⟩
  | halt x w' => cases x <;> simp only [Oper.uponIn] at hh ⊢ <;> exact hp _ _ _ hh
theorem wpOpsIn_app {ops : Array Oper} {Q Q' : Exit → Act → World → Prop} {l2 : List Nat} (hn : ∀ a w, Q .normal a w → wpOpsIn Fe m P ops Q' l2 a w) (hp : ∀ c a w, Q (.panic c) a w → Q' (.panic c) a w) (hl : LetsOut Q → LetsOut Q') :
    ∀ (l1 : List Nat) (a : Act) (w : World), wpOpsIn Fe m P ops Q l1 a w → wpOpsIn Fe m P ops Q' (l1 ++ l2) a w
  | [], a, w, h => hn a w h
  | i :: l1, a, w, h => by
    simp only [wpOpsIn, List.cons_append] at h ⊢
    cases ho : ops[i]? with
    | none => rw [ho] at h; exact wpOpsIn_app hn hp hl l1 a w h
    | some o =>
      rw [ho] at h
      simp only at h ⊢
      split
      · rename_i hw
        rw [if_pos hw] at h
        exact wpIn_monoQ (fun a w h => wpOpsIn_app hn hp hl l1 a w h) hp hl h
      · rename_i hw
        rw [if_neg hw] at h
        exact ⟨h.1, wpOpsIn_app hn hp hl l1 _ w h.2⟩
end
section
variable {P : Program} {n : Nat} {ds : List Deferred} {ops : Array Oper} {F : List PHeap} {W0 : World} {d0 : PHeap}
theorem yl_wpIn {m id k : Nat} {o : Oper} {s1 s2 : GS} {Q : GPost} {f : Operand} {args : Array Operand} {ats : Array TypeId} (ho : ops[k]? = some o) (hg : o.guard = none) (hop : o.op = .call ⟨.value f, args, ats⟩) (hopn : ∀ x ∈ o.op.operands, opndOk n x = true)
    (hdst : ∀ t, o.dst = some t → t < n) (hnd : ∀ (i : Nat) (o : Oper), ops[i]? = some o → isDefer o.op = false)
    (hs1 : toGS P n ops (straight (List.range k)) = some s1) (hs2 : toGS P n ops (straight ((List.range ops.size).drop (k + 1))) = some s2)
    {ρ : Env} {d : PHeap} {L : List PHeap} {W : World} (h : xwp P (.yl s1 o.dst f args.toList s2) Q ρ d L) (hOk : Ok (d :: (L ++ F)) W) (hle : Le d0 d) (hk : Keep W0 W) :
    (Code.region id ops false).wpIn Fence.wide m P (lift n ds F W0 d0 Q) (act n ρ ds) W := by
  have hkl : k < ops.size := (Array.getElem?_eq_some_iff.1 ho).1
  refine wpIn_region ?_
  rw [range_split hkl]
  refine wpOpsIn_app ?_ ?_ (fun h => absurd h lift_letsOut) _ _ _ (wpOps_in (r := none) (Q := lift n ds F W0 d0 { Q with n := ylMid P Q o.dst f args.toList s2 }) lift_letsOut hnd _ _ _ (straight_sound _ s1 hs1 ρ d L W h hOk hle hk))
  · rintro a w ⟨ρ1, d1, L1, rfl, k1, k2, k3, l, A, B, R, hf, hL, hy, hR⟩
    subst hL
    have hw : Region.wanted o (yielded ops (act n ρ1 ds).tmps) = true := by simp [Region.wanted, hg]
    obtain ⟨rc, hh, hlen, hround⟩ := hy (B ++ F) w (by rw [← List.append_assoc]; exact k1)
    have ha := map_eval (ρ := ρ1) (ds := ds) args (fun x hx => hopn x (by rw [hop]; simp [Op.operands, Call.operands, hx]))
    have hfv := act_eval (ρ := ρ1) (ds := ds) (hopn f (by rw [hop]; simp [Op.operands, Call.operands]))
    have hrun := run_yield (P := P) hh (args := (args.toList.map (ev ρ1)).toArray) (by simpa using hlen)
    have hexec : (execOp (act n ρ1 ds).eval o).run P w = .ok (.round l rc.fn ((rc.params.zip (args.toList.map (ev ρ1)).toArray).foldl (fun tmps (t, a) => tmps.setIfInBounds t a) rc.tmps) rc.assign rc.body) w := by
      simp only [execOp, hop, resolve, Sem.run_bind, hfv, hf, Deferred.ofValue, Sem.run_pure, Result.andThen, invoke, ha, hrun]
      simpa using hrun
    simp only [wpOpsIn, ho]
    rw [if_pos hw]
    refine ⟨fun _ _ => trivial, ?_⟩
    have e : o.semAt Fence.wide.round (act n ρ1 ds).eval = execOp (act n ρ1 ds).eval o := Oper.semAt_none ..
    rw [e, hexec, Oper.uponIn_round]
    refine ⟨fun h => by simp [Fence.wide] at h, (hround _).mono ?_⟩
    rintro e w2 ⟨v, d2, L2, rfl, q1, q2, q3, q4⟩
    show wpOpsIn _ _ _ _ _ _ _ _
    rw [act_put hdst]
    rw [← List.append_assoc] at q1
    exact wpOps_in (r := none) lift_letsOut hnd _ _ _ (straight_sound _ s2 hs2 _ d2 (L2 ++ B) w2 (hR v d2 L2 q2 q4) q1 (k2.trans q2) (k3.trans q3))
  · intro c a w h; exact h
end
end Go.Gk
end

section
namespace Go.Gk
open Go Go.Conc

def marksOf (ms : List Nat) : List Deferred := ms.map fun r => { target := .collected r, args := #[] }
def markH (ms : List Nat) : List PHeap := ms.map fun r => sg r (.deferred (some []))
def liftM (n : Nat) (F : List PHeap) (W0 : World) (d0 : PHeap) (Q : GPost) (e : Exit) (a : Act) (W : World) : Prop := ∃ ms, lift n (marksOf ms) (markH ms ++ F) W0 d0 Q e a W
theorem sp_sound {yl : Bool} {P : Program} {n : Nat} {ds : List Deferred} {F : List PHeap} {W0 : World} {d0 : PHeap} {m id : Nat} {ops : Array Oper} (hnd : ∀ (i : Nat) (o : Oper), ops[i]? = some o → isDefer o.op = false)
    {Q : GPost} {ρ : Env} {d : PHeap} {L : List PHeap} {W : World} (h : xwp P (decSp yl P n ops) Q ρ d L) (hOk : Ok (d :: (L ++ F)) W) (hle : Le d0 d) (hk : Keep W0 W) :
    (Code.region id ops false).wpIn Fence.wide m P (lift n ds F W0 d0 Q) (act n ρ ds) W := by
  unfold decSp at h
  split at h
  · exact h.elim
  rename_i k hkf
  split at h
  rotate_left
  · exact h.elim
  rename_i s1 s2 o hs1 hs2 ho
  split at h
  rotate_left
  · exact h.elim
  rename_i hc
  simp only [Bool.and_eq_true] at hc
  obtain ⟨⟨hg, hopn⟩, hdo⟩ := hc
  have hg : o.guard = none := by simpa using hg
  have hopn : ∀ x ∈ o.op.operands, opndOk n x = true := by
    intro x hx
    exact List.all_eq_true.1 hopn x (Array.mem_toList_iff.2 hx)
  have hdst : ∀ t, o.dst = some t → t < n := by
    intro t e; rw [e] at hdo; simpa [dstOk] using hdo
  split at h
  · rename_i ch x hop
    split at h
    rotate_left
    · exact h.elim
    rename_i hp
    refine wpIn_wide.2 (sp_wp (Q := Q) (Qm := sndMid P Q o.dst ch x s2) ho hs1 hp hs2 hdst ?_ h hOk hle hk)
    rintro ρ1 d1 L1 W1 hOk1 ⟨i, c, cap, buf, s, r, tm, hch, hi, hroom, hq⟩
    have hh : W1.heap[c]? = some (.chan cap buf.toArray false s r tm) := hOk1.2 (sg c _) (by simp [List.mem_of_getElem? hi]) c _ (sg_self _ _)
    have ech := act_eval (ρ := ρ1) (ds := ds) (hopn ch (by rw [hop]; simp [Op.operands]))
    have ex := act_eval (ρ := ρ1) (ds := ds) (hopn x (by rw [hop]; simp [Op.operands]))
    refine ⟨undef, _, d1, _, fun b items cs rest => snd_step ho hg hop (ech.trans hch) hh (by simpa using hroom) b items cs rest, ?_, Le.refl _, keep_setChan .., hq⟩
    refine hOk1.setAtI hi ?_
    rw [setChan_heap, ex]; simp
  · rename_i cs' hop
    split at h
    rotate_left
    · exact h.elim
    rename_i ch e hcs
    split at h
    rotate_left
    · exact h.elim
    rename_i z hz
    split at h
    rotate_left
    · exact h.elim
    rename_i hp
    have hcs' : cs' = #[⟨ch, none, e⟩] := by
      apply Array.ext'; simpa using hcs
    subst hcs'
    rw [Option.bind_eq_some_iff] at hz
    obtain ⟨ti, hi', hz'⟩ := hz
    refine wpIn_wide.2 (sp_wp (Q := Q) (Qm := selMid P Q o.dst ch z s2) ho hs1 hp hs2 hdst ?_ h hOk hle hk)
    rintro ρ1 d1 L1 W1 hOk1 ⟨i, c, cap, buf, s, r, tm, hch, hi, hq1, hq2⟩
    have hh : W1.heap[c]? = some (.chan cap buf.toArray false s r tm) := hOk1.2 (sg c _) (by simp [List.mem_of_getElem? hi]) c _ (sg_self _ _)
    have ech := act_eval (ρ := ρ1) (ds := ds) (hopn ch (by rw [hop]; simp [Op.operands]))
    cases buf with
    | nil =>
      exact ⟨_, W1, d1, L1, fun b items cs rest => sel_step_none ho hg hop hi' hz' (ech.trans hch) hh b items cs rest, hOk1, Le.refl _, Keep.refl _, hq2 rfl⟩
    | cons v rest' =>
      refine ⟨_, _, d1, _, fun b items cs rest => sel_step_some ho hg hop hi' hz' (ech.trans hch) hh (by simp) b items cs rest, ?_, Le.refl _, keep_setChan .., hq1 v rest' rfl⟩
      refine hOk1.setAtI hi ?_
      rw [setChan_heap]; simp
  · rename_i f args ats hop
    split at h
    rotate_left
    · exact h.elim
    exact yl_wpIn ho hg hop hopn hdst hnd hs1 hs2 h hOk hle hk
  · exact h.elim
theorem xwp_sound {yl pr : Bool} {P : Program} {n : Nat} {F : List PHeap} {W0 : World} {d0 : PHeap} {m : Nat} (hm : P.follows .mixedOrders = true) :
    ∀ (c : Code) (Q : GPost) (ρ : Env) (d : PHeap) (L : List PHeap) (W : World) (ms : List Nat), xwp P (decX yl pr P n c) Q ρ d L → Ok (d :: (L ++ (markH ms ++ F))) W → Le d0 d → Keep W0 W →
      c.wpIn Fence.wide m P (liftM n F W0 d0 Q) (act n ρ (marksOf ms)) W := by
  intro c
  induction c with
  | skip =>
    intro Q ρ d L W ms h hOk hle hk
    exact wpIn_skip ⟨ms, ρ, d, L, rfl, hOk, hle, hk, h⟩
  | region id ops drawn =>
    intro Q ρ d L W ms h hOk hle hk
    simp only [decX] at h
    split at h
    · rename_i hc
      simp only [Bool.and_eq_true, Bool.not_eq_true'] at hc
      obtain ⟨⟨hd, _⟩, hnd⟩ := hc
      subst hd
      exact wpIn_mono (sp_sound (nodef_ops hnd) h hOk hle hk) (fun e a w hq => ⟨ms, hq⟩)
    · exact wpIn_mono (wpIn_wide.2 (gwp_sound (ds := marksOf ms) (F := markH ms ++ F) (W0 := W0) (d0 := d0) hm _ Q ρ d L W h hOk hle hk)) (fun e a w hq => ⟨ms, hq⟩)
  | seq a b iha ihb =>
    intro Q ρ d L W ms h hOk hle hk
    simp only [decX] at h
    rw [xseq] at h
    refine wpIn_seq (wpIn_mono (iha _ ρ d L W ms h hOk hle hk) ?_)
    intro e a w hq
    cases e with
    | normal =>
      obtain ⟨ms', ρ', d', L', rfl, h1, h2, h3, h4⟩ := hq
      exact ihb Q ρ' d' L' w ms' h4 h1 h2 h3
    | _ => exact hq
  | cond c a b iha ihb =>
    intro Q ρ d L W ms h hOk hle hk
    simp only [decX] at h
    split at h
    · rename_i hc
      rw [xcond] at h
      obtain ⟨t, ht, h1, h2⟩ := h
      exact wpIn_cond_split (by rw [act_eval hc]; exact ht) (fun e => iha Q ρ d L W ms (h1 e) hOk hle hk) (fun e => ihb Q ρ d L W ms (h2 e) hOk hle hk)
    · exact h.elim
  | block id a iha =>
    intro Q ρ d L W ms h hOk hle hk
    simp only [decX] at h
    rw [xblock] at h
    refine wpIn_block (wpIn_mono (iha _ ρ d L W ms h hOk hle hk) ?_)
    intro e a w hq
    cases e with
    | exit i =>
      obtain ⟨ms', ρ', d', L', rfl, h1, h2, h3, h4⟩ := hq
      simp only [Exit.inBlock]
      by_cases e : i = id
      · simp only [e, if_true] at h4 ⊢
        exact ⟨ms', ρ', d', L', rfl, h1, h2, h3, h4⟩
      · simp only [if_neg e] at h4 ⊢
        exact ⟨ms', ρ', d', L', rfl, h1, h2, h3, h4⟩
    | _ => exact hq
  | loop a iha =>
    intro Q ρ d L W ms h hOk hle hk
    simp only [decX] at h
    rw [xloop] at h
    obtain ⟨I, ⟨m0, hI⟩, round⟩ := h
    refine wpIn_loop_ghost (fun m a w => ∃ ms ρ d L, a = act n ρ (marksOf ms) ∧ Ok (d :: (L ++ (markH ms ++ F))) w ∧ Le d0 d ∧ Keep W0 w ∧ I m ρ d L) m0 ⟨ms, ρ, d, L, rfl, hOk, hle, hk, hI⟩ ?_
    rintro m a w ⟨ms', ρ', d', L', rfl, h1, h2, h3, h4⟩
    refine wpIn_mono (iha _ ρ' d' L' w ms' (round m ρ' d' L' h4) h1 h2 h3) ?_
    intro e a w hq
    cases e with
    | normal =>
      obtain ⟨ms'', ρ'', d'', L'', rfl, k1, k2, k3, m', k4, k5⟩ := hq
      exact ⟨m', k4, ms'', ρ'', d'', L'', rfl, k1, k2, k3, k5⟩
    | _ => exact hq
  | exit id =>
    intro Q ρ d L W ms h hOk hle hk
    exact wpIn_exit ⟨ms, ρ, d, L, rfl, hOk, hle, hk, h⟩
  | ret =>
    intro Q ρ d L W ms h hOk hle hk
    exact wpIn_ret ⟨ms, ρ, d, L, rfl, hOk, hle, hk, h⟩
  | rangeFunc f ps as bd _ _ =>
    intro Q ρ d L W ms h hOk hle hk
    simp only [decX] at h
    split at h
    rotate_left
    · exact h.elim
    rename_i hc
    simp only [Bool.and_eq_true] at hc
    obtain ⟨⟨⟨hf, hps⟩, hna⟩, hnb⟩ := hc
    obtain ⟨g, first, cap, hfv, hit⟩ := h
    refine wpIn_rangeFunc fun fn _ => ?_
    have hev : (act n ρ (marksOf ms)).eval f = .func (.func g) first cap := (act_eval hf).trans hfv
    let rc : Loop := { state := .ready, pending := none, fn := fn, tmps := (act n ρ (marksOf ms)).tmps, params := ps, assign := as, body := bd, defers := W.heap.size }
    have hrec : IsRec P ρ ps.toList (decC pr P n as) (decC pr P n bd) rc := ⟨pr, n, hm, rfl, rfl, fun t ht => by
      have := Array.all_eq_true.1 hps
      obtain ⟨i, hi, rfl⟩ := Array.mem_iff_getElem.1 (Array.mem_toList_iff.1 ht)
      simpa using this i hi, rfl, rfl, hna, hnb⟩
    obtain ⟨R, hcall, hR⟩ := hit (W.heap.size + 1) rc hrec rfl rfl
    have hen := run_enterLoop_outer (P := P) (w := W) fn (act n ρ (marksOf ms)).tmps ps as bd
    have hOk1 : Ok (d :: (L ++ (markH (W.heap.size :: ms) ++ F))) (W.alloc (.deferred (some []))) := Ok.toFrame.1 (hOk.push (.deferred (some [])))
    have hOk2 : Ok (d :: ((sg (W.heap.size + 1) (.loop rc) :: L) ++ (markH (W.heap.size :: ms) ++ F))) ((W.alloc (.deferred (some []))).alloc (.loop rc)) := by
      have := hOk1.push (.loop rc)
      rwa [World.size_alloc] at this
    have hk2 : Keep W0 ((W.alloc (.deferred (some []))).alloc (.loop rc)) := (hk.trans (keep_alloc _ _)).trans (keep_alloc _ _)
    refine ⟨W.heap.size + 1, _, (W.alloc (.deferred (some []))).alloc (.loop rc), { target := .fn (.func g) cap, args := first ++ #[.func (.yield (W.heap.size + 1)) #[] #[]] }, (W.alloc (.deferred (some []))).alloc (.loop rc), g, first ++ #[.func (.yield (W.heap.size + 1)) #[] #[]] ++ cap, (W.alloc (.deferred (some []))).alloc (.loop rc), hen, ?_, fun _ _ => trivial, ?_, fun h => by simp [Fence.wide] at h, ?_⟩
    · simp only [resolve, Sem.run_bind, hev, Deferred.ofValue, Sem.run_pure, Result.andThen, Array.map_singleton]
      simp [Act.eval]
    · simp only [invoke]; exact callFunc_run hcall.1 _ _
    refine callsIn_wide.2 ?_
    have hc := hcall.2 (markH (W.heap.size :: ms) ++ F) _ hOk2
    have ha : (first.toList ++ [Value.func (.yield (W.heap.size + 1)) #[] #[]] ++ cap.toList).toArray = first ++ #[.func (.yield (W.heap.size + 1)) #[] #[]] ++ cap := by apply Array.ext'; simp
    rw [ha] at hc
    refine hc.mono ?_
    rintro e w2 ⟨d2, L2, q1, q2, q3, q4⟩
    obtain ⟨v, rc', L3, rfl, rfl, hst, hpend⟩ := hR e d2 L2 q2 q4
    have q1' := Ok.toFrame.1 q1
    have hl := q1'.loopAt
    refine ⟨_, _, run_endLoop hl hst, ?_⟩
    have q5 : Ok (d2 :: (L3 ++ (markH (W.heap.size :: ms) ++ F))) (w2.putObj (W.heap.size + 1) (.loop { rc' with state := .exhausted })) :=
      (q1'.putLoop (o' := .loop { rc' with state := .exhausted })).sub (List.Sublist.cons_cons _ (List.Sublist.append_left (List.sublist_cons_self _ _) _))
    have q6 := hk2.trans (q3.trans (keep_putObj w2 (W.heap.size + 1) (.loop { rc' with state := .exhausted })))
    obtain ⟨w4, hw4⟩ : ∃ w4, w2.putObj (W.heap.size + 1) (.loop { rc' with state := .exhausted }) = w4 := ⟨_, rfl⟩
    rw [hw4] at q5 q6 ⊢
    clear hw4
    cases hp : rc'.pending with
    | none =>
      rw [hp] at hpend
      exact ⟨W.heap.size :: ms, ρ, d2, L3, rfl, q5, hle.trans q2, q6, hpend⟩
    | some j =>
      rw [hp] at hpend
      cases j with
      | exit id => exact wpIn_exit ⟨W.heap.size :: ms, ρ, d2, L3, rfl, q5, hle.trans q2, q6, hpend⟩
      | ret => exact wpIn_ret ⟨W.heap.size :: ms, ρ, d2, L3, rfl, q5, hle.trans q2, q6, hpend⟩
      | _ => exact hpend.elim
  | _ => intro Q ρ d L W ms h; exact h.elim

theorem takes {P : Program} {fn : Func} {tmps : Array Value} {R : Ending → World → Prop} {d : PHeap} {L F : List PHeap} {W0 : World} {u : FrameMode} (hu : u ≠ .run)
    (fin : ∀ w, Ok (d :: (L ++ F)) w → Keep W0 w → LeavesIn Fence.wide 0 P fn tmps R [] u w) : ∀ (ms : List Nat) (w : World), Ok (d :: (L ++ (markH ms ++ F))) w → Keep W0 w → LeavesInM Fence.wide 0 P fn tmps R (marksOf ms) u w
  | [], w, h, hk => fin w h hk
  | r :: ms, w, h, hk => by
    refine ⟨hu, .inl ⟨r, _, rfl, run_takeDeferred h.loopAt, ?_⟩⟩
    refine takes hu fin ms _ ?_ (hk.trans (keep_putObj _ _ _))
    exact (h.putLoop (o' := .deferred none)).sub (List.Sublist.cons_cons _ (List.Sublist.append_left (List.sublist_cons_self _ _) _))
theorem GCallX_of {yl pr : Bool} {P : Program} {f : FuncId} {g : GFunX} (hd : decx yl pr P f = some g) {args : List Value} (ha : args.length ≤ g.n) {d : PHeap} {L : List PHeap} {R : Ending → PHeap → List PHeap → Prop}
    (h : xwp P g.code (mkPost g.res R) (env0 args) d L) : GCall P f args d L R := by
  simp only [decx] at hd
  split at hd <;> try cases hd
  rename_i fn hf
  split at hd <;> try cases hd
  rename_i hn
  split at hd <;> try cases hd
  rename_i c hb
  rw [Option.map_eq_some_iff] at hd
  obtain ⟨rs, hr, rfl⟩ := hd
  simp only [Bool.or_eq_true, not_or, Bool.not_eq_true, Bool.not_eq_false'] at hn
  refine ⟨⟨fn, hf, by rw [hb]; rfl, hn.1⟩, fun F W hOk => ?_⟩
  refine (callsIn_wide (n := 0)).1 (callsIn_of_wp_marks hf hb trivial ?_)
  have hinit : ({ tmps := args.toArray ++ Array.replicate (fn.ntmps - args.toArray.size) undef, defers := [] } : Act) = act fn.ntmps (env0 args) (marksOf []) := by
    simp only [act, Act.mk.injEq, marksOf, List.map_nil, and_true]
    apply Array.ext
    · simp at ha ⊢; omega
    · intro i h1 h2
      simp only [Array.getElem_ofFn, env0]
      by_cases hi : i < args.length
      · rw [Array.getElem_append_left (by simpa using hi)]; simp [hi]
      · rw [Array.getElem_append_right (by simpa using hi)]; simp [List.getD, List.getElem?_eq_none (Nat.le_of_not_lt hi)]
  rw [hinit]
  have hs := xwp_sound (F := F) (W0 := W) (d0 := d) (m := 0) (by simpa using hn.2) c _ _ d L W [] h hOk (Le.refl d) (Keep.refl W)
  refine wpIn_mono hs ?_
  have fin : ∀ ms ρ d' L' w, Ok (d' :: (L' ++ (markH ms ++ F))) w → Le d d' → Keep W w → retPost rs R ρ d' L' → LeavesInM Fence.wide 0 P fn (act fn.ntmps ρ []).tmps (fun e w' => ∃ d' L', Ok (d' :: (L' ++ F)) w' ∧ Le d d' ∧ Keep W w' ∧ R e d' L') (marksOf ms) .returning w := by
    rintro ms ρ d' L' w h1 h2 h3 ⟨vs, h4, d'', L'', h5, h6⟩
    refine takes (W0 := W) (by simp) ?_ ms w h1 h3
    intro w' k1 k2
    refine ⟨resV vs, ?_, d'', L'', h5.2 F w' k1, h2.trans h5.1, k2, h6⟩
    have hl : ∀ a v, HC d' L' a v → w'.cell? a = some v := fun a v hc => hc.cell k1.head (fun q hq => k1.2 q (by simp [hq]))
    have := results_run (P := P) (n := fn.ntmps) (ρ := ρ) (ds := []) hl fn.results.toList rs vs hr h4
    rw [results_eq, Array.mapM_eq_mapM_toList]
    simp only [Sem.run_bind, Sem.run_map, this, Result.andThen, Sem.run_pure]
    cases vs with
    | nil => rfl
    | cons v vs => cases vs with
      | nil => rfl
      | cons v' vs => rfl
  intro e a w hq
  cases e with
  | normal =>
    obtain ⟨ms, ρ, d', L', rfl, k1, k2, k3, k4⟩ := hq
    exact fin ms ρ d' L' w k1 k2 k3 k4
  | ret =>
    obtain ⟨ms, ρ, d', L', rfl, k1, k2, k3, k4⟩ := hq
    exact fin ms ρ d' L' w k1 k2 k3 k4
  | panic c =>
    obtain ⟨ms, h1, d', L', h2, h3, h4, d'', L'', h5, h6⟩ := hq
    show LeavesInM Fence.wide 0 P fn a.tmps _ a.defers (.panicking c) w
    rw [h1]
    refine takes (W0 := W) (by simp) ?_ ms w h2 h4
    intro w' k1 k2
    exact ⟨d'', L'', h5.2 F w' k1, h3.trans h5.1, k2, h6⟩
  | exit i => obtain ⟨_, _, _, _, _, _, _, _, hh⟩ := hq; exact hh.elim
  | goto l => obtain ⟨_, h⟩ := hq; exact h.elim
  | outgrown => obtain ⟨_, h⟩ := hq; exact h.elim
end Go.Gk
end

section
namespace Go.Gk
open Go

def FRow (N : Nat) (v : Value) (c : List UInt8) (h : PHeap) : Prop :=
  c.length ≤ N ∧ ∃ b T, v = .slice (some ⟨b, 0, none⟩) c.length N ∧ h = bx b T (c.map byteV ++ List.replicate (N - c.length) (byteV 0))

theorem FRow.full {N : Nat} {v : Value} {c : List UInt8} {h : PHeap} (r : FRow N v c h) : ∃ b, v = .slice (some ⟨b, 0, none⟩) c.length N ∧ FRow N (.slice (some ⟨b, 0, none⟩) N N) (c ++ List.replicate (N - c.length) 0) h := by
  obtain ⟨hc, b, T, rfl, rfl⟩ := r
  have hl : (c ++ List.replicate (N - c.length) (0 : UInt8)).length = N := by simp; omega
  refine ⟨b, rfl, by omega, b, T, by rw [hl], ?_⟩
  rw [hl]
  simp
theorem FRow.bytes {N : Nat} {v : Value} {c : List UInt8} {h d : PHeap} (r : FRow N v c h) (hl : Le h d) (hN : N ≤ 140737488355328) : RBytes d v c := by
  obtain ⟨hc, b, T, rfl, rfl⟩ := r
  exact (ORow.mk (sz := 1) (xs := c.map byteV) (n := c.length) (c := N) (by simp) (by omega) hc (by omega) (by simp; omega) (by simp)).bytes hl
theorem RBytes.pre {d : PHeap} {a : Option Addr} {n c : Nat} {l : List UInt8} (h : RBytes d (.slice a n c) l) {k : Nat} (hk : k ≤ l.length) : RBytes d (.slice a k c) (l.take k) := by
  obtain ⟨a', c', b, o, e, h2, h3, h4, h5, h6, h7, h8⟩ := h
  cases e
  have hl : (l.take k).length = k := by simp; omega
  refine ⟨a, c, b, o, by rw [hl], fun h0 => ?_, h3, h4, by omega, h6, by omega, fun i hi => ?_⟩
  · rw [hl] at h0
    exact h2 (by omega)
  · obtain ⟨cs, k1, k2, k3⟩ := h8 i (by omega)
    exact ⟨cs, k1, k2, by simpa using k3⟩
section
variable {P : Program} {pan : List PanicEntry → Post} {Qn : Env → Post} {Ls L : List PHeap} {ρ : Env} {d : PHeap} {s : GS} {t : Nat} {tk : Bool}
end
end Go.Gk
end

section
namespace Go.Gk
open Go

def chunk (cs : List Value) (i sz : Nat) : List Value := (cs.drop (i * sz)).take sz
def GRow {α : Type} (sz : Nat) (R : PHeap → List Value → α → Prop) (d : PHeap) (v : Value) (xs : List α) (h : PHeap) : Prop :=
  ∃ cs, ORow sz v xs.length cs h ∧ ∀ i (hi : i < xs.length), R d (chunk cs i sz) xs[i]
def Src {α : Type} (sz : Nat) (R : PHeap → List Value → α → Prop) (d : PHeap) (Lk : List PHeap) (w : Value) (ys : List α) : Prop :=
  ∃ news, RdX d Lk w ys.length sz news ∧ (news.all (·.oneCell')) = true ∧ ∀ i (hi : i < ys.length), R d (chunk news i sz) ys[i]
def Mono {α : Type} (R : PHeap → List Value → α → Prop) : Prop := ∀ {d d' cs x}, Le d d' → R d cs x → R d' cs x

theorem mono_byte : Mono RByte := fun _ h => h
theorem mono_int : Mono RInt := fun _ h => h
section
variable {α : Type} {sz : Nat} {R : PHeap → List Value → α → Prop} {d : PHeap} {v : Value} {xs : List α} {h : PHeap}
theorem chunk_len {cs : List Value} {n i : Nat} (hl : cs.length = n * sz) (hi : i < n) : (chunk cs i sz).length = sz := by
  have : (i + 1) * sz ≤ n * sz := Nat.mul_le_mul_right sz hi
  rw [Nat.add_mul, Nat.one_mul] at this
  simp only [chunk, List.length_take, List.length_drop, hl]
  omega
theorem GRow.nil : GRow sz R d (.slice none 0 0) [] emp := ⟨[], ORow.nil sz, fun i hi => absurd hi (Nat.not_lt_zero i)⟩
theorem GRow.mono (hR : Mono R) (o : GRow sz R d v xs h) {d' : PHeap} (hl : Le d d') : GRow sz R d' v xs h :=
  let ⟨cs, h1, h2⟩ := o
  ⟨cs, h1, fun i hi => hR hl (h2 i hi)⟩
theorem GRow.val (o : GRow sz R d v xs h) : ∃ a c, v = .slice a xs.length c := by
  obtain ⟨cs, h1, _⟩ := o
  obtain ⟨a, b, c, e, _⟩ := h1.slice
  exact ⟨a, c, e⟩
theorem RSl.val (o : RSl sz R d v xs) : ∃ a c, v = .slice a xs.length c := let ⟨a, c, _, _, e, _⟩ := o; ⟨a, c, e⟩
theorem GRow.rsl (o : GRow sz R d v xs h) (hR : Mono R) (hsz : 0 < sz) {d' : PHeap} (hl : Le d d') (hh : Le h d') : RSl sz R d' v xs := by
  obtain ⟨cs, h1, h2⟩ := o
  exact h1.rsl hh rfl hsz (fun i hi => hR hl (h2 i hi))
theorem Src.lit {Lk : List PHeap} {b c n : Nat} {T : TypeId} {cs : List Value} {ys : List α} (i : Nat) (hi : Lk[i]? = some (bx b T cs)) (hn : n = ys.length) (hl : cs.length = ys.length * sz) (h1 : (cs.all (·.oneCell')) = true)
    (h2 : ∀ i (hi : i < ys.length), R d (chunk cs i sz) ys[i]) : Src sz R d Lk (.slice (some ⟨b, 0, none⟩) n c) ys := by
  subst hn
  exact ⟨cs, RdX.lit i hi hl, h1, h2⟩
theorem GRow.lit {b n : Nat} {T : TypeId} {cs : List Value} (hn : n = xs.length) (hl : cs.length = xs.length * sz) (hx : xs.length ≤ 140737488355328) (h2 : ∀ i (hi : i < xs.length), R d (chunk cs i sz) xs[i]) :
    GRow sz R d (.slice (some ⟨b, 0, none⟩) n n) xs (bx b T cs) := by
  subst hn
  exact ⟨cs, ORow.lit hl hx, h2⟩
end
theorem GRow.bytes {d : PHeap} {v : Value} {xs : List UInt8} {h : PHeap} (o : GRow 1 RByte d v xs h) : ORow 1 v xs.length (xs.map byteV) h := by
  obtain ⟨cs, h1, h2⟩ := o
  have hl := h1.1
  have : cs = xs.map byteV := by
    apply List.ext_getElem
    · simp at hl ⊢; exact hl
    · intro i h3 h4
      have h5 : i < xs.length := by simpa using h4
      have h6 : chunk cs i 1 = [byteV xs[i]] := h2 i h5
      simp only [chunk, Nat.mul_one] at h6
      have h7 := congrArg (·[0]?) h6
      simp only [List.getElem?_take_of_lt (show 0 < 1 by omega), List.getElem?_drop, Nat.add_zero, List.getElem?_eq_getElem h3, List.getElem?_cons_zero, Option.some.injEq] at h7
      simp [h7]
  rw [← this]; exact h1

section
variable {P : Program} {pan : List PanicEntry → Post} {Qn : Env → Post} {Ls L : List PHeap} {ρ : Env} {d : PHeap} {s : GS} {t : Nat} {tk : Bool}
end
section
variable {P : Program} {Q : GPost} {ρ : Env} {d : PHeap} {L : List PHeap}
end
section
variable {P : Program} {pan : List PanicEntry → Post} {Qn : Env → Post} {Ls L : List PHeap} {ρ : Env} {d : PHeap} {s t : GS} {g : GOp}
theorem w_doneE (h : ∃ d1 L1, Vs d L d1 L1 ∧ Qn ρ d1 L1) : gws P pan Qn .done [] ρ d L := h
end
section
variable {P : Program} {pan : List PanicEntry → Post} {Qn : Env → Post} {Ls L : List PHeap} {ρ : Env} {d : PHeap} {s : GS} {t : Nat} {tk : Bool}
end
theorem GCall.monoV {P : Program} {f : FuncId} {args : List Value} {d : PHeap} {L : List PHeap} {R R' : Ending → PHeap → List PHeap → Prop}
    (h : GCall P f args d L R) (hr : ∀ e d' L', Le d d' → R e d' L' → ∃ d2 L2, Vs d' L' d2 L2 ∧ R' e d2 L2) : GCall P f args d L R' :=
  ⟨h.1, fun F W x => (h.2 F W x).mono fun e W' ⟨d', L', a, b, c, r⟩ => let ⟨d2, L2, v, r2⟩ := hr e d' L' b r; ⟨d2, L2, v.2 F W' a, b.trans v.1, c, r2⟩⟩
theorem GCall.monoR {P : Program} {f : FuncId} {args : List Value} {d : PHeap} {L : List PHeap} {R R' : Value → PHeap → List PHeap → Prop}
    (h : GCall P f args d L (Ret R)) (hr : ∀ v d' L', Le d d' → R v d' L' → ∃ d2 L2, Vs d' L' d2 L2 ∧ R' v d2 L2) : GCall P f args d L (Ret R') :=
  h.monoV (fun e d' L' hl r => by
    cases e with
    | returned v => exact hr v d' L' hl r
    | panicked c => exact r.elim
    | outgrown => exact r.elim)
end Go.Gk
end

section
namespace Go.Gk
open Go

theorem Vs.cons {d d' h : PHeap} {L L' : List PHeap} (v : Vs d L d' L') : Vs d (h :: L) d' (h :: L') :=
  ⟨v.1, fun F W x => (v.2 (h :: F) W (x.perm (List.perm_middle.symm.cons d))).perm (List.perm_middle.cons d')⟩
section
variable {P : Program} {pan : List PanicEntry → Post} {Qn : Env → Post} {Ls L : List PHeap} {ρ : Env} {d : PHeap} {s : GS} {t : Nat} {tk : Bool}
theorem w_callA {f : FuncId} {args : List Operand} {R : Value → PHeap → List PHeap → Prop} {vs : List Value} {A B : List PHeap} (hL : L = A ++ B) (ea : args.map (ev ρ) = vs) (hc : GCall P f vs d A (Ret R))
    (h : ∀ v d' L', Le d d' → R v d' L' → gws P pan Qn s Ls (upd ρ t v) d' (L' ++ B)) : gws P pan Qn (.op false ⟨some t, none, .call f args⟩ s) Ls ρ d L := by
  subst hL
  refine w_calln A.length ea (by rw [List.take_left]; exact hc) (fun v d' L' hl hr => ?_)
  rw [List.drop_left]; exact h v d' L' hl hr
end

section
variable {P : Program} {pan : List PanicEntry → Post} {Qn : Env → Post} {Ls L : List PHeap} {ρ : Env} {d : PHeap} {s : GS} {t : Nat} {tk : Bool} {α : Type} {sz : Nat} {R : PHeap → List Value → α → Prop} {x y z : Operand} {v : Value} {xs : List α} {kk kk' : IntKind} {n m : Nat}
end
section
variable {P : Program} {pan : List PanicEntry → Post} {Qn : Env → Post} {Ls L : List PHeap} {ρ : Env} {d : PHeap} {s : GS} {t : Nat}
end
section
variable {P : Program} {Q : GPost} {ρ : Env} {d : PHeap} {L : List PHeap}
theorem finV {res : List GRes} {R : Ending → PHeap → List PHeap → Prop} (vs : List Value) {d' : PHeap} {L' : List PHeap} (hr : resAll ρ (HC d L) res vs) (hs : Vs d L d' L') (h : R (.returned (resV vs)) d' L') : retPost res R ρ d L :=
  ⟨vs, hr, d', L', hs, h⟩
end
section
variable {P : Program} {pan : List PanicEntry → Post} {Qn : Env → Post} {Ls L : List PHeap} {ρ : Env} {d : PHeap} {s : GS} {t : Nat} {tk : Bool}
end
end Go.Gk
end

section
namespace Go.Gk
open Go
section
variable {P : Program} {pan : List PanicEntry → Post} {Qn : Env → Post} {Ls L : List PHeap} {ρ : Env} {d : PHeap} {s : GS} {t : Nat} {tk : Bool}
theorem w_stE {n : Nat} {x y : Operand} {b o : Nat} {T : TypeId} {l : List Value} {v : Value} (i : Nat) (l' : List Value) (hi : L[i]? = some (bx b T l)) (ex : ev ρ x = .pointer (some ⟨b, o, none⟩)) (ey : ev ρ y = v)
    (hn : v.cells.size = n) (hl : o + n ≤ l.length) (h1 : (v.cells.toList.all (·.oneCell')) = true) (hp : patch l o v.cells.toList = l') (h : gws P pan Qn s Ls ρ d (L.set i (bx b T l'))) :
    gws P pan Qn (.op false ⟨none, none, .st n x y⟩ s) Ls ρ d L := by subst hp; exact w_st i hi ex ey hn hl h1 h
end
end Go.Gk
end

section
namespace Go.Gk
open Go

section
variable {P : Program} {Q : GPost} {ρ : Env} {d : PHeap} {L : List PHeap}
theorem x_sq {a b : XCode} (h : xwp P a { Q with n := xwp P b Q } ρ d L) : xwp P (.seq a b) Q ρ d L := h
theorem x_g {c : GCode} (h : gwp P c Q ρ d L) : xwp P (.g c) Q ρ d L := h
theorem x_ifT {c : Operand} {a b : XCode} (e : ev ρ c = .bool true) (h : xwp P a Q ρ d L) : xwp P (.cond c a b) Q ρ d L := ⟨true, e, fun _ => h, fun q => by cases q⟩
theorem x_block {id : Nat} {a : XCode} (h : xwp P a { Q with ex := fun j => if j = id then Q.n else Q.ex j } ρ d L) : xwp P (.block id a) Q ρ d L := h
theorem x_slots {c : XCode} (l : List (Nat × Value)) (e : SlotsAre ρ l) (h : xwp P c Q (updL ρ l) d L) : xwp P c Q ρ d L := by rwa [updL_same e] at h
end
theorem xwp_mono' {P : Program} : ∀ (c : XCode) {Q Q' : GPost} {ρ : Env} {d : PHeap} {L : List PHeap}, xwp P c Q ρ d L → (∀ ρ d L, Q.n ρ d L → Q'.n ρ d L) → (∀ i ρ d L, Q.ex i ρ d L → Q'.ex i ρ d L) →
    (∀ ρ d L, Q.ret ρ d L → Q'.ret ρ d L) → Q.pan = Q'.pan → xwp P c Q' ρ d L
  | .g c, _, _, _, _, _, h, h1, h2, h3, h4 => gwp_mono' c h h1 h2 h3 h4
  | .seq a b, _, _, _, _, _, h, h1, h2, h3, h4 => xwp_mono' a h (fun _ _ _ h => xwp_mono' b h h1 h2 h3 h4) h2 h3 h4
  | .cond c a b, _, _, _, _, _, ⟨t, e, k1, k2⟩, h1, h2, h3, h4 => ⟨t, e, fun q => xwp_mono' a (k1 q) h1 h2 h3 h4, fun q => xwp_mono' b (k2 q) h1 h2 h3 h4⟩
  | .block id a, Q, Q', _, _, _, h, h1, h2, h3, h4 => by
    refine xwp_mono' a (Q := { Q with ex := fun j => if j = id then Q.n else Q.ex j }) (Q' := { Q' with ex := fun j => if j = id then Q'.n else Q'.ex j }) h h1 (fun i ρ d L hq => ?_) h3 h4
    simp only at hq ⊢
    split at hq
    · rename_i e; rw [if_pos e]; exact h1 _ _ _ hq
    · rename_i e; rw [if_neg e]; exact h2 _ _ _ _ hq
  | .loop a, Q, Q', _, _, _, ⟨I, ⟨m, hI⟩, round⟩, h1, h2, h3, h4 =>
    ⟨I, ⟨m, hI⟩, fun m ρ d L hi => xwp_mono' a (Q := { Q with n := _ }) (Q' := { Q' with n := _ }) (round m ρ d L hi) (fun _ _ _ h => h) h2 h3 h4⟩
  | .yl pre dst f args post, Q, Q', _, _, _, h, h1, _, _, h4 => by
    simp only [xwp] at h ⊢
    rw [← h4]
    refine gws_mono (fun ρ d L hm => ?_) pre h
    obtain ⟨l, A, B, R, e1, e2, hy, hR⟩ := hm
    exact ⟨l, A, B, R, e1, e2, hy, fun v d2 L2 hl hr => by rw [← h4]; exact gws_mono h1 post (hR v d2 L2 hl hr)⟩
  | .snd pre dst ch x post, Q, Q', _, _, _, h, h1, _, _, h4 => by
    simp only [xwp] at h ⊢
    rw [← h4]
    refine gws_mono (fun ρ d L hm => ?_) pre h
    obtain ⟨i, c, cap, buf, s, r, tm, e1, e2, e3, hR⟩ := hm
    exact ⟨i, c, cap, buf, s, r, tm, e1, e2, e3, by rw [← h4]; exact gws_mono h1 post hR⟩
  | .sel pre dst ch z post, Q, Q', _, _, _, h, h1, _, _, h4 => by
    simp only [xwp] at h ⊢
    rw [← h4]
    refine gws_mono (fun ρ d L hm => ?_) pre h
    obtain ⟨i, c, cap, buf, s, r, tm, e1, e2, k1, k2⟩ := hm
    exact ⟨i, c, cap, buf, s, r, tm, e1, e2, fun v rest e => by rw [← h4]; exact gws_mono h1 post (k1 v rest e), fun e => by rw [← h4]; exact gws_mono h1 post (k2 e)⟩
  | .rf f ps as bd, _, _, _, _, _, ⟨g, first, cap, e1, hit⟩, h1, h2, h3, h4 => by
    refine ⟨g, first, cap, e1, fun l rc k1 k2 k3 => ?_⟩
    obtain ⟨R, hc, hR⟩ := hit l rc k1 k2 k3
    refine ⟨R, hc, fun e d' L' hl hr => ?_⟩
    obtain ⟨v, rc', L'', q1, q2, q3, q4⟩ := hR e d' L' hl hr
    refine ⟨v, rc', L'', q1, q2, q3, ?_⟩
    cases hp : rc'.pending with
    | none => rw [hp] at q4; exact h1 _ _ _ q4
    | some j =>
      rw [hp] at q4
      cases j with
      | exit id => exact h2 _ _ _ _ q4
      | ret => exact h3 _ _ _ q4
      | _ => exact q4
theorem xwp_mono {P : Program} {c : XCode} {Q : GPost} {N N' : Env → Post} (hn : ∀ ρ d L, N ρ d L → N' ρ d L) {ρ : Env} {d : PHeap} {L : List PHeap} (h : xwp P c { Q with n := N } ρ d L) : xwp P c { Q with n := N' } ρ d L :=
  xwp_mono' c h hn (fun _ _ _ _ h => h) (fun _ _ _ h => h) rfl
section
variable {P : Program} {Q : GPost} {ρ : Env} {d : PHeap} {L : List PHeap}
theorem x_loopS {α : Type} {a : XCode} (slots : α → List (Nat × Value)) (inv : α → PHeap → List PHeap → Prop) (meas : α → Nat) (x0 : α) (h0 : SlotsAre ρ (slots x0)) (i0 : inv x0 d L)
    (round : ∀ x ρ d L, inv x d L → xwp P a { Q with n := fun ρ d L => ∃ x', meas x' < meas x ∧ SlotsAre ρ (slots x') ∧ inv x' d L } (updL ρ (slots x)) d L) : xwp P (.loop a) Q ρ d L := by
  refine ⟨fun m ρ d L => ∃ x, meas x = m ∧ SlotsAre ρ (slots x) ∧ inv x d L, ⟨meas x0, x0, rfl, h0, i0⟩, ?_⟩
  rintro m ρ d L ⟨x, rfl, h1, h2⟩
  exact x_slots _ h1 (xwp_mono (fun ρ' d' L' ⟨x', k1, k2, k3⟩ => ⟨meas x', k1, x', rfl, k2, k3⟩) (round x ρ d L h2))
theorem x_yl {pre post : GS} {dst : Option Nat} {f : Operand} {args : List Operand} (h : gws P Q.pan (ylMid P Q dst f args post) pre [] ρ d L) : xwp P (.yl pre dst f args post) Q ρ d L := h
theorem x_yield {dst : Option Nat} {f : Operand} {args : List Operand} {post : GS} {l : Nat} {vs : List Value} (A B : List PHeap) {R : Value → PHeap → List PHeap → Prop} (ef : ev ρ f = .func (.yield l) #[] #[]) (hL : L = A ++ B) (ea : args.map (ev ρ) = vs) (hy : GYield P l vs d A R)
    (k : ∀ v d2 L2, Le d d2 → R v d2 L2 → gws P Q.pan Q.n post [] (put ρ dst v) d2 (L2 ++ B)) : ylMid P Q dst f args post ρ d L :=
  ⟨l, A, B, R, ef, hL, ea ▸ hy, k⟩
end
end Go.Gk
end

section
namespace Go.Gk
open Go
section
variable {P : Program} {pan : List PanicEntry → Post} {Qn : Env → Post} {Ls L : List PHeap} {ρ : Env} {d : PHeap} {s : GS} {t : Nat} {tk : Bool}
theorem w_quoT {x y : Operand} {a b : Int} (ex : ev ρ x = .int .i64 a) (ey : ev ρ y = .int .i64 b) (h1 : -9223372036854775808 ≤ a) (h2 : a ≤ 9223372036854775807) (h3 : 2 ≤ b) (h : gws P pan Qn s Ls (upd ρ t (.int .i64 (a.tdiv b))) d L) :
    gws P pan Qn (.op tk ⟨some t, none, .bin .quo x y⟩ s) Ls ρ d L := by
  refine w_bin ?_ h
  have h4 : ¬ b = 0 := by omega
  have h5 : (a.tdiv b).natAbs ≤ a.natAbs := by rw [Int.natAbs_tdiv]; exact Nat.div_le_self _ _
  have h6 : a = -9223372036854775808 → (a.tdiv b).natAbs ≤ 9223372036854775807 := by
    intro e
    rw [Int.natAbs_tdiv, e]
    have : 2 ≤ b.natAbs := by omega
    have e2 : (-9223372036854775808 : Int).natAbs = 9223372036854775808 := by decide
    rw [e2]
    have := Nat.div_le_div_left (a := 9223372036854775808) this (by omega)
    exact Nat.le_trans this (by decide)
  rw [ex, ey]; simp [binV, h4]; exact wrap64_eq (by omega) (by omega)
end
theorem GCall.forget {P : Program} {f : FuncId} {args : List Value} {d : PHeap} {L : List PHeap} {Q : Value → List PHeap → Prop} (h : GCall P f args d L (Ret fun r _ L' => Q r L')) : GCall P f args d L (Ret fun r d' L' => d' = d ∧ Q r L') :=
  ⟨h.1, fun F W x => (h.2 F W x).mono fun e W' ⟨d', L', a, b, c, r⟩ => ⟨d, L', a.le b, Le.refl d, c, by
    cases e with
    | returned v => exact ⟨rfl, r⟩
    | panicked c => exact r.elim
    | outgrown => exact r.elim⟩⟩
theorem GPure.of {P : Program} {f : FuncId} {args : List Value} {d : PHeap} {v : Value} (h : GCall P f args d [] (Ret fun r _ L' => r = v ∧ L' = [])) : GPure P f args d v :=
  (GCall.forget (Q := fun r L' => r = v ∧ L' = []) h).mono fun e d' L' _ r => by
    cases e with
    | returned v => exact ⟨r.2.1, r.1, r.2.2⟩
    | panicked c => exact r.elim
    | outgrown => exact r.elim
section
variable {ρ : Env} {d : PHeap} {L : List PHeap} {t u : Nat}
end
end Go.Gk
end

section
namespace Go.Gk
open Go
section
variable {P : Program} {pan : List PanicEntry → Post} {Qn : Env → Post} {Ls L : List PHeap} {ρ : Env} {d : PHeap} {s : GS} {t : Nat} {tk : Bool}
end
end Go.Gk
end

section
namespace Go.Gk
open Go
section
variable {P : Program} {pan : List PanicEntry → Post} {Qn : Env → Post} {Ls L : List PHeap} {ρ : Env} {d : PHeap} {s : GS} {t : Nat} {tk : Bool}
end
end Go.Gk
end

section
namespace Go.Gk
open Go
section
variable {P : Program} {pan : List PanicEntry → Post} {Qn : Env → Post} {Ls L : List PHeap} {ρ : Env} {d : PHeap} {s : GS}
end
end Go.Gk
namespace Go.Gk
open Go
section
variable {P : Program} {pan : List PanicEntry → Post} {Qn : Env → Post} {Ls L : List PHeap} {ρ : Env} {d : PHeap} {s : GS} {t : Nat} {tk : Bool}
end
end Go.Gk
namespace Go.Gk
open Go
theorem get_patch {l vs : List Value} {o k : Nat} (h : o + vs.length ≤ l.length) : (patch l o vs)[k]? = if o ≤ k ∧ k < o + vs.length then vs[k - o]? else l[k]? := by
  unfold patch
  have hl : (l.take o).length = o := by rw [List.length_take]; omega
  by_cases h1 : k < o
  · rw [if_neg (by omega), List.append_assoc, List.getElem?_append_left (by omega), List.getElem?_take_of_lt h1]
  by_cases h2 : k < o + vs.length
  · rw [if_pos ⟨by omega, h2⟩, List.getElem?_append_left (by rw [List.length_append]; omega), List.getElem?_append_right (by omega), hl]
  · rw [if_neg (by omega), List.getElem?_append_right (by rw [List.length_append]; omega), List.getElem?_drop, List.length_append, hl]
    congr 1; omega
theorem patch_len {l vs : List Value} {o : Nat} (h : o + vs.length ≤ l.length) : (patch l o vs).length = l.length := by
  unfold patch; simp only [List.length_append, List.length_take, List.length_drop]; omega
theorem take_patch {l vs : List Value} {o n : Nat} (h : o + vs.length ≤ n) (hn : n ≤ l.length) : (patch l o vs).take n = patch (l.take n) o vs := by
  refine List.ext_getElem? fun k => ?_
  have hl : (l.take n).length = n := by rw [List.length_take]; omega
  rw [get_patch (by omega)]
  by_cases hk : k < n
  · rw [List.getElem?_take_of_lt hk, List.getElem?_take_of_lt hk, get_patch (by omega)]
  · rw [if_neg (by omega), List.getElem?_eq_none (by rw [List.length_take]; omega), List.getElem?_eq_none (by omega)]
theorem get_chunk {cs : List Value} {i sz k : Nat} : (chunk cs i sz)[k]? = if k < sz then cs[i * sz + k]? else none := by
  unfold chunk
  by_cases h : k < sz
  · rw [List.getElem?_take_of_lt h, List.getElem?_drop, if_pos h]
  · rw [if_neg h, List.getElem?_eq_none (by rw [List.length_take]; omega)]
theorem chunk_patch {cs vs : List Value} {i m sz n : Nat} (hl : cs.length = n * sz) (hv : vs.length = sz) (hm : m < n) : chunk (patch cs (m * sz) vs) i sz = if i = m then vs else chunk cs i sz := by
  have h1 : m * sz + sz ≤ n * sz := by have := Nat.mul_le_mul_right sz (show m + 1 ≤ n from hm); rwa [Nat.add_mul, Nat.one_mul] at this
  refine List.ext_getElem? fun k => ?_
  rw [get_chunk]
  by_cases e : i = m
  · subst e
    rw [if_pos rfl]
    by_cases hk : k < sz
    · rw [if_pos hk, get_patch (by omega), if_pos (by omega)]
      congr 1; omega
    · rw [if_neg hk, List.getElem?_eq_none (by omega)]
  · rw [if_neg e, get_chunk]
    by_cases hk : k < sz
    · rw [if_pos hk, if_pos hk, get_patch (by omega), if_neg]
      rintro ⟨a, b⟩
      rcases Nat.lt_or_gt_of_ne e with q | q
      · have := Nat.mul_le_mul_right sz (show i + 1 ≤ m from q); rw [Nat.add_mul, Nat.one_mul] at this; omega
      · have := Nat.mul_le_mul_right sz (show m + 1 ≤ i from q); rw [Nat.add_mul, Nat.one_mul] at this; omega
    · rw [if_neg hk, if_neg hk]
theorem GRow.openV {α : Type} {sz : Nat} {R : PHeap → List Value → α → Prop} {d : PHeap} {v : Value} {xs : List α} {h : PHeap} (_ : 0 < sz) (o : GRow sz R d v xs h) {m : Nat} (hm : m < xs.length) :
    ∃ b T l c, v = .slice (some ⟨b, 0, none⟩) xs.length c ∧ h = bx b T l ∧ m * sz + sz ≤ l.length ∧ ∀ cs' x, cs'.length = sz → R d cs' x → GRow sz R d v (xs.set m x) (bx b T (patch l (m * sz) cs')) := by
  obtain ⟨cs, ⟨h1, h2, ⟨rfl, h0, rfl⟩ | ⟨b, T, l, c, rfl, rfl, h3, h4, h5, h6⟩⟩, hr⟩ := o
  · omega
  · have hmz : m * sz + sz ≤ xs.length * sz := by have := Nat.mul_le_mul_right sz (show m + 1 ≤ xs.length from hm); rwa [Nat.add_mul, Nat.one_mul] at this
    have hcz : xs.length * sz ≤ c * sz := Nat.mul_le_mul_right sz h3
    refine ⟨b, T, l, c, rfl, rfl, by omega, fun cs' x hl hx => ⟨patch cs (m * sz) cs', ?_, fun i hi => ?_⟩⟩
    · have hp : (patch cs (m * sz) cs').length = cs.length := patch_len (by omega)
      refine ⟨by rw [hp, List.length_set, h1], by rw [List.length_set]; exact h2, .inr ⟨b, T, _, c, by rw [List.length_set], rfl, by rw [List.length_set]; exact h3, h4, by rw [patch_len (by omega)]; exact h5, ?_⟩⟩
      rw [hp, take_patch (by omega) (by omega), h6]
    · rw [chunk_patch h1 hl hm]
      rw [List.length_set] at hi
      by_cases e : i = m
      · subst e
        rw [if_pos rfl, List.getElem_set_self]; exact hx
      · rw [if_neg e, List.getElem_set_ne (fun q => e q.symm)]; exact hr i hi
end Go.Gk
end

section
namespace Go.Gk
open Go
section
variable {P : Program} {pan : List PanicEntry → Post} {Qn : Env → Post} {Ls L : List PHeap} {ρ : Env} {d : PHeap} {s : GS} {t : Nat} {tk : Bool}
end
end Go.Gk
end

section
namespace Go.Gk
open Go
section
variable {P : Program} {pan : List PanicEntry → Post} {Qn : Env → Post} {Ls L : List PHeap} {ρ : Env} {d : PHeap} {s : GS} {t : Nat} {tk : Bool}
end
end Go.Gk
end

section
namespace Go.Gk
open Go

section
variable {κ ν : Type} (kE : κ → Value) (vE : ν → Value)
def ents (ms : List (κ × ν × Nat)) : List MapEntry := ms.map fun p => ⟨kE p.1, vE p.2.1, p.2.2⟩
def mp (b : Nat) (ms : List (κ × ν × Nat)) (c : Nat) : PHeap := sg b (.map (ents kE vE ms).toArray c)
end
section
variable {κ ν : Type} [DecidableEq κ]
def mGet (k : κ) : List (κ × ν × Nat) → Option ν
  | [] => none
  | p :: ms => if k = p.1 then some p.2.1 else mGet k ms
end

section
variable {κ ν : Type} {kE : κ → Value} {vE : ν → Value}
variable {P : Program} {pan : List PanicEntry → Post} {Qn : Env → Post} {Ls L : List PHeap} {ρ : Env} {d : PHeap} {s : GS} {t : Nat}
end
end Go.Gk
end

section
namespace Go.Gk
open Go

def z256 : List Value := List.replicate 256 (.int .u8 0)
section
variable {P : Program} {pan : List PanicEntry → Post} {Qn : Env → Post} {Ls L : List PHeap} {ρ : Env} {d : PHeap} {s : GS} {t : Nat} {tk : Bool}
theorem w_idxN {x i : Operand} {sz b n c : Nat} {k : IntKind} {j : Int} (m : Nat) (ex : ev ρ x = .slice (some ⟨b, 0, none⟩) n c) (ei : ev ρ i = .int k j) (hm : j = (m : Int)) (hl : m < n)
    (h : gws P pan Qn s Ls (upd ρ t (.pointer (some ⟨b, m * sz, none⟩))) d L) : gws P pan Qn (.op tk ⟨some t, none, .idx sz x i⟩ s) Ls ρ d L :=
  w_idx (o := 0) m ex ei hm hl (SAd.some n b 0) (by rw [Nat.zero_add]; exact h)
end
theorem GRow.at {α : Type} {sz : Nat} {R : PHeap → List Value → α → Prop} {d : PHeap} {v : Value} {xs : List α} {h : PHeap} (hsz : 0 < sz) (o : GRow sz R d v xs h) {m : Nat} (hm : m < xs.length) :
    ∃ b T l c cs, v = .slice (some ⟨b, 0, none⟩) xs.length c ∧ h = bx b T l ∧ cs.length = sz ∧ (∀ j u, cs[j]? = some u → l[m * sz + j]? = some u) ∧ m * sz + sz ≤ l.length ∧ R d cs xs[m] ∧
      ∀ cs' x, cs'.length = sz → R d cs' x → GRow sz R d v (xs.set m x) (bx b T (patch l (m * sz) cs')) := by
  obtain ⟨b, T, l, c, e1, e2, e3, e4⟩ := o.openV hsz hm
  obtain ⟨cs, ⟨h1, h2, ⟨q1, h0, q2⟩ | ⟨b', T', l', c', q1, q2, h3, h4, h5, h6⟩⟩, hr⟩ := o
  · omega
  · have hmz : m * sz + sz ≤ xs.length * sz := by have := Nat.mul_le_mul_right sz (show m + 1 ≤ xs.length from hm); rwa [Nat.add_mul, Nat.one_mul] at this
    have hbl : l'.toArray = l.toArray ∧ b' = b := by
      rw [e2] at q2
      have := (congrFun (congrFun q2 b) (.cells l.toArray T (0, 0))).mp (sg_self _ _)
      obtain ⟨z1, z2⟩ := sg_some this
      injection z2 with z3
      exact ⟨z3.symm, z1.symm⟩
    have hl' : l' = l := by simpa using hbl.1
    subst hl'
    refine ⟨b, T, l', c, chunk cs m sz, e1, e2, ?_, fun j u hu => ?_, e3, hr m hm, e4⟩
    · exact chunk_len h1 hm
    · rw [get_chunk] at hu
      split at hu
      · rename_i hj
        rw [← h6, List.getElem?_take] at hu
        split at hu
        · exact hu
        · cases hu
      · cases hu
theorem GRow.zero {α : Type} {sz : Nat} {R : PHeap → List Value → α → Prop} {d : PHeap} {b n : Nat} {T : TypeId} {z : List Value} {x : α} (hz : z.length = sz) (h0 : 0 < sz) (hx : R d z x) (hn : n ≤ 140737488355328) :
    GRow sz R d (.slice (some ⟨b, 0, none⟩) n n) (List.replicate n x) (bx b T (zrow z (n * sz))) := by
  refine GRow.lit (by simp) (by simp [zrow]) (by simpa using hn) (fun i hi => ?_)
  have hin : i < n := by simpa using hi
  have : chunk (zrow z (n * sz)) i sz = z := by
    refine List.ext_getElem? fun k => ?_
    rw [get_chunk]
    by_cases hk : k < sz
    · have h1 : (i + 1) * sz ≤ n * sz := Nat.mul_le_mul_right sz hin
      rw [Nat.add_mul, Nat.one_mul] at h1
      rw [if_pos hk, zrow, List.getElem?_map, List.getElem?_range (by omega), Option.map_some, hz, show i * sz + k = k + sz * i by rw [Nat.mul_comm]; omega, Nat.add_mul_mod_self_left, Nat.mod_eq_of_lt hk]
      rw [List.getD_eq_getElem?_getD, List.getElem?_eq_getElem (by omega)]
      simp
    · rw [if_neg hk, List.getElem?_eq_none (by omega)]
  rw [this]
  simpa using hx
theorem GCall.reorder {P : Program} {f : FuncId} {args : List Value} {d : PHeap} {L L1 : List PHeap} {R : Ending → PHeap → List PHeap → Prop} (p : L.Perm L1) (h : GCall P f args d L1 R) : GCall P f args d L R := GCall.vs (Vs.perm p) h
end Go.Gk
namespace Go.Gk
open Go
def GRead (P : Program) (f : FuncId) (args : List Value) (d : PHeap) (L : List PHeap) (v : Value) : Prop := GCall P f args d L (Ret fun r d' L' => r = v ∧ d' = d ∧ L' = L)
section
variable {P : Program} {pan : List PanicEntry → Post} {Qn : Env → Post} {Ls L : List PHeap} {ρ : Env} {d : PHeap} {s : GS} {t : Nat}
end
end Go.Gk
namespace Go.Gk
open Go
theorem x_rf {P : Program} {Q : GPost} {ρ : Env} {d : PHeap} {L : List PHeap} {f : Operand} {ps : List Nat} {as bd : GCode} {g : FuncId} {first cap : Array Value} (ef : ev ρ f = .func (.func g) first cap)
    (h : ∀ l rc, IsRec P ρ ps as bd rc → rc.state = .ready → rc.pending = none → GCall P g (first.toList ++ [.func (.yield l) #[] #[]] ++ cap.toList) d (sg l (.loop rc) :: L)
      (Ret fun _ d' L' => ∃ rc' L'', L' = sg l (.loop rc') :: L'' ∧ rc'.state ≠ .busy ∧ (match rc'.pending with | none => Q.n ρ d' L'' | some (.exit id) => Q.ex id ρ d' L'' | some .ret => Q.ret ρ d' L'' | _ => False))) : xwp P (.rf f ps as bd) Q ρ d L :=
  ⟨g, first, cap, ef, fun l rc h1 h2 h3 => ⟨_, h l rc h1 h2 h3, fun e d' L' _ hr => by
    cases e with
    | returned v => obtain ⟨rc', L'', k1, k2, k3⟩ := hr; exact ⟨v, rc', L'', rfl, k1, k2, k3⟩
    | panicked c => exact hr.elim
    | outgrown => exact hr.elim⟩⟩
end Go.Gk
namespace Go.Gk
open Go
section
variable {P : Program} {pan : List PanicEntry → Post} {Qn : Env → Post} {Ls L : List PHeap} {ρ : Env} {d : PHeap} {s : GS} {t : Nat}
theorem w_callO {f : FuncId} {args : List Operand} {R : Value → PHeap → List PHeap → Prop} {vs : List Value} (hc : GCall P f vs d L (Ret R)) (ea : args.map (ev ρ) = vs)
    (h : ∀ v d' L', Le d d' → R v d' L' → gws P pan Qn s Ls (upd ρ t v) d' L') : gws P pan Qn (.op false ⟨some t, none, .call f args⟩ s) Ls ρ d L :=
  w_callA (B := []) (List.append_nil _).symm ea hc (fun v d' L' hl hr => by rw [List.append_nil]; exact h v d' L' hl hr)
end
end Go.Gk
namespace Go.Gk
open Go
section
variable {P : Program} {pan : List PanicEntry → Post} {Qn : Env → Post} {Ls L : List PHeap} {ρ : Env} {d : PHeap} {s : GS} {t : Nat}
end
end Go.Gk
namespace Go.Gk
open Go
section
variable {P : Program} {pan : List PanicEntry → Post} {Qn : Env → Post} {Ls L : List PHeap} {ρ : Env} {d : PHeap} {s : GS} {t : Nat}
end
end Go.Gk
namespace Go.Gk
open Go
section
variable {P : Program} {pan : List PanicEntry → Post} {Qn : Env → Post} {Ls L : List PHeap} {ρ : Env} {d : PHeap} {s : GS} {t : Nat} {tk : Bool}
end
end Go.Gk
namespace Go.Gk
open Go
end Go.Gk
end

section
namespace Go.Gk.Dev
open Go Go.Gk
attribute [local irreducible] gwp gws xwp
abbrev Sec := List UInt8
structure DevD where
  syn : List Sec
  opn : List (Nat × Sec)
def RSec (_ : PHeap) (cs : List Value) (x : Sec) : Prop := cs = x.map byteV ∧ x.length = 256
def RWr (_ : PHeap) (cs : List Value) (x : Nat × Sec) : Prop := cs = .int .i64 x.1 :: x.2.map byteV ∧ x.2.length = 256
theorem mono_sec : Mono RSec := fun _ h => h
theorem mono_wr : Mono RWr := fun _ h => h
def zsec : Sec := List.replicate 256 0
def lastW (k : Nat) : List (Nat × Sec) → Option Sec
  | [] => none
  | w :: l => match lastW k l with | some b => some b | none => if w.1 = k then some w.2 else none
def DevD.cur (D : DevD) (k : Nat) : Sec := (lastW k D.opn).getD (D.syn.getD k [])
def synced (l : List (Nat × Sec)) (s : List Sec) : List Sec := l.foldl (fun s w => s.set w.1 w.2) s
theorem synced_len (l : List (Nat × Sec)) : ∀ s, (synced l s).length = s.length := by
  induction l with
  | nil => exact fun _ => rfl
  | cons w l ih => intro s; rw [synced, List.foldl_cons]; exact (ih _).trans (List.length_set ..)
def Dv (d : PHeap) (D : DevD) (v : Value) (L : List PHeap) : Prop :=
  ∃ b T vs vo r hs ho, v = .pointer (some ⟨b, 0, none⟩) ∧ L = [bx b T [vs, vo, .int .i64 r, .int .i64 0], hs, ho] ∧ GRow 256 RSec d vs D.syn hs ∧ GRow 257 RWr d vo D.opn ho ∧ (∀ w ∈ D.opn, w.1 < D.syn.length) ∧ D.syn.length ≤ 8192
theorem Dv.mono {d d' : PHeap} {D : DevD} {v : Value} {L : List PHeap} (h : Dv d D v L) (hl : Le d d') : Dv d' D v L :=
  let ⟨b, T, vs, vo, r, hs, ho, h1, h2, h3, h4, h5, h6⟩ := h
  ⟨b, T, vs, vo, r, hs, ho, h1, h2, GRow.mono (R := RSec) mono_sec h3 hl, GRow.mono (R := RWr) mono_wr h4 hl, h5, h6⟩

end Go.Gk.Dev
end

section
namespace Go.Gk.Cch
open Go Go.Gk Go.Gk.Dev

structure Fr where
  held : Bool
  sec : Nat
  pins : Nat
  late : Bool
  b : Sec
def fz : Fr := ⟨false, 0, 0, false, []⟩
structure CD where
  fr : List Fr
  free : List Nat
  hand : Nat
  hits : Nat
  miss : Nat
def findF (k : Nat) : List Fr → Option Nat
  | [] => none
  | f :: l => if f.held = true ∧ f.sec = k then some 0 else (findF k l).map (· + 1)
theorem findF_some {k : Nat} : ∀ {l : List Fr} {i : Nat}, findF k l = some i → ∃ h : i < l.length, l[i].held = true ∧ l[i].sec = k
  | [], i, h => by cases h
  | f :: l, i, h => by
    rw [findF] at h
    split at h
    · rename_i e; cases h; exact ⟨by simp, e⟩
    · cases hf : findF k l with
      | none => rw [hf] at h; cases h
      | some j =>
        rw [hf] at h; cases h
        obtain ⟨h1, h2⟩ := findF_some hf
        exact ⟨by simpa using h1, by simpa using h2⟩
theorem findF_none {k : Nat} : ∀ {l : List Fr}, findF k l = none → ∀ f ∈ l, ¬ (f.held = true ∧ f.sec = k)
  | f :: l, h, g, hg => by
    rw [findF] at h
    split at h
    · cases h
    · rename_i e
      rcases List.mem_cons.1 hg with rfl | hg
      · exact e
      · refine findF_none ?_ g hg
        cases hf : findF k l with
        | none => rfl
        | some j => rw [hf] at h; cases h
def pinnedF (l : List Fr) : Bool := l.all fun f => f.pins != 0

def takenF (l : List Fr) (h : Nat) : Bool := (l.getD h fz).pins == 0 && !(l.getD h fz).late
def passF (l : List Fr) (h : Nat) : List Fr := if (l.getD h fz).pins = 0 then l.set h { l.getD h fz with late := false } else l
def nextH (l : List Fr) (h : Nat) : Nat := (h + 1) % l.length
def sweepF : Nat → List Fr → Nat → List Fr × Nat × Nat
  | 0, l, h => (l, nextH l h, h)
  | n + 1, l, h => if takenF l h then (l, nextH l h, h) else sweepF n (passF l h) (nextH l h)
theorem passF_len (l : List Fr) (h : Nat) : (passF l h).length = l.length := by unfold passF; split <;> simp
def lates (l : List Fr) : Nat := l.countP fun f => f.pins == 0 && f.late
def dist (l : List Fr) : Nat → Nat → Nat
  | 0, _ => 0
  | n + 1, h => if (l.getD h fz).pins = 0 then 0 else dist l n (nextH l h) + 1
def measF (l : List Fr) (h : Nat) : Nat := lates l * (l.length + 1) + dist l l.length h
theorem dist_le (l : List Fr) : ∀ n h, dist l n h ≤ n
  | 0, _ => Nat.le_refl _
  | n + 1, h => by rw [dist]; split; omega; have := dist_le l n (nextH l h); omega
theorem dist_hit {l : List Fr} {j : Nat} (hj : j < l.length) (hp : (l.getD j fz).pins = 0) : ∀ (n h : Nat), h < l.length → (h + n) % l.length = j → ∀ m, n < m → dist l m h = dist l (n + 1) h
  | 0, h, hh, e, m, hm => by
    rw [Nat.add_zero, Nat.mod_eq_of_lt hh] at e
    subst e
    cases m with
    | zero => omega
    | succ m => rw [dist, dist, if_pos hp, if_pos hp]
  | n + 1, h, hh, e, m, hm => by
    cases m with
    | zero => omega
    | succ m =>
      rw [dist, dist]
      by_cases q : (l.getD h fz).pins = 0
      · rw [if_pos q, if_pos q]
      · rw [if_neg q, if_neg q]
        have h1 : nextH l h < l.length := Nat.mod_lt _ (by omega)
        have h2 : (nextH l h + n) % l.length = j := by
          rw [nextH, Nat.mod_add_mod, ← e]; congr 1; omega
        rw [dist_hit hj hp n (nextH l h) h1 h2 m (by omega)]
theorem dist_step {l : List Fr} {h : Nat} (hh : h < l.length) (hn : pinnedF l = false) (hp : (l.getD h fz).pins ≠ 0) : dist l l.length (nextH l h) < dist l l.length h := by
  obtain ⟨f, hf, hq⟩ := by simpa [pinnedF] using hn
  obtain ⟨j, hj, rfl⟩ := List.getElem_of_mem hf
  have hj0 : (l.getD j fz).pins = 0 := by rw [List.getD_eq_getElem?_getD, List.getElem?_eq_getElem hj]; exact hq
  have hpos : 0 < l.length := by omega
  -- how far j is from the next place
  have key : ∃ n, n < l.length ∧ (nextH l h + n) % l.length = j := by
    have h1 : nextH l h < l.length := Nat.mod_lt _ hpos
    refine ⟨(j + l.length - nextH l h) % l.length, Nat.mod_lt _ hpos, ?_⟩
    rw [Nat.add_mod_mod, show nextH l h + (j + l.length - nextH l h) = j + l.length by omega, Nat.add_mod_right, Nat.mod_eq_of_lt hj]
  obtain ⟨n, hn1, hn2⟩ := key
  have h1 : nextH l h < l.length := Nat.mod_lt _ hpos
  have hn3 : n ≠ l.length - 1 := by
    intro e
    subst e
    rw [nextH, Nat.mod_add_mod, show h + 1 + (l.length - 1) = h + l.length by omega, Nat.add_mod_right, Nat.mod_eq_of_lt hh] at hn2
    subst hn2
    exact hp hj0
  obtain ⟨m, hm⟩ : ∃ m, l.length = m + 1 := ⟨l.length - 1, by omega⟩
  have e1 := dist_hit hj hj0 n (nextH l h) h1 hn2 l.length hn1
  have e2 := dist_hit hj hj0 n (nextH l h) h1 hn2 m (by omega)
  have e3 : dist l l.length h = dist l m (nextH l h) + 1 := by
    rw [hm, dist, if_neg hp]
  rw [e3, e1, e2]; omega
theorem lates_set {l : List Fr} {h : Nat} (hh : h < l.length) (hp : (l.getD h fz).pins = 0) (hl : (l.getD h fz).late = true) : lates (l.set h { l.getD h fz with late := false }) + 1 = lates l := by
  unfold lates
  have e : l.getD h fz = l[h] := by rw [List.getD_eq_getElem?_getD, List.getElem?_eq_getElem hh]; rfl
  rw [e] at hp hl ⊢
  rw [List.countP_set hh]
  simp only [hp, hl]
  have : 0 < l.countP fun f => f.pins == 0 && f.late := List.countP_pos_iff.2 ⟨l[h], List.getElem_mem hh, by simp [hp, hl]⟩
  simp
  omega
theorem meas_step {l : List Fr} {h : Nat} (hh : h < l.length) (hn : pinnedF l = false) (ht : takenF l h = false) : measF (passF l h) (nextH l h) < measF l h := by
  have hd := dist_le (passF l h) (passF l h).length (nextH l h)
  rw [passF_len] at hd
  unfold measF
  rw [passF_len]
  by_cases hp : (l.getD h fz).pins = 0
  · have hl : (l.getD h fz).late = true := by
      unfold takenF at ht
      rw [hp] at ht
      simpa using ht
    have := lates_set hh hp hl
    have e : passF l h = l.set h { l.getD h fz with late := false } := by rw [passF, if_pos hp]
    rw [e] at hd ⊢
    rw [← this, Nat.add_mul, Nat.one_mul]
    omega
  · have e : passF l h = l := by rw [passF, if_neg hp]
    rw [e]
    have := dist_step hh hn hp
    omega
theorem pinned_pass {l : List Fr} {h : Nat} : pinnedF (passF l h) = pinnedF l := by
  unfold passF
  split
  · rename_i hp
    by_cases hh : h < l.length
    · have e : l.getD h fz = l[h] := by rw [List.getD_eq_getElem?_getD, List.getElem?_eq_getElem hh]; rfl
      rw [e] at hp ⊢
      have h1 : pinnedF l = false := by
        unfold pinnedF; rw [List.all_eq_false]; exact ⟨l[h], List.getElem_mem hh, by simp [hp]⟩
      have h2 : pinnedF (l.set h { l[h] with late := false }) = false := by
        unfold pinnedF; rw [List.all_eq_false]
        exact ⟨_, List.mem_set hh _, by simp [hp]⟩
      rw [h1, h2]
    · rw [List.set_eq_of_length_le (by omega)]
  · rfl
def roomF (c : CD) : CD × Option Nat :=
  match c.free with
  | i :: r => ({ c with free := r }, some i)
  | [] => if pinnedF c.fr then (c, none) else let s := sweepF (measF c.fr c.hand + 1) c.fr c.hand; ({ c with fr := s.1, hand := s.2.1 }, some s.2.2)
def getF (b : Sec) (c : CD) (k : Nat) : CD × Option Sec :=
  match findF k c.fr with
  | some i => ({ c with fr := c.fr.set i { c.fr.getD i fz with pins := (c.fr.getD i fz).pins + 1, late := true }, hits := c.hits + 1 }, some (c.fr.getD i fz).b)
  | none => match roomF c with
    | (c', none) => (c', none)
    | (c', some i) => ({ c' with fr := c'.fr.set i ⟨true, k, 1, true, b⟩, miss := c'.miss + 1 }, some b)
def leaveF (c : CD) (k : Nat) : CD × Int :=
  match findF k c.fr with
  | none => (c, 240)
  | some i => if (c.fr.getD i fz).pins = 0 then (c, 180) else ({ c with fr := c.fr.set i { c.fr.getD i fz with pins := (c.fr.getD i fz).pins - 1 } }, 0)
def forgetF (c : CD) (k : Nat) : CD × Int :=
  match findF k c.fr with
  | none => (c, 240)
  | some i => if (c.fr.getD i fz).pins > 0 then (c, 180) else ({ c with fr := c.fr.set i fz, free := c.free ++ [i] }, 0)
def heldF (c : CD) : List Int := c.fr.map fun f => if f.held then (f.sec : Int) else -1
end Go.Gk.Cch
namespace Go.Gk.Cch
open Go Go.Gk Go.Gk.Dev
def PinB (c : CD) (n : Nat) : Prop := ∀ f ∈ c.fr, f.pins ≤ n
theorem sweep_lt : ∀ (n : Nat) {l : List Fr} {h : Nat}, h < l.length → (sweepF n l h).1.length = l.length ∧ (sweepF n l h).2.2 < l.length ∧ (sweepF n l h).2.1 < l.length
  | 0, l, h, hh => ⟨rfl, hh, Nat.mod_lt _ (by omega)⟩
  | n + 1, l, h, hh => by
    rw [sweepF]
    split
    · exact ⟨rfl, hh, Nat.mod_lt _ (by omega)⟩
    · have := sweep_lt n (l := passF l h) (h := nextH l h) (by rw [passF_len]; exact Nat.mod_lt _ (by omega))
      rw [passF_len] at this
      exact this
theorem room_lt {c c1 : CD} {i : Nat} (hh : c.hand < c.fr.length) (hf : ∀ i ∈ c.free, i < c.fr.length) (h : roomF c = (c1, some i)) : i < c1.fr.length := by
  unfold roomF at h
  split at h
  · rename_i j r e
    cases h
    exact hf _ (by rw [e]; exact List.mem_cons_self ..)
  · split at h
    · cases h
    · cases h
      have := sweep_lt (measF c.fr c.hand + 1) hh
      simp only
      omega
end Go.Gk.Cch
end

section
namespace Go.Gk.Cch
open Go Go.Gk Go.Gk.Dev

theorem nodup_sub_len : ∀ {l m : List Nat}, l.Nodup → (∀ x ∈ l, x ∈ m) → l.length ≤ m.length
  | [], _, _, _ => Nat.zero_le _
  | x :: l, m, h, hs => by
    have hx := hs x (List.mem_cons_self ..)
    have := nodup_sub_len (l := l) (m := m.erase x) (List.nodup_cons.1 h).2 (fun y hy => by
      have hne : y ≠ x := fun e => (List.nodup_cons.1 h).1 (e ▸ hy)
      exact (List.mem_erase_of_ne hne).2 (hs y (List.mem_cons_of_mem _ hy)))
    rw [List.length_erase_of_mem hx] at this
    have := List.length_pos_of_mem hx
    simp only [List.length_cons]; omega

abbrev CD.at (c : CD) (i : Nat) : Fr := c.fr.getD i fz
structure Inv (cur : Nat → Sec) (N : Nat) (c : CD) : Prop where
  n1 : 1 ≤ c.fr.length
  n2 : c.fr.length ≤ 64
  hd : c.hand < c.fr.length
  fl : ∀ i ∈ c.free, i < c.fr.length
  nd : c.free.Nodup
  fh : ∀ i, i < c.fr.length → ((c.at i).held = false ↔ i ∈ c.free)
  ds : ∀ i j, i < c.fr.length → j < c.fr.length → (c.at i).held = true → (c.at j).held = true → (c.at i).sec = (c.at j).sec → i = j
  vl : ∀ i, i < c.fr.length → (c.at i).held = true → (c.at i).sec < N ∧ (c.at i).b = cur (c.at i).sec
  pz : ∀ i, i < c.fr.length → (c.at i).held = false → (c.at i).pins = 0 ∧ (c.at i).sec = 0

def pinOf (c : CD) (k : Nat) : Nat := match findF k c.fr with | some i => (c.at i).pins | none => 0
theorem at_set {l : List Fr} {i j : Nat} {f : Fr} (hi : i < l.length) : (l.set i f).getD j fz = if j = i then f else l.getD j fz := by
  simp only [List.getD_eq_getElem?_getD, List.getElem?_set]
  by_cases e : i = j
  · subst e; simp [hi]
  · rw [if_neg e, if_neg (fun h => e h.symm)]
theorem getD_get {l : List Fr} {i : Nat} (hi : i < l.length) : l.getD i fz = l[i] := by rw [List.getD_eq_getElem?_getD, List.getElem?_eq_getElem hi]; rfl
theorem findF_at {c : CD} {k i : Nat} (h : findF k c.fr = some i) : i < c.fr.length ∧ (c.at i).held = true ∧ (c.at i).sec = k := by
  obtain ⟨h1, h2, h3⟩ := findF_some h
  exact ⟨h1, by rw [CD.at, getD_get h1]; exact h2, by rw [CD.at, getD_get h1]; exact h3⟩
theorem findF_not {c : CD} {k : Nat} (h : findF k c.fr = none) {i : Nat} (hi : i < c.fr.length) (hh : (c.at i).held = true) : (c.at i).sec ≠ k := by
  intro e
  rw [CD.at, getD_get hi] at hh e
  exact findF_none h _ (List.getElem_mem hi) ⟨hh, e⟩
theorem Inv.find {cur : Nat → Sec} {N : Nat} {c : CD} (h : Inv cur N c) {k i : Nat} (hi : i < c.fr.length) (hh : (c.at i).held = true) (hs : (c.at i).sec = k) : findF k c.fr = some i := by
  cases hf : findF k c.fr with
  | none => exact absurd hs (findF_not hf hi hh)
  | some j =>
    obtain ⟨h1, h2, h3⟩ := findF_at hf
    rw [h.ds j i h1 hi h2 hh (h3.trans hs.symm)]
theorem pinOf_at {cur : Nat → Sec} {N : Nat} {c : CD} (h : Inv cur N c) {i : Nat} (hi : i < c.fr.length) (hh : (c.at i).held = true) : pinOf c (c.at i).sec = (c.at i).pins := by
  rw [pinOf, h.find hi hh rfl]
def SameB (l m : List Fr) : Prop := l.length = m.length ∧ ∀ i, (l.getD i fz).held = (m.getD i fz).held ∧ (l.getD i fz).sec = (m.getD i fz).sec ∧ (l.getD i fz).pins = (m.getD i fz).pins ∧ (l.getD i fz).b = (m.getD i fz).b
theorem SameB.refl (l : List Fr) : SameB l l := ⟨rfl, fun _ => ⟨rfl, rfl, rfl, rfl⟩⟩
theorem SameB.trans {a b c : List Fr} (h : SameB a b) (k : SameB b c) : SameB a c :=
  ⟨h.1.trans k.1, fun i => let ⟨x, y, z, w⟩ := h.2 i; let ⟨x', y', z', w'⟩ := k.2 i; ⟨x.trans x', y.trans y', z.trans z', w.trans w'⟩⟩
theorem pass_same (l : List Fr) (h : Nat) : SameB (passF l h) l := by
  unfold passF
  split
  · by_cases hh : h < l.length
    · refine ⟨by simp, fun i => ?_⟩
      rw [at_set hh]
      by_cases e : i = h
      · subst e; rw [if_pos rfl]; exact ⟨rfl, rfl, rfl, rfl⟩
      · rw [if_neg e]; exact ⟨rfl, rfl, rfl, rfl⟩
    · rw [List.set_eq_of_length_le (by omega)]; exact SameB.refl l
  · exact SameB.refl l
theorem sweep_same : ∀ (n : Nat) (l : List Fr) (h : Nat), SameB (sweepF n l h).1 l
  | 0, l, _ => SameB.refl l
  | n + 1, l, h => by
    rw [sweepF]
    split
    · exact SameB.refl l
    · exact (sweep_same n _ _).trans (pass_same l h)
theorem sweep_pins : ∀ (n : Nat) {l : List Fr} {h : Nat}, h < l.length → pinnedF l = false → measF l h < n → (l.getD (sweepF n l h).2.2 fz).pins = 0
  | 0, _, _, _, _, hm => by omega
  | n + 1, l, h, hh, hn, hm => by
    rw [sweepF]
    cases ht : takenF l h with
    | true =>
      simp only [if_true]
      unfold takenF at ht
      simp only [Bool.and_eq_true, beq_iff_eq] at ht
      exact ht.1
    | false =>
      simp only [Bool.false_eq_true, if_false]
      have := sweep_pins n (l := passF l h) (h := nextH l h) (by rw [passF_len]; exact Nat.mod_lt _ (by omega)) (by rw [pinned_pass]; exact hn) (by have := meas_step hh hn ht; omega)
      rw [((pass_same l h).2 _).2.2.1] at this
      exact this
theorem Inv.same {cur : Nat → Sec} {N : Nat} {c c' : CD} (h : Inv cur N c) (hl : c'.fr.length = c.fr.length) (hf : c'.free = c.free) (hh : c'.hand < c.fr.length)
    (he : ∀ i, (c'.at i).held = (c.at i).held ∧ (c'.at i).sec = (c.at i).sec ∧ (c'.at i).b = (c.at i).b ∧ ((c.at i).held = false → (c'.at i).pins = (c.at i).pins)) : Inv cur N c' where
  n1 := by rw [hl]; exact h.n1
  n2 := by rw [hl]; exact h.n2
  hd := by rw [hl]; exact hh
  fl := by rw [hl, hf]; exact h.fl
  nd := by rw [hf]; exact h.nd
  fh := fun i hi => by rw [(he i).1, hf]; exact h.fh i (hl ▸ hi)
  ds := fun i j hi hj h1 h2 h3 => by rw [(he i).1] at h1; rw [(he j).1] at h2; rw [(he i).2.1, (he j).2.1] at h3; exact h.ds i j (hl ▸ hi) (hl ▸ hj) h1 h2 h3
  vl := fun i hi h1 => by rw [(he i).1] at h1; rw [(he i).2.1, (he i).2.2.1]; exact h.vl i (hl ▸ hi) h1
  pz := fun i hi h1 => by rw [(he i).1] at h1; rw [(he i).2.2.2 h1, (he i).2.1]; exact h.pz i (hl ▸ hi) h1
theorem Inv.take {cur : Nat → Sec} {N : Nat} {c c1 : CD} (h : Inv cur N c) (hl : SameB c1.fr c.fr) (hh : c1.hand < c.fr.length) {i k : Nat} (hi : i < c.fr.length) (hk : k < N) (hn : findF k c.fr = none)
    (hf : (c.free = i :: c1.free) ∨ (c.free = [] ∧ c1.free = [] ∧ (c.at i).pins = 0)) {m : Nat} (c2 : CD) (e : c2 = { c1 with fr := c1.fr.set i ⟨true, k, 1, true, cur k⟩, miss := m }) :
    Inv cur N c2 ∧ (∀ s, pinOf c2 s = if s = k then pinOf c s + 1 else pinOf c s) ∧ findF k c2.fr = some i := by
  have hi1 : i < c1.fr.length := by rw [hl.1]; exact hi
  have hlen : c2.fr.length = c.fr.length := by subst e; simp [hl.1]
  have hat : ∀ j, c2.at j = if j = i then ⟨true, k, 1, true, cur k⟩ else c1.fr.getD j fz := fun j => by subst e; exact at_set hi1
  have hsame : ∀ j, j ≠ i → (c2.at j).held = (c.at j).held ∧ (c2.at j).sec = (c.at j).sec ∧ (c2.at j).pins = (c.at j).pins ∧ (c2.at j).b = (c.at j).b := fun j hj => by
    rw [hat, if_neg hj]; exact hl.2 j
  have hself : c2.at i = ⟨true, k, 1, true, cur k⟩ := by rw [hat, if_pos rfl]
  have hfree : c2.free = c1.free := by subst e; rfl
  have hsub : ∀ j, j ≠ i → (j ∈ c1.free ↔ j ∈ c.free) := fun j hj => by
    rcases hf with hf | ⟨hf1, hf2, _⟩
    · rw [hf]; simp [hj]
    · rw [hf1, hf2]
  have hni : i ∉ c1.free := by
    rcases hf with hf | ⟨_, hf2, _⟩
    · have := h.nd; rw [hf] at this; exact (List.nodup_cons.1 this).1
    · rw [hf2]; exact List.not_mem_nil
  have hpi : (c.at i).pins = 0 := by
    rcases hf with hf | ⟨_, _, hp⟩
    · exact (h.pz i hi ((h.fh i hi).2 (by rw [hf]; exact List.mem_cons_self ..))).1
    · exact hp
  have I : Inv cur N c2 :=
  { n1 := by rw [hlen]; exact h.n1
    n2 := by rw [hlen]; exact h.n2
    hd := by rw [hlen]; subst e; exact hh
    fl := fun j hj => by
      rw [hfree] at hj; rw [hlen]
      by_cases q : j = i
      · subst q; exact absurd hj hni
      · exact h.fl j ((hsub j q).1 hj)
    nd := by
      rw [hfree]
      rcases hf with hf | ⟨_, hf2, _⟩
      · have := h.nd; rw [hf] at this; exact (List.nodup_cons.1 this).2
      · rw [hf2]; exact List.nodup_nil
    fh := fun j hj => by
      rw [hlen] at hj; rw [hfree]
      by_cases q : j = i
      · subst q; rw [hself]; exact ⟨(fun z => by cases z), fun z => absurd z hni⟩
      · rw [(hsame j q).1, hsub j q]; exact h.fh j hj
    ds := fun a b ha hb h1 h2 h3 => by
      rw [hlen] at ha hb
      by_cases qa : a = i
      · by_cases qb : b = i
        · omega
        · subst qa
          rw [hself, (hsame b qb).2.1] at h3; rw [(hsame b qb).1] at h2
          exact absurd h3.symm (findF_not hn hb h2)
      · by_cases qb : b = i
        · subst qb
          rw [hself, (hsame a qa).2.1] at h3; rw [(hsame a qa).1] at h1
          exact absurd h3 (findF_not hn ha h1)
        · rw [(hsame a qa).1] at h1; rw [(hsame b qb).1] at h2; rw [(hsame a qa).2.1, (hsame b qb).2.1] at h3
          exact h.ds a b ha hb h1 h2 h3
    vl := fun a ha h1 => by
      rw [hlen] at ha
      by_cases qa : a = i
      · subst qa; rw [hself]; exact ⟨hk, rfl⟩
      · rw [(hsame a qa).1] at h1; rw [(hsame a qa).2.1, (hsame a qa).2.2.2]; exact h.vl a ha h1
    pz := fun a ha h1 => by
      rw [hlen] at ha
      by_cases qa : a = i
      · subst qa; rw [hself] at h1; cases h1
      · rw [(hsame a qa).1] at h1; rw [(hsame a qa).2.2.1, (hsame a qa).2.1]; exact h.pz a ha h1 }
  have hfk : findF k c2.fr = some i := I.find (by rw [hlen]; exact hi) (by rw [hself]) (by rw [hself])
  refine ⟨I, fun s => ?_, hfk⟩
  by_cases q : s = k
  · subst q
    rw [if_pos rfl, pinOf, hfk, pinOf, hn]
    show (c2.at i).pins = _
    rw [hself]
  · rw [if_neg q]
    cases hs : findF s c.fr with
    | some j =>
      obtain ⟨h1, h2, h3⟩ := findF_at hs
      by_cases qj : j = i
      · subst qj
        have e1 : pinOf c s = 0 := by rw [pinOf, hs]; exact hpi
        rw [e1, pinOf]
        cases ht : findF s c2.fr with
        | none => rfl
        | some a =>
          obtain ⟨g1, g2, g3⟩ := findF_at ht
          by_cases qa : a = j
          · subst qa; rw [hself] at g3; exact absurd g3.symm q
          · rw [hlen] at g1
            rw [(hsame a qa).1] at g2; rw [(hsame a qa).2.1] at g3
            exact absurd (h.ds a j g1 h1 g2 h2 (g3.trans h3.symm)) qa
      · have : findF s c2.fr = some j := I.find (by rw [hlen]; exact h1) (by rw [(hsame j qj).1]; exact h2) (by rw [(hsame j qj).2.1]; exact h3)
        rw [pinOf, this, pinOf, hs]
        exact (hsame j qj).2.2.1
    | none =>
      have e1 : pinOf c s = 0 := by rw [pinOf, hs]
      rw [e1, pinOf]
      cases ht : findF s c2.fr with
      | none => rfl
      | some a =>
        obtain ⟨g1, g2, g3⟩ := findF_at ht
        rw [hlen] at g1
        by_cases qa : a = i
        · subst qa; rw [hself] at g3; exact absurd g3.symm q
        · rw [(hsame a qa).1] at g2; rw [(hsame a qa).2.1] at g3
          exact absurd g3 (findF_not hs g1 g2)

theorem get_some {cur : Nat → Sec} {N : Nat} {c c' : CD} {k : Nat} {b : Sec} (h : Inv cur N c) (hk : k < N) (hg : getF (cur k) c k = (c', some b)) :
    Inv cur N c' ∧ b = cur k ∧ (∀ s, pinOf c' s = if s = k then pinOf c s + 1 else pinOf c s) ∧ (∃ i, findF k c'.fr = some i) ∧ c'.fr.length = c.fr.length ∧
      (match findF k c.fr with | some _ => c'.hits = c.hits + 1 ∧ c'.miss = c.miss | none => c'.hits = c.hits ∧ c'.miss = c.miss + 1) ∧
      (c.free ≠ [] ∨ findF k c.fr ≠ none → ∀ s, s ≠ k → (findF s c'.fr = none ↔ findF s c.fr = none)) := by
  unfold getF at hg
  cases hf : findF k c.fr with
  | some i =>
    rw [hf] at hg
    cases hg
    obtain ⟨h1, h2, h3⟩ := findF_at hf
    have hat : ∀ j, ((c.fr.set i { c.fr.getD i fz with pins := (c.fr.getD i fz).pins + 1, late := true }).getD j fz) = if j = i then { c.fr.getD i fz with pins := (c.fr.getD i fz).pins + 1, late := true } else c.fr.getD j fz := fun j => at_set h1
    have hsame : SameB (c.fr.set i { c.fr.getD i fz with pins := (c.fr.getD i fz).pins, late := true }) c.fr := ⟨by simp, fun j => by
      rw [at_set h1]
      by_cases q : j = i
      · subst q; rw [if_pos rfl]; exact ⟨rfl, rfl, rfl, rfl⟩
      · rw [if_neg q]; exact ⟨rfl, rfl, rfl, rfl⟩⟩
    have hfind : ∀ s, findF s (c.fr.set i { c.fr.getD i fz with pins := (c.fr.getD i fz).pins + 1, late := true }) = findF s c.fr := by
      intro s
      have gen : ∀ (l : List Fr) (i : Nat) (f : Fr), f.held = (l.getD i fz).held → f.sec = (l.getD i fz).sec → findF s (l.set i f) = findF s l := by
        intro l
        induction l with
        | nil => intro i f _ _; rfl
        | cons g l ih =>
          intro i f e1 e2
          cases i with
          | zero => simp only [List.getD_cons_zero] at e1 e2; rw [List.set_cons_zero, findF, findF, e1, e2]
          | succ i => simp only [List.getD_cons_succ] at e1 e2; rw [List.set_cons_succ, findF, findF, ih i f e1 e2]
      exact gen c.fr i _ rfl rfl
    refine ⟨h.same (by simp) rfl h.hd (fun j => ?_), ?_, fun s => ?_, ⟨i, by rw [hfind]; exact hf⟩, by simp, ⟨rfl, rfl⟩, fun _ s _ => by rw [hfind]⟩
    · simp only [CD.at, hat]
      by_cases q : j = i
      · subst q; rw [if_pos rfl]; exact ⟨rfl, rfl, rfl, fun z => by rw [CD.at] at h2; rw [h2] at z; cases z⟩
      · rw [if_neg q]; exact ⟨rfl, rfl, rfl, fun _ => rfl⟩
    · rw [(h.vl i h1 h2).2, h3]
    · simp only [pinOf, hfind, CD.at]
      by_cases q : s = k
      · subst q
        rw [if_pos rfl, hf]
        simp only [hat, if_true]
      · rw [if_neg q]
        cases hs : findF s c.fr with
        | none => rfl
        | some j =>
          have hj : j ≠ i := by
            rintro rfl
            obtain ⟨_, _, g3⟩ := findF_at hs
            exact q (g3.symm.trans h3)
          simp only [hat, if_neg hj]
  | none =>
    rw [hf] at hg
    simp only at hg
    unfold roomF at hg
    cases hfr : c.free with
    | cons i r =>
      rw [hfr] at hg
      simp only at hg
      cases hg
      have hi := h.fl i (by rw [hfr]; exact List.mem_cons_self ..)
      obtain ⟨g1, g2, g3⟩ := h.take (c1 := { c with free := r }) (SameB.refl _) h.hd hi hk hf (.inl hfr) _ rfl
      refine ⟨g1, rfl, g2, ⟨i, g3⟩, by simp, ⟨rfl, rfl⟩, fun _ s hs => ?_⟩
      -- nothing else goes
      have hnh : (c.at i).held = false := (h.fh i hi).2 (by rw [hfr]; exact List.mem_cons_self ..)
      constructor
      · intro z
        cases q : findF s c.fr with
        | none => rfl
        | some j =>
          obtain ⟨y1, y2, y3⟩ := findF_at q
          have hj : j ≠ i := by rintro rfl; rw [hnh] at y2; cases y2
          have e : (c.fr.set i ⟨true, k, 1, true, cur k⟩).getD j fz = c.fr.getD j fz := by rw [at_set hi, if_neg hj]
          have := g1.find (k := s) (i := j) (by simpa using y1) (by simp only [CD.at]; rw [e]; exact y2) (by simp only [CD.at]; rw [e]; exact y3)
          rw [this] at z; cases z
      · intro z
        cases q : findF s (c.fr.set i ⟨true, k, 1, true, cur k⟩) with
        | none => rfl
        | some j =>
          obtain ⟨y1, y2, y3⟩ := findF_at (c := { c with free := r, fr := c.fr.set i ⟨true, k, 1, true, cur k⟩ }) q
          simp only [CD.at] at y2 y3
          rw [at_set hi] at y2 y3
          by_cases hj : j = i
          · rw [if_pos hj] at y3; exact absurd y3.symm hs
          · rw [if_neg hj] at y2 y3
            exact absurd y3 (findF_not z (by simpa using y1) y2)
    | nil =>
      rw [hfr] at hg
      simp only at hg
      cases hp : pinnedF c.fr with
      | true => rw [hp] at hg; simp only [if_true] at hg; cases hg
      | false =>
        rw [hp] at hg
        simp only [Bool.false_eq_true, if_false] at hg
        cases hg
        have hs := sweep_same (measF c.fr c.hand + 1) c.fr c.hand
        have hl := sweep_lt (measF c.fr c.hand + 1) h.hd
        have hpz := sweep_pins _ h.hd hp (Nat.lt_succ_self _)
        obtain ⟨g1, g2, g3⟩ := h.take (c1 := ⟨(sweepF (measF c.fr c.hand + 1) c.fr c.hand).1, [], (sweepF (measF c.fr c.hand + 1) c.fr c.hand).2.1, c.hits, c.miss⟩) hs hl.2.2 hl.2.1 hk hf (.inr ⟨hfr, rfl, hpz⟩) _ rfl
        exact ⟨g1, rfl, g2, ⟨_, g3⟩, by simp [hl.1], ⟨rfl, rfl⟩, fun z => by rcases z with z | z <;> exact absurd rfl z⟩
theorem get_none {cur : Nat → Sec} {N : Nat} {c c' : CD} {k : Nat} (h : Inv cur N c) (hg : getF (cur k) c k = (c', none)) : c' = c ∧ findF k c.fr = none ∧ c.free = [] ∧ pinnedF c.fr = true := by
  unfold getF at hg
  cases hf : findF k c.fr with
  | some i => rw [hf] at hg; cases hg
  | none =>
    rw [hf] at hg
    simp only at hg
    unfold roomF at hg
    cases hfr : c.free with
    | cons i r => rw [hfr] at hg; cases hg
    | nil =>
      rw [hfr] at hg
      simp only at hg
      cases hp : pinnedF c.fr with
      | true => rw [hp] at hg; simp only [if_true] at hg; cases hg; exact ⟨rfl, rfl, rfl, rfl⟩
      | false => rw [hp] at hg; simp only [Bool.false_eq_true, if_false] at hg; cases hg
theorem Inv.full {cur : Nat → Sec} {N : Nat} {c : CD} (h : Inv cur N c) (hf : c.free = []) {S : List Nat} (hS : ∀ i, i < c.fr.length → (c.at i).sec ∈ S) : c.fr.length ≤ S.length := by
  have hheld : ∀ i, i < c.fr.length → (c.at i).held = true := fun i hi => by
    cases q : (c.at i).held with
    | true => rfl
    | false => have := (h.fh i hi).1 q; rw [hf] at this; cases this
  have hn : ((List.range c.fr.length).map fun i => (c.at i).sec).Nodup := by
    refine List.pairwise_map.2 (List.Pairwise.imp_of_mem (fun {a b} ha hb hne e => hne ?_) List.nodup_range)
    exact h.ds a b (List.mem_range.1 ha) (List.mem_range.1 hb) (hheld a (List.mem_range.1 ha)) (hheld b (List.mem_range.1 hb)) e
  have := nodup_sub_len hn (m := S) (fun x hx => by
    obtain ⟨i, hi, rfl⟩ := List.mem_map.1 hx
    exact hS i (List.mem_range.1 hi))
  simpa using this
theorem leave_inv {cur : Nat → Sec} {N : Nat} {c : CD} {k : Nat} (h : Inv cur N c) (hp : pinOf c k ≠ 0) :
    Inv cur N (leaveF c k).1 ∧ (leaveF c k).2 = 0 ∧ (∀ s, pinOf (leaveF c k).1 s = if s = k then pinOf c s - 1 else pinOf c s) ∧ (leaveF c k).1.fr.length = c.fr.length ∧ (leaveF c k).1.hits = c.hits ∧ (leaveF c k).1.miss = c.miss ∧ (leaveF c k).1.free = c.free ∧
      ∀ s, findF s (leaveF c k).1.fr = findF s c.fr := by
  unfold leaveF
  cases hf : findF k c.fr with
  | none => rw [pinOf, hf] at hp; exact absurd rfl hp
  | some i =>
    have hpi : (c.fr.getD i fz).pins ≠ 0 := by rw [pinOf, hf] at hp; exact hp
    simp only [if_neg hpi]
    obtain ⟨h1, h2, h3⟩ := findF_at hf
    have hfind : ∀ s, findF s (c.fr.set i { c.fr.getD i fz with pins := (c.fr.getD i fz).pins - 1 }) = findF s c.fr := by
      intro s
      have gen : ∀ (l : List Fr) (i : Nat) (f : Fr), f.held = (l.getD i fz).held → f.sec = (l.getD i fz).sec → findF s (l.set i f) = findF s l := by
        intro l
        induction l with
        | nil => intro i f _ _; rfl
        | cons g l ih =>
          intro i f e1 e2
          cases i with
          | zero => simp only [List.getD_cons_zero] at e1 e2; rw [List.set_cons_zero, findF, findF, e1, e2]
          | succ i => simp only [List.getD_cons_succ] at e1 e2; rw [List.set_cons_succ, findF, findF, ih i f e1 e2]
      exact gen c.fr i _ rfl rfl
    refine ⟨h.same (by simp) rfl h.hd (fun j => ?_), trivial, fun s => ?_, by simp, trivial, trivial, trivial, hfind⟩
    · simp only [CD.at, at_set h1]
      by_cases q : j = i
      · subst q; rw [if_pos rfl]; exact ⟨rfl, rfl, rfl, fun z => by rw [CD.at] at h2; rw [h2] at z; cases z⟩
      · rw [if_neg q]; exact ⟨rfl, rfl, rfl, fun _ => rfl⟩
    · simp only [pinOf, hfind, CD.at]
      by_cases q : s = k
      · subst q
        rw [if_pos rfl, hf]
        simp only [at_set h1, if_true]
      · rw [if_neg q]
        cases hs : findF s c.fr with
        | none => rfl
        | some j =>
          have hj : j ≠ i := by
            rintro rfl
            obtain ⟨_, _, g3⟩ := findF_at hs
            exact q (g3.symm.trans h3)
          simp only [at_set h1, if_neg hj]
theorem inv_new (cur : Nat → Sec) (N n : Nat) (h1 : 1 ≤ n) (h2 : n ≤ 64) : Inv cur N ⟨List.replicate n fz, List.range n, 0, 0, 0⟩ := by
  have hat : ∀ i, (List.replicate n fz).getD i fz = fz := fun i => by
    rw [List.getD_eq_getElem?_getD, List.getElem?_replicate]; split <;> rfl
  exact
  { n1 := by simpa using h1
    n2 := by simpa using h2
    hd := by simp only [List.length_replicate]; omega
    fl := fun i hi => by simpa using hi
    nd := List.nodup_range
    fh := fun i hi => by simp only [CD.at, hat]; simp at hi; simpa [fz] using hi
    ds := fun i j _ _ hh _ _ => by simp only [CD.at, hat] at hh; cases hh
    vl := fun i _ hh => by simp only [CD.at, hat] at hh; cases hh
    pz := fun i _ _ => by simp only [CD.at, hat]; exact ⟨rfl, rfl⟩ }
theorem find_new (n k : Nat) : findF k (List.replicate n fz) = none := by
  induction n with
  | zero => rfl
  | succ n ih => rw [List.replicate_succ, findF, ih]; simp [fz]
theorem Inv.held {cur : Nat → Sec} {N : Nat} {c : CD} (h : Inv cur N c) : ∀ i (hi : i < (heldF c).length), (heldF c)[i] < N ∧ (∀ j (hj : j < i), 0 ≤ (heldF c)[i] → (heldF c)[j] ≠ (heldF c)[i]) := by
  have hlen : (heldF c).length = c.fr.length := by simp [heldF]
  have hget : ∀ i (hi : i < (heldF c).length), (heldF c)[i] = if (c.at i).held then ((c.at i).sec : Int) else -1 := fun i hi => by
    have e : c.at i = c.fr[i]'(hlen ▸ hi) := getD_get _
    rw [e]; simp [heldF]
  intro i hi
  rw [hget i hi]
  cases q : (c.at i).held with
  | false => exact ⟨by simp only [Bool.false_eq_true, if_false]; omega, fun j _ z => by simp at z⟩
  | true =>
    refine ⟨by simp only [if_true]; have := (h.vl i (hlen ▸ hi) q).1; omega, fun j hj _ e => ?_⟩
    rw [hget j (by omega)] at e
    cases q' : (c.at j).held with
    | false => rw [q'] at e; simp at e
    | true =>
      rw [q'] at e
      simp only [if_true] at e
      have := h.ds j i (by omega) (hlen ▸ hi) q' q (by omega)
      omega
theorem pinB_of {cur : Nat → Sec} {N : Nat} {c : CD} (h : Inv cur N c) {m : Nat} (hp : ∀ s, pinOf c s ≤ m) : ∀ f ∈ c.fr, f.pins ≤ m := by
  intro f hf
  obtain ⟨i, hi, rfl⟩ := List.getElem_of_mem hf
  have e : c.at i = c.fr[i] := getD_get hi
  cases q : (c.at i).held with
  | true => have := pinOf_at h hi q; have := hp (c.at i).sec; rw [← e]; omega
  | false => have := (h.pz i hi q).1; rw [e] at this; omega
end Go.Gk.Cch
end

section
namespace Go.Gk.Pgr
open Go Go.Gk Go.Gk.Dev Go.Gk.Cch

structure PD where
  frm : Nat
  kinds : List Int
  fb : Nat → Sec
  syn : List Sec
  round : Nat
  tc : Nat
abbrev PD.kd (s : PD) (i : Nat) : Int := s.kinds.getD i 0
def PD.kind (s : PD) (k : Int) : Int := if (s.frm : Int) ≤ k ∧ k < (s.frm : Int) + s.kinds.length then s.kd (k - s.frm).toNat else -1
def setB (fb : Nat → Sec) (i : Nat) (b : Sec) : Nat → Sec := fun j => if j = i then b else fb j
def place0 (x : Int) : List Int → Option Nat
  | [] => none
  | y :: l => if x = y then some 0 else (place0 x l).map (· + 1)
def PD.takeAt (s : PD) (i : Nat) : PD := { s with kinds := s.kinds.set i 1, fb := setB s.fb i zsec }
def PD.take (s : PD) : Option (Nat × PD) := (place0 0 s.kinds).map fun i => (s.frm + i, s.takeAt i)
def PD.put (s : PD) (k : Int) (b : Sec) : PD × Int := if s.kind k = 1 then (if b.length = 256 then ({ s with fb := setB s.fb (k - s.frm).toNat b }, 0) else (s, 2)) else (s, 240)
def PD.get (s : PD) (k : Int) : PD × Option Sec :=
  if s.kind k = 1 then ({ s with tc := s.tc + 1 }, some (s.fb (k - s.frm).toNat)) else if s.kind k = 2 then ({ s with tc := s.tc + 1 }, some (s.syn.getD k.toNat [])) else (s, none)
def PD.drop (s : PD) (k : Int) : PD × Int :=
  if s.kind k = 1 then ({ s with kinds := s.kinds.set (k - s.frm).toNat 0 }, 0) else if s.kind k = 2 then ({ s with kinds := s.kinds.set (k - s.frm).toNat 3 }, 0) else (s, 240)
def PD.writes (s : PD) : Nat → List (Nat × Sec)
  | 0 => []
  | n + 1 => s.writes n ++ (if s.kd n = 1 then [(s.frm + n, s.fb n)] else [])
def PD.flush (s : PD) : PD := { s with syn := synced (s.writes s.kinds.length) s.syn }
def doneK (x : Int) : Int := if x = 3 then 0 else if x = 1 then 2 else x
def PD.done (s : PD) : PD := { s with kinds := s.kinds.map doneK, round := s.round + 1 }
structure MD where
  kinds : List Int
  fb : Nat → Sec
  round : Nat
def PD.free (s : PD) : Nat := s.kinds.countP (· == 0)
def oldsF (frm : Nat) : List Int → Nat → List Int
  | [], _ => []
  | x :: l, i => if x = 2 then ((frm + i : Nat) : Int) :: oldsF frm l (i + 1) else oldsF frm l (i + 1)
def PD.olds (s : PD) : List Int := oldsF s.frm s.kinds 0

structure Good (s : PD) : Prop where
  one : 1 ≤ s.kinds.length
  len : s.kinds.length ≤ 8192
  inn : s.frm + s.kinds.length ≤ s.syn.length
  syn : s.syn.length ≤ 8192
  kd : ∀ i, 0 ≤ s.kd i ∧ s.kd i ≤ 3
structure CacheOk (s : PD) (c : CD) : Prop where
  inv : Inv (fun k => s.syn.getD k []) s.syn.length c
  zer : ∀ k, pinOf c k = 0
  hold : ∀ k, findF k c.fr ≠ none → s.frm ≤ k ∧ k < s.frm + s.kinds.length ∧ 2 ≤ s.kd (k - s.frm)

theorem place0_some {x : Int} : ∀ {l : List Int} {i : Nat}, place0 x l = some i → ∃ h : i < l.length, l[i] = x
  | y :: l, i, h => by
    rw [place0] at h
    split at h
    · rename_i e; cases h; exact ⟨by simp, by simp [e]⟩
    · cases q : place0 x l with
      | none => rw [q] at h; cases h
      | some j =>
        rw [q] at h; cases h
        obtain ⟨h1, h2⟩ := place0_some q
        exact ⟨by simpa using h1, by simpa using h2⟩
theorem kd_get {s : PD} {i : Nat} (h : i < s.kinds.length) : s.kd i = s.kinds[i] := by rw [PD.kd, List.getD_eq_getElem?_getD, List.getElem?_eq_getElem h]; rfl
theorem getD_set {l : List Int} {i j : Nat} {x : Int} (hi : i < l.length) : (l.set i x).getD j 0 = if j = i then x else l.getD j 0 := by
  simp only [List.getD_eq_getElem?_getD, List.getElem?_set]
  by_cases e : i = j
  · subst e; simp [hi]
  · rw [if_neg e, if_neg (fun h => e h.symm)]
theorem kind_in {s : PD} {k : Int} {x : Int} (h : s.kind k = x) (hx : 0 ≤ x) : ∃ i, i < s.kinds.length ∧ k = ((s.frm + i : Nat) : Int) ∧ s.kd i = x ∧ (k - s.frm).toNat = i := by
  unfold PD.kind at h
  split at h
  · rename_i e
    exact ⟨(k - s.frm).toNat, by omega, by omega, h, rfl⟩
  · omega
def Og (l m : List Int) : Prop := l.length = m.length ∧ ∀ i, 2 ≤ l.getD i 0 ↔ 2 ≤ m.getD i 0
theorem Og.refl (l : List Int) : Og l l := ⟨rfl, fun _ => Iff.rfl⟩
theorem Og.trans {a b c : List Int} (h : Og a b) (k : Og b c) : Og a c := ⟨h.1.trans k.1, fun i => (h.2 i).trans (k.2 i)⟩
theorem Og.symm {a b : List Int} (h : Og a b) : Og b a := ⟨h.1.symm, fun i => (h.2 i).symm⟩
theorem Og.set {l : List Int} {i : Nat} {x : Int} (h : 2 ≤ x ↔ 2 ≤ l.getD i 0) : Og (l.set i x) l := by
  refine ⟨by simp, fun j => ?_⟩
  by_cases hi : i < l.length
  · rw [getD_set hi]
    by_cases e : j = i
    · subst e; rw [if_pos rfl]; exact h
    · rw [if_neg e]
  · rw [List.set_eq_of_length_le (by omega)]
theorem getF_shape {b b' : Sec} {c c' : CD} {k : Nat} (hf : ∀ i ∈ c.free, i < c.fr.length) (hh : c.hand < c.fr.length) (h : getF b c k = (c', some b')) : ∃ m i f, c'.fr = m.set i f ∧ SameB m c.fr ∧ i < m.length ∧ f.sec = k := by
  unfold getF at h
  cases hq : findF k c.fr with
  | some i =>
    rw [hq] at h
    cases h
    obtain ⟨h1, h2, h3⟩ := findF_at hq
    exact ⟨c.fr, i, _, rfl, SameB.refl _, h1, h3⟩
  | none =>
    rw [hq] at h
    simp only at h
    cases hr : roomF c with
    | mk c1 o =>
    rw [hr] at h
    cases o with
    | none => cases h
    | some i =>
      cases h
      have hi := room_lt hh hf hr
      refine ⟨c1.fr, i, _, rfl, ?_, hi, rfl⟩
      unfold roomF at hr
      split at hr
      · cases hr; exact SameB.refl _
      · split at hr
        · cases hr
        · cases hr; exact sweep_same _ _ _
theorem get_sub {cur : Nat → Sec} {N : Nat} {c c' : CD} {k : Nat} {b b' : Sec} (h : Inv cur N c) (hg : getF b c k = (c', some b')) {s : Nat} (hs : s ≠ k) (hn : findF s c.fr = none) : findF s c'.fr = none := by
  obtain ⟨m, i, f, e1, e2, e3, e4⟩ := getF_shape h.fl h.hd hg
  cases q : findF s c'.fr with
  | none => rfl
  | some j =>
    obtain ⟨g1, g2, g3⟩ := findF_at q
    simp only [CD.at, e1] at g1 g2 g3
    rw [at_set e3] at g2 g3
    by_cases hj : j = i
    · rw [if_pos hj] at g3; exact absurd (g3.symm.trans e4) hs
    · rw [if_neg hj] at g2 g3
      rw [(e2.2 j).1] at g2; rw [(e2.2 j).2.1] at g3
      exact absurd g3 (findF_not hn (by rw [← e2.1]; simpa using g1) g2)
theorem CacheOk.get {s : PD} {c : CD} (h : CacheOk s c) {k : Nat} (hk : k < s.syn.length) (h1 : s.frm ≤ k) (h2 : k < s.frm + s.kinds.length) (h3 : 2 ≤ s.kd (k - s.frm)) :
    ∃ c', getF (s.syn.getD k []) c k = (c', some (s.syn.getD k [])) ∧ PinB c 4611686018427387904 ∧ PinB c' 4611686018427387904 ∧ (leaveF c' k).2 = 0 ∧ CacheOk s (leaveF c' k).1 := by
  have hpb : ∀ {c : CD} {n : Nat}, Inv (fun k => s.syn.getD k []) s.syn.length c → (∀ s, pinOf c s ≤ n) → n ≤ 1000 → PinB c 4611686018427387904 := fun hi hz hn f hf => by
    have := pinB_of hi hz f hf; omega
  cases hr : getF (s.syn.getD k []) c k with
  | mk c' o =>
  cases o with
  | none =>
    obtain ⟨-, g2, g3, g4⟩ := get_none (cur := fun k => s.syn.getD k []) h.inv hr
    exfalso
    have h0 := h.inv.n1
    have hheld : (c.at 0).held = true := by
      cases q : (c.at 0).held with
      | true => rfl
      | false => have := (h.inv.fh 0 h0).1 q; rw [g3] at this; cases this
    have e := pinOf_at h.inv h0 hheld
    rw [h.zer] at e
    have := List.all_eq_true.1 g4 _ (List.getElem_mem h0)
    rw [show c.at 0 = c.fr[0] from getD_get h0] at e
    simp [← e] at this
  | some b' =>
    obtain ⟨g1, rfl, g3, g4, g5, g6, g7⟩ := get_some (cur := fun k => s.syn.getD k []) h.inv hk hr
    obtain ⟨q1, q2, q3, q4, q5, q6, q7, q8⟩ := leave_inv g1 (k := k) (by rw [g3, if_pos rfl]; omega)
    refine ⟨c', rfl, hpb h.inv (n := 0) (fun s => by rw [h.zer]; omega) (by omega), hpb g1 (n := 1) (fun s => by rw [g3, h.zer]; split <;> omega) (by omega), q2, q1, fun s => ?_, fun t ht => ?_⟩
    · rw [q3, g3, h.zer]; split <;> omega
    · rw [q8] at ht
      by_cases e : t = k
      · subst e; exact ⟨h1, h2, h3⟩
      · exact h.hold t (fun z => ht (get_sub h.inv hr e z))
end Go.Gk.Pgr
namespace Go.Gk.Pgr
open Go Go.Gk Go.Gk.Dev Go.Gk.Cch
def PD.takeR (s : PD) : PD × Int × Int := match place0 0 s.kinds with | some i => (s.takeAt i, ((s.frm + i : Nat) : Int), 0) | none => (s, 0, 190)
theorem Good.to' {s s' : PD} (h : Good s) (h1 : s'.frm = s.frm) (h2 : s'.syn.length = s.syn.length) (e : s'.kinds = s.kinds) : Good s' :=
  ⟨by rw [e]; exact h.one, by rw [e]; exact h.len, by rw [h1, h2, e]; exact h.inn, by rw [h2]; exact h.syn, fun i => by rw [PD.kd, e]; exact h.kd i⟩
end Go.Gk.Pgr
namespace Go.Gk.Pgr
open Go Go.Gk Go.Gk.Dev Go.Gk.Cch
theorem synced_at {k : Nat} : ∀ {l : List (Nat × Sec)} {s : List Sec}, (∀ w ∈ l, w.1 ≠ k) → (synced l s).getD k [] = s.getD k []
  | [], _, _ => rfl
  | w :: l, s, h => by
    have e : synced (w :: l) s = synced l (s.set w.1 w.2) := by simp [synced]
    rw [e, synced_at (fun w' hw => h w' (List.mem_cons_of_mem _ hw)), List.getD_eq_getElem?_getD, List.getElem?_set, if_neg (h w (List.mem_cons_self ..)), ← List.getD_eq_getElem?_getD]
theorem writes_mem {s : PD} : ∀ {n : Nat} {w : Nat × Sec}, w ∈ s.writes n → ∃ i, i < n ∧ s.kd i = 1 ∧ w = (s.frm + i, s.fb i)
  | n + 1, w, h => by
    rw [PD.writes, List.mem_append] at h
    rcases h with h | h
    · obtain ⟨i, h1, h2⟩ := writes_mem h
      exact ⟨i, by omega, h2⟩
    · split at h
      · rename_i e
        rw [List.mem_singleton] at h
        exact ⟨n, by omega, e, h⟩
      · cases h
theorem Inv.cur_to {cur cur' : Nat → Sec} {N : Nat} {c : CD} (h : Inv cur N c) (he : ∀ k, findF k c.fr ≠ none → cur' k = cur k) : Inv cur' N c :=
  { h with vl := fun i hi hh => ⟨(h.vl i hi hh).1, by rw [(h.vl i hi hh).2, he _ (by rw [h.find hi hh rfl]; simp)]⟩ }
theorem CacheOk.flush {s : PD} {c : CD} (h : CacheOk s c) : CacheOk s.flush c := by
  refine ⟨?_, h.zer, h.hold⟩
  have hl : s.flush.syn.length = s.syn.length := synced_len _ _
  rw [hl]
  refine Inv.cur_to h.inv (fun k hk => ?_)
  obtain ⟨h1, h2, h3⟩ := h.hold k hk
  refine synced_at (fun w hw e => ?_)
  obtain ⟨i, h4, h5, rfl⟩ := writes_mem hw
  simp only at e
  rw [← e, show s.frm + i - s.frm = i by omega] at h3
  omega
theorem Good.flush {s : PD} (h : Good s) : Good s.flush := h.to' rfl (synced_len _ _) rfl
def Mid (i : Nat) (l m : List Int) : Prop := m.length = l.length ∧ ∀ j, m.getD j 0 = if j < i then doneK (l.getD j 0) else l.getD j 0
theorem Mid.zero (l : List Int) : Mid 0 l l := ⟨rfl, fun j => by rw [if_neg (by omega)]⟩
theorem Mid.next {i : Nat} {l m : List Int} (h : Mid i l m) (hi : i < l.length) : Mid (i + 1) l (m.set i (doneK (l.getD i 0))) := by
  refine ⟨by simpa using h.1, fun j => ?_⟩
  rw [getD_set (by rw [h.1]; exact hi), h.2]
  by_cases e : j = i
  · subst e; rw [if_pos rfl, if_pos (by omega)]
  · rw [if_neg e]
    by_cases q : j < i
    · rw [if_pos q, if_pos (by omega)]
    · rw [if_neg q, if_neg (by omega)]
theorem Mid.same {i : Nat} {l m : List Int} (h : Mid i l m) (hi : i < l.length) (hs : doneK (l.getD i 0) = l.getD i 0) : Mid (i + 1) l m := by
  refine ⟨h.1, fun j => ?_⟩
  rw [h.2]
  by_cases e : j = i
  · subst e; rw [if_neg (by omega), if_pos (by omega), hs]
  · by_cases q : j < i
    · rw [if_pos q, if_pos (by omega)]
    · rw [if_neg q, if_neg (by omega)]
theorem ext_getD {l m : List Int} (h : l.length = m.length) (he : ∀ j, l.getD j 0 = m.getD j 0) : l = m := by
  refine List.ext_getElem h (fun j h1 h2 => ?_)
  have := he j
  rwa [List.getD_eq_getElem?_getD, List.getD_eq_getElem?_getD, List.getElem?_eq_getElem h1, List.getElem?_eq_getElem h2] at this
theorem getD_map {l : List Int} {j : Nat} : (l.map doneK).getD j 0 = doneK (l.getD j 0) := by
  simp only [List.getD_eq_getElem?_getD, List.getElem?_map]
  cases l[j]? <;> rfl
theorem Mid.done {i : Nat} {l m : List Int} (h : Mid i l m) (hi : l.length ≤ i) : m = l.map doneK := by
  refine ext_getD (by simpa using h.1) (fun j => ?_)
  rw [h.2, getD_map]
  by_cases e : j < i
  · rw [if_pos e]
  · rw [if_neg e, List.getD_eq_getElem?_getD, List.getElem?_eq_none (by omega)]; rfl
end Go.Gk.Pgr
namespace Go.Gk.Pgr
end Go.Gk.Pgr
namespace Go.Gk.Pgr
open Go Go.Gk Go.Gk.Dev Go.Gk.Cch
end Go.Gk.Pgr
namespace Go.Gk.Pgr
open Go Go.Gk Go.Gk.Dev Go.Gk.Cch
def lives (n : Nat) (l : List Nat) : List Int := l.foldl (fun ks k => ks.set k 2) (List.replicate n 0)
theorem foldl_set_len {l : List Nat} : ∀ {ks : List Int}, (l.foldl (fun ks k => ks.set k 2) ks).length = ks.length := by
  induction l with
  | nil => intro ks; rfl
  | cons x l ih => intro ks; rw [List.foldl_cons, ih, List.length_set]
theorem lives_len {n : Nat} {l : List Nat} : (lives n l).length = n := by rw [lives, foldl_set_len, List.length_replicate]
theorem foldl_set_at {l : List Nat} {j : Nat} : ∀ {ks : List Int}, j < ks.length → (l.foldl (fun ks k => ks.set k 2) ks).getD j 0 = if j ∈ l then 2 else ks.getD j 0 := by
  induction l with
  | nil => intro ks _; simp
  | cons x l ih =>
    intro ks hj
    rw [List.foldl_cons, ih (by rw [List.length_set]; exact hj)]
    by_cases h : j ∈ l
    · rw [if_pos h, if_pos (List.mem_cons_of_mem _ h)]
    · rw [if_neg h]
      by_cases e : j = x
      · subst e; rw [getD_set hj, if_pos rfl, if_pos (List.mem_cons_self ..)]
      · rw [if_neg (by simp [e, h])]
        by_cases hx : x < ks.length
        · rw [getD_set hx, if_neg e]
        · rw [List.set_eq_of_length_le (by omega)]
theorem lives_at {n j : Nat} {l : List Nat} : (lives n l).getD j 0 = if j < n ∧ j ∈ l then 2 else 0 := by
  by_cases hj : j < n
  · rw [lives, foldl_set_at (by rw [List.length_replicate]; exact hj)]
    by_cases h : j ∈ l
    · rw [if_pos h, if_pos ⟨hj, h⟩]
    · rw [if_neg h, if_neg (fun q => h q.2), List.getD_eq_getElem?_getD, List.getElem?_replicate]; split <;> rfl
  · rw [if_neg (fun q => hj q.1), List.getD_eq_getElem?_getD, List.getElem?_eq_none (by rw [lives_len]; omega)]; rfl
theorem find_new {k m : Nat} : findF k (List.replicate m fz) = none := by
  cases h : findF k (List.replicate m fz) with
  | none => rfl
  | some i =>
    obtain ⟨h1, h2, -⟩ := findF_some h
    rw [List.getElem_replicate] at h2
    cases h2
theorem CacheOk.new {s : PD} {m : Nat} (h1 : 1 ≤ m) (h2 : m ≤ 64) : CacheOk s ⟨List.replicate m fz, List.range m, 0, 0, 0⟩ :=
  ⟨inv_new _ _ m h1 h2, fun k => by rw [pinOf, find_new], fun k hk => absurd find_new hk⟩
theorem Good.new {frm n : Nat} {l : List Nat} {fb : Nat → Sec} {syn : List Sec} (h1 : 1 ≤ n) (h2 : frm + n ≤ syn.length) (h3 : syn.length ≤ 8192) : Good ⟨frm, lives n l, fb, syn, 0, 0⟩ :=
  ⟨by rw [lives_len]; exact h1, by rw [lives_len]; omega, by rw [lives_len]; exact h2, h3, fun i => by
    show 0 ≤ (lives n l).getD i 0 ∧ (lives n l).getD i 0 ≤ 3
    rw [lives_at]; split <;> decide⟩
end Go.Gk.Pgr
end

section
namespace Go.Gk.Dev
open Go Go.Gk
attribute [local irreducible] gwp gws xwp
end Go.Gk.Dev
end

section
namespace Go.Gk.Cch
open Go Go.Gk Go.Gk.Dev
attribute [local irreducible] gwp gws xwp
def RFr (d : PHeap) (cs : List Value) (f : Fr) : Prop := ∃ a n c, cs = [.bool f.held, .int .i64 f.sec, .int .i64 f.pins, .bool f.late, .slice a n c] ∧ RBytes d (.slice a n c) f.b
theorem mono_fr : Mono RFr := fun hl ⟨a, n, c, h1, h2⟩ => ⟨a, n, c, h1, h2.mono hl⟩
def wr (n : Nat) : Int := IntKind.i64.wrap (n : Int)
section
variable {P : Program} {pan : List PanicEntry → Post} {Qn : Env → Post} {Ls L : List PHeap} {ρ : Env} {d : PHeap} {s : GS} {t : Nat} {tk : Bool}
end
def Ca (d : PHeap) (c : CD) (dv cv : Value) (L : List PHeap) : Prop :=
  ∃ b T bf cp cb hf s r bd, cv = .pointer (some ⟨b, 0, none⟩) ∧ dv = .pointer (some ⟨bd, 0, none⟩) ∧
    L = [bx b T [dv, .slice (some ⟨bf, 0, none⟩) c.fr.length cp, .chan (some cb), .int .i64 c.hand, .int .i64 (wr c.hits), .int .i64 (wr c.miss)], hf, sg cb (.chan c.fr.length (c.free.map fun i : Nat => Value.int .i64 i).toArray false s r false)] ∧
    GRow 5 RFr d (.slice (some ⟨bf, 0, none⟩) c.fr.length cp) c.fr hf ∧ 1 ≤ c.fr.length ∧ c.fr.length ≤ 64 ∧ c.hand < c.fr.length ∧ ∀ i ∈ c.free, i < c.fr.length
theorem Ca.mono {d d' : PHeap} {c : CD} {dv cv : Value} {L : List PHeap} (h : Ca d c dv cv L) (hl : Le d d') : Ca d' c dv cv L :=
  let ⟨b, T, bf, cp, cb, hf, s, r, bd, h1, h2, h3, h4, h5⟩ := h
  ⟨b, T, bf, cp, cb, hf, s, r, bd, h1, h2, h3, GRow.mono (R := RFr) mono_fr h4 hl, h5⟩
theorem Ca.mk {d : PHeap} {c : CD} {b bf cp cb s r bd n : Nat} {T : TypeId} {hf : PHeap} (hn : c.fr.length = n) (hg : GRow 5 RFr d (.slice (some ⟨bf, 0, none⟩) n cp) c.fr hf) (h1 : 1 ≤ n) (h2 : n ≤ 64) (h3 : c.hand < n) (h4 : ∀ i ∈ c.free, i < n) :
    Ca d c (.pointer (some ⟨bd, 0, none⟩)) (.pointer (some ⟨b, 0, none⟩)) [bx b T [.pointer (some ⟨bd, 0, none⟩), .slice (some ⟨bf, 0, none⟩) n cp, .chan (some cb), .int .i64 c.hand, .int .i64 (wr c.hits), .int .i64 (wr c.miss)], hf,
      sg cb (.chan n (c.free.map fun i : Nat => Value.int .i64 i).toArray false s r false)] := by
  subst hn
  exact ⟨b, T, bf, cp, cb, hf, s, r, bd, rfl, rfl, rfl, hg, h1, h2, h3, h4⟩

end Go.Gk.Cch
end

section
namespace Go.Gk.Cch
open Go Go.Gk Go.Gk.Dev
attribute [local irreducible] gwp gws xwp
def GotB (d : PHeap) (r : Value) (o : Option Sec) : Prop := match o with | some b => ∃ u, r = .tuple #[u, .int .i64 0] ∧ RBytes d u b | none => r = .tuple #[.slice none 0 0, .int .i64 180]
def CGetOk (P : Program) (f : FuncId) : Prop := ∀ {d : PHeap} {c : CD} {D : DevD} {dv cv : Value} {LC LD : List PHeap} {k : Nat}, Ca d c dv cv LC → Dv d D dv LD → PinB c 4611686018427387904 → k < D.syn.length →
  GCall P f [cv, .int .i64 k] d (LC ++ LD) (Ret fun r d' L' => ∃ LC' LD', L' = LC' ++ LD' ∧ Ca d' (getF (D.cur k) c k).1 dv cv LC' ∧ Dv d' D dv LD' ∧ GotB d' r (getF (D.cur k) c k).2)
end Go.Gk.Cch
end

section
namespace Go.Gk.Cch
open Go Go.Gk Go.Gk.Dev
attribute [local irreducible] gwp gws xwp
def CLeaveOk (P : Program) (f : FuncId) : Prop := ∀ {d : PHeap} {c : CD} {dv cv : Value} {L : List PHeap} {k : Nat}, Ca d c dv cv L → PinB c 4611686018427387904 →
  GCall P f [cv, .int .i64 k] d L (Ret fun r d' L' => d' = d ∧ r = .int .i64 (leaveF c k).2 ∧ Ca d (leaveF c k).1 dv cv L')
def CForgetOk (P : Program) (f : FuncId) : Prop := ∀ {d : PHeap} {c : CD} {dv cv : Value} {L : List PHeap} {k : Nat}, Ca d c dv cv L → (∀ i, findF k c.fr = some i → c.free.length < c.fr.length) →
  GCall P f [cv, .int .i64 k] d L (Ret fun r d' L' => d' = d ∧ r = .int .i64 (forgetF c k).2 ∧ Ca d (forgetF c k).1 dv cv L')
def CHeldOk (P : Program) (f : FuncId) : Prop := ∀ {d : PHeap} {c : CD} {dv cv : Value} {L : List PHeap}, Ca d c dv cv L → (∀ f ∈ c.fr, f.sec ≤ 8192) →
  GCall P f [cv] d L (Ret fun r d' L' => L' = L ∧ RInts d' r (heldF c))
def HitsOk (P : Program) (f : FuncId) : Prop := ∀ {d : PHeap} {c : CD} {dv cv : Value} {L : List PHeap}, Ca d c dv cv L → GRead P f [cv] d L (.int .i64 (wr c.hits))
def MissesOk (P : Program) (f : FuncId) : Prop := ∀ {d : PHeap} {c : CD} {dv cv : Value} {L : List PHeap}, Ca d c dv cv L → GRead P f [cv] d L (.int .i64 (wr c.miss))
end Go.Gk.Cch
end

section
namespace Go.Gk.Node
open Go Go.Gk
attribute [local irreducible] gwp gws
end Go.Gk.Node
end

section
namespace Go.Gk.Pgr
open Go Go.Gk Go.Gk.Dev Go.Gk.Cch Go.Gk.Node
attribute [local irreducible] gwp gws xwp
abbrev kI (k : Int) : Value := .int .i64 k
abbrev mpI (mb : Nat) (ms : List (Int × Value × Nat)) (clk : Nat) : PHeap := mp kI id mb ms clk
def MapOk (d : PHeap) (frm : Nat) (kinds : List Int) (fb : Nat → Sec) (ms : List (Int × Value × Nat)) : Prop := ∀ i, i < kinds.length → kinds.getD i 0 = 1 → ∃ v, mGet ((frm + i : Nat) : Int) ms = some v ∧ RBytes d v (fb i) ∧ (fb i).length = 256
theorem MapOk.mono {d d' : PHeap} {frm : Nat} {kinds : List Int} {fb : Nat → Sec} {ms : List (Int × Value × Nat)} (h : MapOk d frm kinds fb ms) (hl : Le d d') : MapOk d' frm kinds fb ms := fun i hi hk =>
  let ⟨v, h1, h2, h3⟩ := h i hi hk
  ⟨v, h1, h2.mono hl, h3⟩
def Pg (d : PHeap) (s : PD) (dv pv : Value) (L : List PHeap) : Prop :=
  ∃ b T cv bk cp hk mb ms clk c LC LD bd, pv = .pointer (some ⟨b, 0, none⟩) ∧ dv = .pointer (some ⟨bd, 0, none⟩) ∧
    L = bx b T [dv, cv, .int .i64 s.frm, .slice (some ⟨bk, 0, none⟩) s.kinds.length cp, .map (some mb), .int .i64 (wr s.round), .int .i64 (wr s.tc)] :: hk :: mpI mb ms clk :: (LC ++ LD) ∧
    GRow 1 RInt d (.slice (some ⟨bk, 0, none⟩) s.kinds.length cp) s.kinds hk ∧ MapOk d s.frm s.kinds s.fb ms ∧ Ca d c dv cv LC ∧ Dv d ⟨s.syn, []⟩ dv LD ∧ CacheOk s c ∧ Good s
theorem Pg.mono {d d' : PHeap} {s : PD} {dv pv : Value} {L : List PHeap} (h : Pg d s dv pv L) (hl : Le d d') : Pg d' s dv pv L :=
  let ⟨b, T, cv, bk, cp, hk, mb, ms, clk, c, LC, LD, bd, h1, h2, h3, h4, h5, h6, h7, h8, h9⟩ := h
  ⟨b, T, cv, bk, cp, hk, mb, ms, clk, c, LC, LD, bd, h1, h2, h3, GRow.mono (R := RInt) mono_int h4 hl, h5.mono hl, h6.mono hl, h7.mono hl, h8, h9⟩
theorem Pg.good {d : PHeap} {s : PD} {dv pv : Value} {L : List PHeap} (h : Pg d s dv pv L) : Good s := let ⟨_, _, _, _, _, _, _, _, _, _, _, _, _, _, _, _, _, _, _, _, _, h9⟩ := h; h9
theorem Pg.mk {d : PHeap} {s : PD} {b : Nat} {T : TypeId} {cv : Value} {bk cp n : Nat} {hk : PHeap} {mb : Nat} {ms : List (Int × Value × Nat)} {clk : Nat} {c : CD} {LC LD : List PHeap} {bd : Nat} (hn : s.kinds.length = n)
    (h4 : GRow 1 RInt d (.slice (some ⟨bk, 0, none⟩) n cp) s.kinds hk) (h5 : MapOk d s.frm s.kinds s.fb ms) (h6 : Ca d c (.pointer (some ⟨bd, 0, none⟩)) cv LC) (h7 : Dv d ⟨s.syn, []⟩ (.pointer (some ⟨bd, 0, none⟩)) LD) (h8 : CacheOk s c) (h9 : Good s) :
    Pg d s (.pointer (some ⟨bd, 0, none⟩)) (.pointer (some ⟨b, 0, none⟩)) (bx b T [.pointer (some ⟨bd, 0, none⟩), cv, .int .i64 s.frm, .slice (some ⟨bk, 0, none⟩) n cp, .map (some mb), .int .i64 (wr s.round), .int .i64 (wr s.tc)] :: hk :: mpI mb ms clk :: (LC ++ LD)) := by
  subst hn
  exact ⟨b, T, cv, bk, cp, hk, mb, ms, clk, c, LC, LD, bd, rfl, rfl, rfl, h4, h5, h6, h7, h8, h9⟩

def g_pager_Pager_none : GFun :=
 ⟨12, [(.tmp 2)],
 (.seq
 (.reg false (.op false ⟨(some 2), none, (.mv (.const (.bool false)))⟩ .done))
 (.seq
 (.reg false (.op false ⟨(some 3), none, (.mv (.tmp 0))⟩
  (.op false ⟨(some 4), none, (.eqp false (.tmp 3) (.const (.pointer none)))⟩
  (.op false ⟨(some 5), none, (.mv (.tmp 4))⟩
  (.op false ⟨(some 6), (some (5, false)), (.mv (.tmp 0))⟩
  (.op false ⟨(some 7), (some (5, false)), (.nilc (.tmp 6))⟩
  (.op false ⟨(some 8), (some (5, false)), (.fld 0 (.tmp 7))⟩
  (.op false ⟨(some 9), (some (5, false)), (.ld none (.tmp 8))⟩
  (.op false ⟨(some 10), (some (5, false)), (.eqp false (.tmp 9) (.const (.pointer none)))⟩
  (.op false ⟨(some 11), none, (.pick (.tmp 5) (.const (.bool true)) (.tmp 10))⟩
  (.op false ⟨(some 2), none, (.mv (.tmp 11))⟩ .done))))))))))) .ret))⟩

end Go.Gk.Pgr
end

section
namespace Go.Gk.Pgr
open Go Go.Gk Go.Gk.Dev Go.Gk.Cch Go.Gk.Node
attribute [local irreducible] gwp gws xwp
def g_pager_Pager_Take (f_pager_Pager_none f_slices_Index_int_int : Nat) : GFun :=
 ⟨37, [(.tmp 2), (.tmp 3)],
 (.seq
 (.reg false (.op false ⟨(some 2), none, (.mv (.const (.int .i64 0)))⟩
  (.op false ⟨(some 3), none, (.mv (.const (.int .i64 0)))⟩ .done)))
 (.seq (.seq
 (.reg false (.op false ⟨(some 5), none, (.mv (.tmp 0))⟩
  (.op false ⟨(some 6), none, (.call f_pager_Pager_none [(.tmp 5)])⟩ .done))) (.cond (.tmp 6)
 (.seq
 (.reg false (.op false ⟨(some 2), none, (.mv (.const (.int .i64 0)))⟩
  (.op false ⟨(some 3), none, (.mv (.const (.int .i64 1)))⟩ .done))) .ret) .skip))
 (.seq
 (.reg false (.op false ⟨(some 7), none, (.mv (.tmp 0))⟩
  (.op false ⟨(some 8), none, (.nilc (.tmp 7))⟩
  (.op false ⟨(some 9), none, (.fld 3 (.tmp 8))⟩
  (.op false ⟨(some 10), none, (.ld none (.tmp 9))⟩
  (.op false ⟨(some 11), none, (.call f_slices_Index_int_int [(.tmp 10), (.const (.int .i64 0))])⟩
  (.op false ⟨(some 4), none, (.mv (.tmp 11))⟩ .done)))))))
 (.seq (.seq
 (.reg false (.op false ⟨(some 12), none, (.mv (.tmp 4))⟩
  (.op false ⟨(some 13), none, (.bin .lss (.tmp 12) (.const (.int .i64 0)))⟩ .done))) (.cond (.tmp 13)
 (.seq
 (.reg false (.op false ⟨(some 2), none, (.mv (.const (.int .i64 0)))⟩
  (.op false ⟨(some 3), none, (.mv (.const (.int .i64 190)))⟩ .done))) .ret) .skip))
 (.seq
 (.reg false (.op false ⟨(some 14), none, (.mv (.tmp 0))⟩
  (.op false ⟨(some 15), none, (.nilc (.tmp 14))⟩
  (.op false ⟨(some 16), none, (.fld 3 (.tmp 15))⟩
  (.op false ⟨(some 17), none, (.ld none (.tmp 16))⟩
  (.op false ⟨(some 18), none, (.mv (.tmp 4))⟩
  (.op false ⟨(some 19), none, (.idx 1 (.tmp 17) (.tmp 18))⟩
  (.op false ⟨none, none, (.st 1 (.tmp 19) (.const (.int .i64 1)))⟩ .done))))))))
 (.seq
 (.reg true (.op true ⟨(some 20), none, (.mv (.tmp 0))⟩
  (.op true ⟨(some 21), none, (.nilc (.tmp 20))⟩
  (.op true ⟨(some 22), none, (.fld 4 (.tmp 21))⟩
  (.op true ⟨(some 23), none, (.ld none (.tmp 22))⟩
  (.op true ⟨(some 24), none, (.mv (.tmp 0))⟩
  (.op true ⟨(some 25), none, (.nilc (.tmp 24))⟩
  (.op true ⟨(some 26), none, (.fld 2 (.tmp 25))⟩
  (.op true ⟨(some 27), none, (.ld none (.tmp 26))⟩
  (.op true ⟨(some 28), none, (.mv (.tmp 4))⟩
  (.op true ⟨(some 29), none, (.bin .add (.tmp 27) (.tmp 28))⟩
  (.op false ⟨(some 30), none, (.mks 1 1 [(.int .u8 0)] (.const (.int .i64 256)) (.const (.int .i64 256)))⟩
  (.op false ⟨none, none, (.mop (.up 0 (.tmp 23) (.tmp 29) (.tmp 30)))⟩ .done)))))))))))))
 (.seq
 (.reg false (.op false ⟨(some 31), none, (.mv (.tmp 0))⟩
  (.op false ⟨(some 32), none, (.nilc (.tmp 31))⟩
  (.op false ⟨(some 33), none, (.fld 2 (.tmp 32))⟩
  (.op false ⟨(some 34), none, (.ld none (.tmp 33))⟩
  (.op false ⟨(some 35), none, (.mv (.tmp 4))⟩
  (.op false ⟨(some 36), none, (.bin .add (.tmp 34) (.tmp 35))⟩
  (.op false ⟨(some 2), none, (.mv (.tmp 36))⟩
  (.op false ⟨(some 3), none, (.mv (.const (.int .i64 0)))⟩ .done))))))))) .ret)))))))⟩

def RRow (d : PHeap) (h : Option Sec) (r : Value) : Prop := match h with | some x => RBytes d r x | none => r = .slice none 0 0
def PGetOk (P : Program) (f : FuncId) : Prop := ∀ {d : PHeap} {s : PD} {dv pv : Value} {L : List PHeap} {k : Int}, Pg d s dv pv L →
  GCall P f [pv, .int .i64 k] d L (Ret fun r d' L' => (∃ q, r = .tuple #[q, .int .i64 (match (s.get k).2 with | some _ => 0 | none => 240)] ∧ RRow d' (s.get k).2 q) ∧ Pg d' (s.get k).1 dv pv L')
def g_pager_Pager_Get (f_pager_Pager_none f_pager_Pager_kind f_slices_Clone_byte_byte f_cache_Cache_Get f_cache_Cache_Leave : Nat) : GFun :=
 ⟨57, [(.tmp 4), (.tmp 5)],
 (.seq
 (.reg false (.op false ⟨(some 4), none, (.mv (.const (.slice none 0 0)))⟩
  (.op false ⟨(some 5), none, (.mv (.const (.int .i64 0)))⟩ .done)))
 (.seq (.seq
 (.reg false (.op false ⟨(some 8), none, (.mv (.tmp 0))⟩
  (.op false ⟨(some 9), none, (.call f_pager_Pager_none [(.tmp 8)])⟩ .done))) (.cond (.tmp 9)
 (.seq
 (.reg false (.op false ⟨(some 4), none, (.mv (.const (.slice none 0 0)))⟩
  (.op false ⟨(some 5), none, (.mv (.const (.int .i64 1)))⟩ .done))) .ret) .skip))
 (.seq (.seq
 (.reg false (.op false ⟨(some 10), none, (.mv (.tmp 0))⟩
  (.op false ⟨(some 11), none, (.mv (.tmp 1))⟩
  (.op false ⟨(some 12), none, (.call f_pager_Pager_kind [(.tmp 10), (.tmp 11)])⟩ .done)))) (.block 0
 (.seq
 (.reg false (.op false ⟨(some 14), none, (.bin .eql (.tmp 12) (.const (.int .i64 1)))⟩
  (.op false ⟨(some 13), none, (.mv (.tmp 14))⟩ .done))) (.cond (.tmp 13)
 (.seq
 (.reg false (.op false ⟨(some 15), none, (.mv (.tmp 0))⟩
  (.op false ⟨(some 16), none, (.nilc (.tmp 15))⟩
  (.op false ⟨(some 17), none, (.fld 6 (.tmp 16))⟩
  (.op false ⟨(some 18), none, (.ld none (.tmp 17))⟩
  (.op false ⟨(some 19), none, (.bin .add (.tmp 18) (.const (.int .i64 1)))⟩
  (.op false ⟨(some 20), none, (.nilc (.tmp 15))⟩
  (.op false ⟨(some 21), none, (.fld 6 (.tmp 20))⟩
  (.op false ⟨none, none, (.st 1 (.tmp 21) (.tmp 19))⟩ .done)))))))))
 (.seq
 (.reg false (.op false ⟨(some 22), none, (.mv (.tmp 0))⟩
  (.op false ⟨(some 23), none, (.nilc (.tmp 22))⟩
  (.op false ⟨(some 24), none, (.fld 4 (.tmp 23))⟩
  (.op false ⟨(some 25), none, (.ld none (.tmp 24))⟩
  (.op false ⟨(some 26), none, (.mv (.tmp 1))⟩
  (.op false ⟨(some 27), none, (.mop (.lk 0 (.slice none 0 0) false (.tmp 25) (.tmp 26)))⟩
  (.op false ⟨(some 28), none, (.call f_slices_Clone_byte_byte [(.tmp 27)])⟩
  (.op false ⟨(some 4), none, (.mv (.tmp 28))⟩
  (.op false ⟨(some 5), none, (.mv (.const (.int .i64 0)))⟩ .done)))))))))) .ret))
 (.seq
 (.reg false (.op false ⟨(some 30), none, (.bin .eql (.tmp 12) (.const (.int .i64 2)))⟩
  (.op false ⟨(some 29), none, (.mv (.tmp 30))⟩ .done))) (.cond (.tmp 29)
 (.seq
 (.reg false (.op false ⟨(some 32), none, (.mv (.tmp 0))⟩
  (.op false ⟨(some 33), none, (.nilc (.tmp 32))⟩
  (.op false ⟨(some 34), none, (.fld 1 (.tmp 33))⟩
  (.op false ⟨(some 35), none, (.ld none (.tmp 34))⟩
  (.op false ⟨(some 36), none, (.mv (.tmp 1))⟩
  (.op false ⟨(some 37), none, (.call f_cache_Cache_Get [(.tmp 35), (.tmp 36)])⟩
  (.op false ⟨(some 31), none, (.mv (.tmp 37))⟩
  (.op false ⟨(some 38), none, (.ext (.tmp 31) 0)⟩
  (.op false ⟨(some 39), none, (.ext (.tmp 31) 1)⟩
  (.op false ⟨(some 6), none, (.mv (.tmp 38))⟩
  (.op false ⟨(some 7), none, (.mv (.tmp 39))⟩ .done))))))))))))
 (.seq (.seq
 (.reg false (.op false ⟨(some 40), none, (.mv (.tmp 7))⟩
  (.op false ⟨(some 41), none, (.bin .neq (.tmp 40) (.const (.int .i64 0)))⟩ .done))) (.cond (.tmp 41)
 (.seq
 (.reg false (.op false ⟨(some 42), none, (.mv (.tmp 7))⟩
  (.op false ⟨(some 4), none, (.mv (.const (.slice none 0 0)))⟩
  (.op false ⟨(some 5), none, (.mv (.tmp 42))⟩ .done)))) .ret) .skip))
 (.seq
 (.reg false (.op false ⟨(some 43), none, (.mv (.tmp 0))⟩
  (.op false ⟨(some 44), none, (.nilc (.tmp 43))⟩
  (.op false ⟨(some 45), none, (.fld 1 (.tmp 44))⟩
  (.op false ⟨(some 46), none, (.ld none (.tmp 45))⟩
  (.op false ⟨(some 47), none, (.mv (.tmp 1))⟩
  (.op false ⟨(some 48), none, (.call f_cache_Cache_Leave [(.tmp 46), (.tmp 47)])⟩ .done)))))))
 (.seq
 (.reg false (.op false ⟨(some 49), none, (.mv (.tmp 0))⟩
  (.op false ⟨(some 50), none, (.nilc (.tmp 49))⟩
  (.op false ⟨(some 51), none, (.fld 6 (.tmp 50))⟩
  (.op false ⟨(some 52), none, (.ld none (.tmp 51))⟩
  (.op false ⟨(some 53), none, (.bin .add (.tmp 52) (.const (.int .i64 1)))⟩
  (.op false ⟨(some 54), none, (.nilc (.tmp 49))⟩
  (.op false ⟨(some 55), none, (.fld 6 (.tmp 54))⟩
  (.op false ⟨none, none, (.st 1 (.tmp 55) (.tmp 53))⟩ .done)))))))))
 (.seq
 (.reg false (.op false ⟨(some 56), none, (.mv (.tmp 6))⟩
  (.op false ⟨(some 4), none, (.mv (.tmp 56))⟩
  (.op false ⟨(some 5), none, (.mv (.const (.int .i64 0)))⟩ .done)))) .ret))))) .skip))))))
 (.seq
 (.reg false (.op false ⟨(some 4), none, (.mv (.const (.slice none 0 0)))⟩
  (.op false ⟨(some 5), none, (.mv (.const (.int .i64 240)))⟩ .done))) .ret))))⟩

end Go.Gk.Pgr
end

section
namespace Go.Gk.Pgr
open Go Go.Gk Go.Gk.Dev Go.Gk.Cch Go.Gk.Node
attribute [local irreducible] gwp gws xwp
end Go.Gk.Pgr
end

section
namespace Go.Gk.Pgr
open Go Go.Gk Go.Gk.Dev Go.Gk.Cch Go.Gk.Node
attribute [local irreducible] gwp gws xwp
end Go.Gk.Pgr
end

section
namespace Go.Gk.Pgr
open Go Go.Gk Go.Gk.Dev Go.Gk.Cch Go.Gk.Node
attribute [local irreducible] gwp gws xwp
theorem Le.dcs {d : PHeap} {b : Nat} {T : TypeId} {l : List Value} (h : Le (bx b T l) d) : DCs d b 0 l := ⟨_, _, _, h b _ (sg_self _ _), fun i u hi => by simpa using hi⟩
def Mk (d : PHeap) (m : MD) (frm : Nat) (pv v : Value) : Prop := ∃ bm bk cp mq ms clk, v = .pointer (some ⟨bm, 0, none⟩) ∧ DCs d bm 0 [pv, .int .i64 (wr m.round), .slice (some ⟨bk, 0, none⟩) m.kinds.length cp, .map (some mq)] ∧ RSl 1 RInt d (.slice (some ⟨bk, 0, none⟩) m.kinds.length cp) m.kinds ∧
  Le (mpI mq ms clk) d ∧ MapOk d frm m.kinds m.fb ms
theorem Mk.mono {d d' : PHeap} {m : MD} {frm : Nat} {pv v : Value} (h : Mk d m frm pv v) (hl : Le d d') : Mk d' m frm pv v :=
  let ⟨bm, bk, cp, mq, ms, clk, h1, h2, h3, h4, h5⟩ := h
  ⟨bm, bk, cp, mq, ms, clk, h1, h2.mono hl, RSl.mono (R := RInt) mono_int h3 hl, h4.trans hl, h5.mono hl⟩
end Go.Gk.Pgr
end

section
namespace Go.Gk.Cch
open Go Go.Gk Go.Gk.Dev
attribute [local irreducible] gwp gws xwp
def Cov (d : PHeap) (c : CD) (D : DevD) (cv : Value) (L : List PHeap) : Prop := ∃ dv LC LD, L = LC ++ LD ∧ Ca d c dv cv LC ∧ Dv d D dv LD
theorem Cov.mono {d d' : PHeap} {c : CD} {D : DevD} {cv : Value} {L : List PHeap} (h : Cov d c D cv L) (hl : Le d d') : Cov d' c D cv L :=
  let ⟨dv, LC, LD, h1, h2, h3⟩ := h
  ⟨dv, LC, LD, h1, h2.mono hl, h3.mono hl⟩
section
variable {P : Program} {f : FuncId} {d : PHeap} {c : CD} {D : DevD} {cv : Value} {L : List PHeap} {k : Nat}
theorem CGetOk.cov (h : CGetOk P f) (hc : Cov d c D cv L) (hp : PinB c 4611686018427387904) (hk : k < D.syn.length) :
    GCall P f [cv, .int .i64 k] d L (Ret fun r d' L' => Cov d' (getF (D.cur k) c k).1 D cv L' ∧ GotB d' r (getF (D.cur k) c k).2) := by
  obtain ⟨dv, LC, LD, rfl, h1, h2⟩ := hc
  refine (h h1 h2 hp hk).mono (fun e d' L' hl hr => ?_)
  cases e with
  | returned v => obtain ⟨LC', LD', rfl, g1, g2, g3⟩ := hr; exact ⟨⟨dv, LC', LD', rfl, g1, g2⟩, g3⟩
  | panicked c => exact hr
  | outgrown => exact hr
theorem frameR {args : List Value} {A B : List PHeap} {R R' : Value → PHeap → List PHeap → Prop} (h : GCall P f args d A (Ret R)) (hR : ∀ v d' A', Le d d' → R v d' A' → R' v d' (A' ++ B)) : GCall P f args d (A ++ B) (Ret R') := by
  refine (h.frame B).mono (fun e d' L' hl hr => ?_)
  obtain ⟨A', rfl, hr⟩ := hr
  cases e with
  | returned v => exact hR v d' A' hl hr
  | panicked c => exact hr
  | outgrown => exact hr
theorem CLeaveOk.cov (h : CLeaveOk P f) (hc : Cov d c D cv L) (hp : PinB c 4611686018427387904) :
    GCall P f [cv, .int .i64 k] d L (Ret fun r d' L' => r = .int .i64 (leaveF c k).2 ∧ Cov d' (leaveF c k).1 D cv L') := by
  obtain ⟨dv, LC, LD, rfl, h1, h2⟩ := hc
  exact frameR (h (k := k) h1 hp) (fun v d' A' hl ⟨g1, g2, g3⟩ => ⟨g2, dv, A', LD, rfl, g3.mono (by rw [g1]; exact Le.refl _), h2.mono hl⟩)
theorem CForgetOk.cov (h : CForgetOk P f) (hc : Cov d c D cv L) (hp : ∀ i, findF k c.fr = some i → c.free.length < c.fr.length) :
    GCall P f [cv, .int .i64 k] d L (Ret fun r d' L' => r = .int .i64 (forgetF c k).2 ∧ Cov d' (forgetF c k).1 D cv L') := by
  obtain ⟨dv, LC, LD, rfl, h1, h2⟩ := hc
  exact frameR (h (k := k) h1 hp) (fun v d' A' hl ⟨g1, g2, g3⟩ => ⟨g2, dv, A', LD, rfl, g3.mono (by rw [g1]; exact Le.refl _), h2.mono hl⟩)
theorem CHeldOk.cov (h : CHeldOk P f) (hc : Cov d c D cv L) (hs : ∀ f ∈ c.fr, f.sec ≤ 8192) : GCall P f [cv] d L (Ret fun r d' L' => L' = L ∧ RInts d' r (heldF c)) := by
  obtain ⟨dv, LC, LD, rfl, h1, h2⟩ := hc
  exact frameR (h h1 hs) (fun v d' A' hl ⟨g1, g2⟩ => ⟨by rw [g1], g2⟩)
theorem HitsOk.cov (h : HitsOk P f) (hc : Cov d c D cv L) : GRead P f [cv] d L (.int .i64 (wr c.hits)) := by
  obtain ⟨dv, LC, LD, rfl, h1, h2⟩ := hc
  exact frameR (h h1) (fun v d' A' hl ⟨g1, g2, g3⟩ => ⟨g1, g2, by rw [g3]⟩)
theorem MissesOk.cov (h : MissesOk P f) (hc : Cov d c D cv L) : GRead P f [cv] d L (.int .i64 (wr c.miss)) := by
  obtain ⟨dv, LC, LD, rfl, h1, h2⟩ := hc
  exact frameR (h h1) (fun v d' A' hl ⟨g1, g2, g3⟩ => ⟨g1, g2, by rw [g3]⟩)
end
end Go.Gk.Cch
end

section
namespace Go.Gk.Pgr
open Go Go.Gk Go.Gk.Dev Go.Gk.Cch Go.Gk.Node
attribute [local irreducible] gwp gws xwp
end Go.Gk.Pgr
end

section
namespace Go.Gk.Pgr
open Go Go.Gk Go.Gk.Dev Go.Gk.Cch Go.Gk.Node
attribute [local irreducible] gwp gws xwp
end Go.Gk.Pgr
end

section
namespace Go.Gk.Pgr
open Go Go.Gk Go.Gk.Dev Go.Gk.Cch Go.Gk.Node
attribute [local irreducible] gwp gws xwp
section
variable {P : Program} {pan : List PanicEntry → Post} {Qn : Env → Post} {Ls L : List PHeap} {ρ : Env} {d : PHeap} {s : GS} {t : Nat} {tk : Bool}
end
structure AD where
  kind : Int
  k : Int
  by_ : UInt8
abbrev fillB (b : UInt8) : Sec := List.replicate 256 b
def PD.act (s : PD) (a : AD) : PD :=
  if a.kind = 0 then (if s.takeR.2.2 = 0 then (s.takeR.1.put s.takeR.2.1 (fillB a.by_)).1 else s.takeR.1)
  else if a.kind = 1 then (s.put (2 + a.k % 8) (fillB a.by_)).1
  else if a.kind = 3 then (s.drop (2 + a.k % 8)).1
  else if a.kind = 4 then s.flush
  else s
def PD.run (s : PD) (l : List AD) : PD := l.foldl PD.act s
end Go.Gk.Pgr
end

section
namespace Go.Gk.Pgr
open Go Go.Gk Go.Gk.Dev Go.Gk.Cch

structure Keep (s t : PD) : Prop where
  frm : t.frm = s.frm
  len : t.kinds.length = s.kinds.length
  syn : t.syn.length = s.syn.length
  old : ∀ i, 2 ≤ s.kd i → 2 ≤ t.kd i
  new : ∀ i, 2 ≤ t.kd i → 2 ≤ s.kd i
  sec : ∀ i, 2 ≤ s.kd i → t.syn.getD (s.frm + i) [] = s.syn.getD (s.frm + i) []
  round : t.round = s.round
theorem Keep.refl (s : PD) : Keep s s := ⟨rfl, rfl, rfl, fun _ h => h, fun _ h => h, fun _ _ => rfl, rfl⟩
theorem Keep.trans {s t u : PD} (h : Keep s t) (k : Keep t u) : Keep s u :=
  ⟨k.frm.trans h.frm, k.len.trans h.len, k.syn.trans h.syn, fun i hi => k.old i (h.old i hi), fun i hi => h.new i (k.new i hi), fun i hi => by have := k.sec i (h.old i hi); rw [h.frm] at this; exact this.trans (h.sec i hi), k.round.trans h.round⟩
theorem Keep.set {s : PD} {i : Nat} {x : Int} {fb : Nat → Sec} (h : 2 ≤ s.kd i ↔ 2 ≤ x) : Keep s { s with kinds := s.kinds.set i x, fb := fb } := by
  have key : ∀ j, 2 ≤ s.kd j ↔ 2 ≤ (s.kinds.set i x).getD j 0 := fun j => by
    by_cases hi : i < s.kinds.length
    · rw [getD_set hi]
      by_cases e : j = i
      · subst e; rw [if_pos rfl]; exact h
      · rw [if_neg e]
    · rw [List.set_eq_of_length_le (by omega)]
  exact ⟨rfl, by simp, rfl, fun j hj => (key j).1 hj, fun j hj => (key j).2 hj, fun _ _ => rfl, rfl⟩
theorem Keep.fb {s : PD} {fb : Nat → Sec} : Keep s { s with fb := fb } := ⟨rfl, rfl, rfl, fun _ h => h, fun _ h => h, fun _ _ => rfl, rfl⟩
theorem Keep.tc {s : PD} {tc : Nat} : Keep s { s with tc := tc } := ⟨rfl, rfl, rfl, fun _ h => h, fun _ h => h, fun _ _ => rfl, rfl⟩
theorem Keep.takeR (s : PD) : Keep s s.takeR.1 := by
  unfold PD.takeR
  cases h : place0 0 s.kinds with
  | none => exact Keep.refl s
  | some i =>
    obtain ⟨h1, h2⟩ := place0_some h
    exact Keep.set (by rw [kd_get h1, h2]; decide)
theorem Keep.put (s : PD) (k : Int) (b : Sec) : Keep s (s.put k b).1 := by
  unfold PD.put
  split
  · split
    · exact Keep.fb
    · exact Keep.refl s
  · exact Keep.refl s
theorem Keep.drop (s : PD) (k : Int) : Keep s (s.drop k).1 := by
  unfold PD.drop
  split
  · rename_i h
    obtain ⟨i, h1, rfl, h2, h3⟩ := kind_in h (by omega)
    rw [h3]
    exact Keep.set (by rw [h2]; decide)
  · split
    · rename_i h
      obtain ⟨i, h1, rfl, h2, h3⟩ := kind_in h (by omega)
      rw [h3]
      exact Keep.set (by rw [h2]; decide)
    · exact Keep.refl s
theorem flush_at {s : PD} {i : Nat} (h : s.kd i ≠ 1) : s.flush.syn.getD (s.frm + i) [] = s.syn.getD (s.frm + i) [] := by
  refine synced_at (fun w hw e => ?_)
  obtain ⟨j, h4, h5, rfl⟩ := writes_mem hw
  simp only at e
  rw [show j = i by omega] at h5
  exact h h5
theorem Keep.flush (s : PD) : Keep s s.flush := ⟨rfl, rfl, synced_len _ _, fun _ h => h, fun _ h => h, fun i hi => flush_at (by omega), rfl⟩
theorem Keep.act (s : PD) (a : AD) : Keep s (s.act a) := by
  unfold PD.act
  split
  · split
    · exact (Keep.takeR s).trans (Keep.put _ _ _)
    · exact Keep.takeR s
  · split
    · exact Keep.put _ _ _
    · split
      · exact Keep.drop _ _
      · split
        · exact Keep.flush s
        · exact Keep.refl s
theorem Keep.run (l : List AD) : ∀ s : PD, Keep s (s.run l) := by
  induction l with
  | nil => exact fun s => Keep.refl s
  | cons a l ih => exact fun s => (Keep.act s a).trans (ih (s.act a))
theorem Dv.sec {d : PHeap} {D : DevD} {v : Value} {L : List PHeap} (h : Dv d D v L) {k : Nat} (hk : k < D.syn.length) : (D.syn.getD k []).length = 256 := by
  obtain ⟨b, T, vs, vo, r, hs, ho, -, -, h3, -⟩ := h
  obtain ⟨cs, h1, h2⟩ := h3
  rw [List.getD_eq_getElem?_getD, List.getElem?_eq_getElem hk]
  exact (h2 k hk).2
theorem Pg.dev {d : PHeap} {s : PD} {dv pv : Value} {L : List PHeap} (h : Pg d s dv pv L) : ∃ A LD, L = A ++ LD ∧ Dv d ⟨s.syn, []⟩ dv LD := by
  obtain ⟨b, T, cv, bk, cp, hk, mb, ms, clk, c, LC, LD, bd, h1, h2, h3, h4, h5, h6, h7, h8, h9⟩ := h
  exact ⟨_ :: hk :: mpI mb ms clk :: LC, LD, h3, h7⟩
def PD.bytes (s : PD) (k : Int) : Sec := if s.kind k = 1 then s.fb (k - s.frm).toNat else if s.kind k = 2 then s.syn.getD k.toNat [] else []
def PD.errK (s : PD) (k : Int) : Int := if s.kind k = 1 then 0 else if s.kind k = 2 then 0 else 240
def eb (x : Int) : UInt8 := UInt8.ofNat (x % 256).toNat
def PD.pages (s : PD) (n : Nat) : List UInt8 := (List.range n).flatMap fun (k : Nat) => s.bytes (k : Int) ++ [eb (s.errK (k : Int))]
def PD.look (s : PD) : List UInt8 := s.pages 12 ++ s.olds.map eb ++ [eb s.free]
theorem bytes_old {s : PD} {k : Int} (h : s.kind k = 2) : s.bytes k = s.syn.getD k.toNat [] := by unfold PD.bytes; rw [if_neg (by omega), if_pos h]
theorem PGetOk.at {P : Program} {f : FuncId} (h : PGetOk P f) {d : PHeap} {s : PD} {dv pv : Value} {L : List PHeap} {k : Int} (hp : Pg d s dv pv L) :
    GCall P f [pv, .int .i64 k] d L (Ret fun r d' L' => ∃ a c tc, r = .tuple #[.slice a (s.bytes k).length c, .int .i64 (s.errK k)] ∧ RBytes d' (.slice a (s.bytes k).length c) (s.bytes k) ∧ Pg d' { s with tc := tc } dv pv L') := by
  refine GCall.monoR (h (k := k) hp) (fun r d' L' _ ⟨⟨q, q1, q2⟩, q3⟩ => ⟨d', L', Vs.refl _ _, ?_⟩)
  subst q1
  unfold PD.bytes PD.errK
  unfold PD.get at q2 q3 ⊢
  by_cases h1 : s.kind k = 1
  · simp only [if_pos h1] at q2 q3 ⊢
    obtain ⟨a, c, rfl⟩ := RSl.val q2
    exact ⟨a, c, _, rfl, q2, q3⟩
  · by_cases h2 : s.kind k = 2
    · simp only [if_neg h1, if_pos h2] at q2 q3 ⊢
      obtain ⟨a, c, rfl⟩ := RSl.val q2
      exact ⟨a, c, _, rfl, q2, q3⟩
    · simp only [if_neg h1, if_neg h2] at q2 q3 ⊢
      obtain rfl : q = .slice none 0 0 := q2
      exact ⟨none, 0, s.tc, rfl, RSl.nil, q3⟩
end Go.Gk.Pgr
end

section
namespace Go.Gk.Pgr
open Go Go.Gk Go.Gk.Dev Go.Gk.Cch

abbrev PD.fin (s : PD) : PD := s.flush.done
theorem Pg.full {d : PHeap} {s : PD} {dv pv : Value} {L : List PHeap} (h : Pg d s dv pv L) {k : Int} (hk : s.kind k = 1 ∨ s.kind k = 2) : (s.bytes k).length = 256 := by
  have hG := h.good
  obtain ⟨A, LD, -, hD⟩ := h.dev
  obtain ⟨b, T, cv, bk, cp, hkk, mb, ms, clk, c, LC, LD, bd, h1, h2, h3, h4, h5, -⟩ := h
  have hin := hG.inn
  rcases hk with hk | hk
  · obtain ⟨i, i1, rfl, i2, i3⟩ := kind_in hk (by omega)
    obtain ⟨v, -, -, q⟩ := h5 i i1 i2
    unfold PD.bytes; rw [if_pos hk, i3]; exact q
  · obtain ⟨i, i1, rfl, i2, i3⟩ := kind_in hk (by omega)
    rw [bytes_old hk]
    exact Dv.sec hD (show ((s.frm + i : Nat) : Int).toNat < s.syn.length by omega)
end Go.Gk.Pgr
end

section
namespace Go.Gk
open Go

def KeptA (X : List Nat) (a0 a : Act) : Prop := ∀ t, t ∉ X → a.tmps[t]? = a0.tmps[t]?
theorem KeptA.put {X : List Nat} {a0 a : Act} (h : KeptA X a0 a) {dst : Option Nat} (hd : ∀ t, dst = some t → t ∈ X) (v : Value) : KeptA X a0 (a.put dst v) := by
  intro t ht
  cases dst with
  | none => exact h t ht
  | some d =>
    have hne : d ≠ t := fun e => ht (e ▸ hd d rfl)
    show (a.tmps.setIfInBounds d v)[t]? = _
    rw [Array.getElem?_setIfInBounds, if_neg hne]
    exact h t ht
theorem KeptA.defer {X : List Nat} {a0 a : Act} (h : KeptA X a0 a) (l : List Deferred) : KeptA X a0 { a with defers := l } := h
section
variable {P : Program} {ops : Array Oper} {Q : Exit → Act → World → Prop} {X : List Nat} {a0 : Act}
end
def dstsC : Code → List Nat
  | .region _ ops _ => ops.toList.filterMap (·.dst)
  | .seq a b => dstsC a ++ dstsC b
  | .cond _ a b => dstsC a ++ dstsC b
  | .block _ a => dstsC a
  | .loop a => dstsC a
  | _ => []
end Go.Gk
end

section
namespace Go.Gk
open Go

structure GFunD where
  n : Nat
  res : List GRes
  a : GCode
  fd : Nat
  g : FuncId
  caps : List Nat
  c : GCode
def capsOf (n : Nat) : List Operand → Option (List Nat)
  | [] => some []
  | .tmp t :: l => if t < n then (capsOf n l).map (t :: ·) else none
  | _ :: _ => none
def rslot : GRes → Nat
  | .tmp t => t
  | .cell t _ => t
def decDf (n : Nat) (ops : List Oper) : Option (Nat × FuncId × List Nat) :=
  match ops with
  | [o1, o2] => match o1.dst, o1.op, o1.guard, o2.dst, o2.op, o2.guard with
    | some fd, .makeFunc (.func g) first caps, none, none, .defer ⟨.value (.tmp fd'), args, _⟩, none =>
      if first.size = 0 ∧ args.size = 0 ∧ fd = fd' ∧ fd < n then (capsOf n caps.toList).map fun cs => (fd, g, cs) else none
    | _, _, _, _, _, _ => none
  | _ => none
def decD (pr : Bool) (P : Program) (f : FuncId) : Option GFunD :=
  match P.funcs[f]? with
  | some fn =>
    if fn.name == "runtime.NumGoroutine" || !P.follows .mixedOrders then none else
    match fn.body with
    | some (.seq a (.seq (.region _ ops false) c)) =>
      match decDf fn.ntmps ops.toList, fn.results.toList.mapM (decRes P fn.ntmps) with
      | some (fd, g, cs), some rs => if rs.all (fun r => !(dstsC c).contains (rslot r)) then some ⟨fn.ntmps, rs, decC pr P fn.ntmps a, fd, g, cs, decC pr P fn.ntmps c⟩ else none
      | _, _ => none
    | _ => none
  | none => none
theorem act_init {args : List Value} {n : Nat} (ha : args.length ≤ n) : ({ tmps := args.toArray ++ Array.replicate (n - args.toArray.size) undef, defers := [] } : Act) = act n (env0 args) [] := by
  simp only [act, Act.mk.injEq, and_true]
  apply Array.ext
  · simp at ha ⊢; omega
  · intro i h1 h2
    simp only [Array.getElem_ofFn, env0]
    by_cases hi : i < args.length
    · rw [Array.getElem_append_left (by simpa using hi)]; simp [hi]
    · rw [Array.getElem_append_right (by simpa using hi)]; simp [List.getD, List.getElem?_eq_none (Nat.le_of_not_lt hi)]
theorem resV_run {P : Program} {n : Nat} {fn : Func} {rs : List GRes} (hr : fn.results.toList.mapM (decRes P n) = some rs) {ρ : Env} {ds : List Deferred} {d : PHeap} {L F : List PHeap} {W : World} (hOk : Ok (d :: (L ++ F)) W) {vs : List Value} (h : resAll ρ (HC d L) rs vs) :
    (results fn (act n ρ ds).tmps).run P W = .ok (resV vs) W := by
  have hl : ∀ a v, HC d L a v → W.cell? a = some v := fun a v hc => hc.cell hOk.head (fun q hq => hOk.2 q (by simp [hq]))
  have := results_run (P := P) (n := n) (ρ := ρ) (ds := ds) hl fn.results.toList rs vs hr h
  rw [results_eq, Array.mapM_eq_mapM_toList]
  simp only [Sem.run_bind, Sem.run_map, this, Result.andThen, Sem.run_pure]
  cases vs with
  | nil => rfl
  | cons v vs => cases vs with
    | nil => rfl
    | cons v' vs => rfl
theorem capsOf_eval {n : Nat} {ρ : Env} {ds : List Deferred} : ∀ {l : List Operand} {cs : List Nat}, capsOf n l = some cs → l.map (act n ρ ds).eval = cs.map ρ
  | [], cs, h => by cases h; rfl
  | .tmp t :: l, cs, h => by
    simp only [capsOf] at h
    split at h <;> try cases h
    rename_i ht
    simp only [Option.map_eq_some_iff] at h
    obtain ⟨cs', h, rfl⟩ := h
    have e : (act n ρ ds).eval (.tmp t) = ρ t := act_eval (x := .tmp t) (by simpa [opndOk] using ht)
    simp only [List.map_cons, e, capsOf_eval h]
  | .const _ :: l, cs, h => by cases h
  | .global _ :: l, cs, h => by cases h
  | .func _ :: l, cs, h => by cases h


section
variable {pr : Bool} {P : Program}
def clPost (K : PHeap → List PHeap → Prop) : GPost := { n := fun _ => K, ret := fun _ => K, ex := fun _ _ _ _ => False, pan := fun _ _ _ => False }
def clVal (g : FuncId) (caps : List Value) : Value := .func (.func g) #[] caps.toArray
theorem decDf_spec {n : Nat} {ops : Array Oper} {r : Nat × FuncId × List Nat} (h : decDf n ops.toList = some r) : ∃ o1 o2 caps ats, ops = #[o1, o2] ∧ o1.dst = some r.1 ∧ o1.op = .makeFunc (.func r.2.1) #[] caps ∧ o1.guard = none ∧ o2.dst = none ∧ o2.op = .defer ⟨.value (.tmp r.1), #[], ats⟩ ∧ o2.guard = none ∧ r.1 < n ∧ capsOf n caps.toList = some r.2.2 := by
  obtain ⟨ops⟩ := ops
  simp only [decDf] at h
  split at h <;> try cases h
  rename_i o1 o2
  split at h <;> try cases h
  rename_i h1 h2 h3 h4 h5 h6
  split at h <;> try cases h
  rename_i hc
  obtain ⟨k1, k2, k3, k4⟩ := hc
  simp only [Option.map_eq_some_iff] at h
  obtain ⟨cs, hcs, rfl⟩ := h
  subst k3
  have k1 := Array.eq_empty_of_size_eq_zero k1
  have k2 := Array.eq_empty_of_size_eq_zero k2
  subst k1; subst k2
  exact ⟨o1, o2, _, _, by simp_all, h1, h2, h3, h4, h5, h6, k4, hcs⟩
end
end Go.Gk
end

section
namespace Go.Gk
open Go
section
variable {pr : Bool} {P : Program}
theorem closure_plain {f : FuncId} {g : GFun} (hd : decG pr P f = some g) (hr : g.res = []) {args : List Value} (ha : args.length ≤ g.n) {F : List PHeap} {W : World} {d : PHeap} {L : List PHeap} {K : PHeap → List PHeap → Prop}
    (h : gwp P g.code (clPost K) (env0 args) d L) (hOk : Ok (d :: (L ++ F)) W) :
    CallsD P f args.toArray .returning W fun e u' w' => (∃ r, e = .returned r) ∧ u' = .returning ∧ ∃ d' L', Ok (d' :: (L' ++ F)) w' ∧ Le d d' ∧ Keep W w' ∧ K d' L' := by
  simp only [decG] at hd
  split at hd <;> try cases hd
  rename_i fn hf
  split at hd <;> try cases hd
  rename_i hn
  split at hd <;> try cases hd
  rename_i c hb
  rw [Option.map_eq_some_iff] at hd
  obtain ⟨rs, hrs, rfl⟩ := hd
  simp only at hr
  subst hr
  have hz : fn.results.size = 0 := by
    have : fn.results.toList.length = 0 := by
      cases e : fn.results.toList with
      | nil => rfl
      | cons r l =>
        rw [e, List.mapM_cons] at hrs
        simp only [Option.bind_eq_bind, Option.bind_eq_some_iff, Option.pure_def] at hrs
        obtain ⟨_, _, _, _, hh⟩ := hrs
        cases hh
    simpa using this
  simp only [Bool.or_eq_true, not_or, Bool.not_eq_true, Bool.not_eq_false'] at hn
  refine callsD_of_wpS hf hb fun c₀ cs hu => ?_
  rw [act_init ha]
  refine wpS_of_wp (wp_mono (gwp_sound (ds := []) (F := F) (W0 := W) (d0 := d) (by simpa using hn.2) c _ _ d L W h hOk (Le.refl d) (Keep.refl W)) ?_)
  have hres : ∀ (tm : Array Value) (w : World), (results fn tm).run P w = .ok (.tuple #[]) w := by
    intro tm w
    have : fn.results = #[] := Array.eq_empty_of_size_eq_zero hz
    rw [results_eq, Array.mapM_eq_mapM_toList, this]; simp [Result.andThen]
  intro e a w hq
  cases e with
  | normal =>
    obtain ⟨ρ, d', L', rfl, k1, k2, k3, k4⟩ := hq
    exact ⟨rfl, .returning, by cases c₀; simp_all, _, hres _ _, ⟨_, rfl⟩, rfl, d', L', k1, k2, k3, k4⟩
  | ret =>
    obtain ⟨ρ, d', L', rfl, k1, k2, k3, k4⟩ := hq
    exact ⟨rfl, .returning, by cases c₀; simp_all, _, hres _ _, ⟨_, rfl⟩, rfl, d', L', k1, k2, k3, k4⟩
  | panic c => obtain ⟨_, _, _, _, _, _, hh⟩ := hq; exact hh.elim
  | exit i => obtain ⟨_, _, _, _, _, _, _, hh⟩ := hq; exact hh.elim
  | goto l => exact hq.elim
  | outgrown => exact hq.elim
def nRun (P : Program) (res : List GRes) (v : GFun) (R : Ending → PHeap → List PHeap → Prop) (caps : List Value) : GPost :=
  { n := fun ρ d L => gwp P v.code (clPost (retPost res R ρ)) (env0 caps) d L, ret := fun ρ d L => gwp P v.code (clPost (retPost res R ρ)) (env0 caps) d L, ex := fun _ _ _ _ => False, pan := fun _ _ _ => False }
def nPost (P : Program) (g : GFunD) (v : GFun) (R : Ending → PHeap → List PHeap → Prop) : GPost :=
  { n := fun ρ d L => gwp P g.c (nRun P g.res v R (g.caps.map ρ)) (upd ρ g.fd (clVal g.g (g.caps.map ρ))) d L,
    ret := fun _ _ _ => False, ex := fun _ _ _ _ => False, pan := fun _ _ _ => False }
theorem GCallN_of {pr' : Bool} {f : FuncId} {g : GFunD} {v : GFun} (hd : decD pr P f = some g) (hv : decG pr' P g.g = some v) (hvr : v.res = []) {args : List Value} (ha : args.length ≤ g.n) (hcl : g.caps.length ≤ v.n) {d : PHeap} {L : List PHeap} {R : Ending → PHeap → List PHeap → Prop}
    (h : gwp P g.a (nPost P g v R) (env0 args) d L) : GCall P f args d L R := by
  simp only [decD] at hd
  split at hd <;> try cases hd
  rename_i fn hf
  split at hd <;> try cases hd
  rename_i hn
  split at hd <;> try cases hd
  rename_i A id ops C hb
  split at hd <;> try cases hd
  rename_i fd gg cs rs hdf hrs
  split at hd <;> cases hd
  rename_i hall
  simp only [Bool.or_eq_true, not_or, Bool.not_eq_true, Bool.not_eq_false'] at hn
  have hm : P.follows .mixedOrders = true := by simpa using hn.2
  obtain ⟨o1, o2, caps, ats, rfl, h1, h2, h3, h4, h5, h6, h7, h8⟩ := decDf_spec hdf
  simp only at h1 h2 h5 h7 h8 hv hcl ha h
  have hvc : Callable P gg := by
    have hv' := hv
    simp only [decG] at hv'
    split at hv' <;> try cases hv'
    rename_i fn' hf'
    split at hv' <;> try cases hv'
    rename_i hn'
    split at hv' <;> try cases hv'
    rename_i hb'
    simp only [Bool.or_eq_true, not_or, Bool.not_eq_true, Bool.not_eq_false'] at hn'
    exact ⟨fn', hf', by rw [hb']; rfl, hn'.1⟩
  refine ⟨⟨fn, hf, by rw [hb]; rfl, hn.1⟩, fun F W hOk => ?_⟩
  refine calls_of_wp_defers hf hb ?_
  rw [act_init ha]
  refine wp_seq (wp_mono (gwp_sound (ds := []) (F := F) (W0 := W) (d0 := d) hm A _ _ d L W h hOk (Le.refl d) (Keep.refl W)) ?_)
  intro e a w hq
  cases e with
  | panic c => obtain ⟨_, _, _, _, _, _, hh⟩ := hq; exact hh.elim
  | exit i => obtain ⟨_, _, _, _, _, _, _, hh⟩ := hq; exact hh.elim
  | ret => obtain ⟨_, _, _, _, _, _, _, hh⟩ := hq; exact hh.elim
  | goto l => exact hq.elim
  | outgrown => exact hq.elim
  | normal =>
  obtain ⟨ρ, d1, L1, rfl, k1, k2, k3, k4⟩ := hq
  simp only [nPost] at k4
  refine wp_seq (wp_region ?_)
  have l : List.range (#[o1, o2] : Array Oper).size = [0, 1] := rfl
  rw [l]
  have g0 : (#[o1, o2] : Array Oper)[0]? = some o1 := rfl
  have g1 : (#[o1, o2] : Array Oper)[1]? = some o2 := rfl
  have e1 : ∀ ys, Region.wanted o1 ys = true := fun ys => by simp [Region.wanted, h3]
  have e2 : ∀ ys, Region.wanted o2 ys = true := fun ys => by simp [Region.wanted, h6]
  have hcv : caps.map (act fn.ntmps ρ []).eval = (cs.map ρ).toArray := by
    have := capsOf_eval (ρ := ρ) (ds := []) h8
    exact Array.ext' (by rw [Array.toList_map, this])
  have x1 : ∀ w, (execOp (act fn.ntmps ρ []).eval o1).run P w = .ok (.value (clVal gg (cs.map ρ))) w := by
    intro w; simp [execOp, h2, Instr.makeFunc, Result.andThen, hcv, clVal]
  have hfd : (act fn.ntmps (upd ρ fd (clVal gg (cs.map ρ))) []).eval (.tmp fd) = clVal gg (cs.map ρ) := by
    rw [act_eval (x := .tmp fd) (by simpa [opndOk] using h7)]; simp [ev, upd]
  have x2 : ∀ w, (execOp (act fn.ntmps (upd ρ fd (clVal gg (cs.map ρ))) []).eval o2).run P w = .ok (.defer { target := .fn (.func gg) (cs.map ρ).toArray, args := #[] }) w := by
    intro w
    generalize (act fn.ntmps (upd ρ fd (clVal gg (cs.map ρ))) []).eval = e at hfd
    simp [execOp, h5, resolve, hfd, clVal, Deferred.ofValue, Result.andThen]
  have p1 : (act fn.ntmps ρ []).put o1.dst (clVal gg (cs.map ρ)) = act fn.ntmps (upd ρ fd (clVal gg (cs.map ρ))) [] := by
    rw [h1, act_put (d := some fd) (fun _ e => by cases e; exact h7)]; rfl
  simp only [wpOps_cons, wpOp, g0, e1, if_true]
  refine .inl ?_
  simp only [Oper.wp, x1, Oper.upon, p1, wpOps_cons, wpOp, g1, e2, if_true]
  refine .inl ?_
  simp only [x2, Oper.upon, h4]
  show Code.wp P C _ (act fn.ntmps (upd ρ fd (clVal gg (cs.map ρ))) [{ target := .fn (.func gg) (cs.map ρ).toArray, args := #[] }]) w
  have hlen : (cs.map ρ).length ≤ v.n := by simpa using hcl
  have hinv : ∀ w, (invoke (.fn (.func gg) (cs.map ρ).toArray) #[]).run P w = .ok (.enter gg (cs.map ρ).toArray) w := by
    intro w; simp [invoke, callFunc_run hvc]
  generalize hD : (⟨.fn (.func gg) (cs.map ρ).toArray, #[]⟩ : Deferred) = D
  refine wp_mono (gwp_sound (ds := [D]) (F := F) (W0 := W) (d0 := d) hm C _ _ d1 L1 w k4 k1 k2 k3) ?_
  subst hD
  have fin : ∀ a w, (∃ ρ' d' L', a = act fn.ntmps ρ' [⟨.fn (.func gg) (cs.map ρ).toArray, #[]⟩] ∧ Ok (d' :: (L' ++ F)) w ∧ Le d d' ∧ Keep W w ∧ gwp P v.code (clPost (retPost rs R ρ')) (env0 (cs.map ρ)) d' L') →
      Leaves P fn a.tmps (fun e W' => ∃ d' L', Ok (d' :: (L' ++ F)) W' ∧ Le d d' ∧ Keep W W' ∧ R e d' L') a.defers .returning w := by
    rintro a w ⟨ρ', d', L', rfl, j1, j2, j3, j4⟩
    refine leaves_cons (by simp) (hinv w) ((closure_plain hv hvr hlen j4 j1).mono ?_)
    rintro e u' w' ⟨⟨r, rfl⟩, rfl, d2, L2, q1, q2, q3, vs, q4, d3, L3, q5, q6⟩
    exact ⟨resV vs, resV_run hrs q1 q4, d3, L3, q5.2 F w' q1, (j2.trans q2).trans q5.1, j3.trans q3, q6⟩
  intro e a w hq
  cases e with
  | normal => exact fin a w hq
  | ret => exact fin a w hq
  | panic c => obtain ⟨_, _, _, _, _, _, hh⟩ := hq; exact hh.elim
  | exit i => obtain ⟨_, _, _, _, _, _, _, hh⟩ := hq; exact hh.elim
  | goto l => exact hq.elim
  | outgrown => exact hq.elim
end
end Go.Gk
end

section
namespace Go.Gk.Chn
open Go Go.Gk Go.Gk.Dev Go.Gk.Cch Go.Gk.Pgr Go.Gk.Node
attribute [local irreducible] gwp gws xwp
def takeL (s : PD) (l : List Int) : Nat → PD × List Int × Int
  | 0 => (s, l, 0)
  | n + 1 => if s.takeR.2.2 = 0 then takeL s.takeR.1 (l ++ [s.takeR.2.1]) n else (s.takeR.1, l, s.takeR.2.2)
def dropL (s : PD) (l : List Int) : PD := l.foldl (fun s k => (s.drop k).1) s
def takenF (s : PD) (n : Nat) : PD × List Int × Int := if (takeL s [] n).2.2 = 0 then takeL s [] n else (dropL (takeL s [] n).1 (takeL s [] n).2.1, [], (takeL s [] n).2.2)
def g_chain_taken (f_chain_taken_1 f_pager_Pager_Take : Nat) : GFunD :=
 ⟨27, [(.cell 4 none), (.cell 5 none)],
 (.reg false (.op false ⟨(some 2), none, (.box (.tmp 0))⟩
  (.op false ⟨(some 4), none, (.alo (.slice none 0 0))⟩
  (.op false ⟨(some 5), none, (.alo (.int .i64 0))⟩ .done)))), 8, f_chain_taken_1, [5, 4, 2],
 (.seq (.seq
 (.reg false (.op false ⟨(some 9), none, (.mv (.tmp 1))⟩
  (.op false ⟨(some 10), none, (.mv (.const (.int .i64 0)))⟩ .done))) (.block 0 (.loop
 (.seq
 (.reg false (.op false ⟨(some 11), none, (.bin .lss (.tmp 10) (.tmp 9))⟩ .done))
 (.seq (.cond (.tmp 11) .skip (.exit 0))
 (.seq (.block 1
 (.seq
 (.reg false (.op false ⟨(some 13), none, (.ld none (.tmp 2))⟩
  (.op false ⟨(some 14), none, (.call f_pager_Pager_Take [(.tmp 13)])⟩
  (.op false ⟨(some 12), none, (.mv (.tmp 14))⟩
  (.op false ⟨(some 15), none, (.ext (.tmp 12) 0)⟩
  (.op false ⟨(some 16), none, (.ext (.tmp 12) 1)⟩
  (.op false ⟨(some 6), none, (.mv (.tmp 15))⟩
  (.op false ⟨(some 7), none, (.mv (.tmp 16))⟩ .done))))))))
 (.seq (.seq
 (.reg false (.op false ⟨(some 17), none, (.mv (.tmp 7))⟩
  (.op false ⟨(some 18), none, (.bin .neq (.tmp 17) (.const (.int .i64 0)))⟩ .done))) (.cond (.tmp 18)
 (.seq
 (.reg false (.op false ⟨(some 19), none, (.ld none (.tmp 4))⟩
  (.op false ⟨(some 20), none, (.mv (.tmp 7))⟩
  (.op false ⟨none, none, (.st 1 (.tmp 4) (.tmp 19))⟩
  (.op false ⟨none, none, (.st 1 (.tmp 5) (.tmp 20))⟩ .done))))) .ret) .skip))
 (.reg false (.op false ⟨(some 21), none, (.ld none (.tmp 4))⟩
  (.op false ⟨(some 22), none, (.mv (.tmp 6))⟩
  (.op false ⟨(some 23), none, (.bsl 1 1 [(.int .i64 0)] [(0, (.tmp 22))])⟩
  (.op false ⟨(some 24), none, (.app 1 8 [(.int .i64 0)] (.tmp 21) (.tmp 23))⟩
  (.op false ⟨none, none, (.st 1 (.tmp 4) (.tmp 24))⟩ .done)))))))))
 (.reg false (.op false ⟨(some 25), none, (.bin .add (.tmp 10) (.const (.int .i64 1)))⟩
  (.op false ⟨(some 10), none, (.mv (.tmp 25))⟩ .done)))))))))
 (.seq
 (.reg false (.op false ⟨(some 26), none, (.ld none (.tmp 4))⟩
  (.op false ⟨none, none, (.st 1 (.tmp 4) (.tmp 26))⟩
  (.op false ⟨none, none, (.st 1 (.tmp 5) (.const (.int .i64 0)))⟩ .done)))) .ret))⟩

def g_chain_taken_1 (f_pager_Pager_Drop : Nat) : GFun :=
 ⟨17, [],
 (.seq
 (.reg false (.op false ⟨(some 5), none, (.ld none (.tmp 0))⟩
  (.op false ⟨(some 6), none, (.bin .neq (.tmp 5) (.const (.int .i64 0)))⟩ .done))) (.cond (.tmp 6)
 (.seq (.seq
 (.reg false (.op false ⟨(some 7), none, (.ld none (.tmp 1))⟩
  (.op false ⟨(some 8), none, (.len (.tmp 7))⟩
  (.op false ⟨(some 9), none, (.mv (.const (.int .i64 0)))⟩ .done)))) (.block 0 (.loop
 (.seq
 (.reg false (.op false ⟨(some 10), none, (.bin .lss (.tmp 9) (.tmp 8))⟩ .done))
 (.seq (.cond (.tmp 10) .skip (.exit 0))
 (.seq (.block 1
 (.seq
 (.reg false (.op false ⟨(some 11), none, (.idx 1 (.tmp 7) (.tmp 9))⟩
  (.op false ⟨(some 12), none, (.ld none (.tmp 11))⟩
  (.op false ⟨(some 4), none, (.mv (.tmp 12))⟩ .done))))
 (.reg false (.op false ⟨(some 13), none, (.ld none (.tmp 2))⟩
  (.op false ⟨(some 14), none, (.mv (.tmp 4))⟩
  (.op false ⟨(some 15), none, (.call f_pager_Pager_Drop [(.tmp 13), (.tmp 14)])⟩ .done))))))
 (.reg false (.op false ⟨(some 16), none, (.bin .add (.tmp 9) (.const (.int .i64 1)))⟩
  (.op false ⟨(some 9), none, (.mv (.tmp 16))⟩ .done)))))))))
 (.reg false (.op false ⟨none, none, (.st 1 (.tmp 1) (.const (.slice none 0 0)))⟩ .done))) .skip))⟩

end Go.Gk.Chn
end

section
namespace Go.Gk.Chn
open Go Go.Gk Go.Gk.Dev Go.Gk.Cch Go.Gk.Pgr Go.Gk.Node
section
variable {P : Program} {pan : List PanicEntry → Post} {Qn : Env → Post} {Ls L : List PHeap} {ρ : Env} {d : PHeap} {s : GS} {t : Nat} {tk : Bool}
end
attribute [local irreducible] gwp gws xwp
def pagesN (n : Nat) : Nat := max 1 ((n + 253) / 254)
def PagesOk (P : Program) (f : FuncId) : Prop := ∀ {d : PHeap} {n : Nat}, n ≤ 1000000 → GPure P f [.int .i64 n] d (.int .i64 (pagesN n))
def g_chain_Pages : GFun :=
 ⟨10, [(.tmp 2)],
 (.seq
 (.reg false (.op false ⟨(some 2), none, (.mv (.const (.int .i64 0)))⟩ .done))
 (.seq (.seq
 (.reg false (.op false ⟨(some 3), none, (.mv (.tmp 0))⟩
  (.op false ⟨(some 4), none, (.bin .lss (.tmp 3) (.const (.int .i64 0)))⟩ .done))) (.cond (.tmp 4)
 (.seq
 (.reg false (.op false ⟨(some 2), none, (.mv (.const (.int .i64 0)))⟩ .done)) .ret) .skip))
 (.seq
 (.reg false (.op false ⟨(some 5), none, (.mv (.tmp 0))⟩
  (.op false ⟨(some 6), none, (.bin .sub (.tmp 5) (.const (.int .i64 1)))⟩
  (.op false ⟨(some 7), none, (.bin .quo (.tmp 6) (.const (.int .i64 254)))⟩
  (.op false ⟨(some 8), none, (.bin .add (.tmp 7) (.const (.int .i64 1)))⟩
  (.op false ⟨(some 9), none, (.mx2 (.const (.int .i64 1)) (.tmp 8))⟩
  (.op false ⟨(some 2), none, (.mv (.tmp 9))⟩ .done))))))) .ret)))⟩

theorem pages_eq {n : Nat} : max (1 : Int) (((n : Int) - 1).tdiv 254 + 1) = (pagesN n : Nat) := by
  unfold pagesN
  by_cases h : n = 0
  · subst h; rfl
  · have h1 : ((n : Int) - 1).tdiv 254 = ((n : Int) - 1) / 254 := Int.tdiv_eq_ediv_of_nonneg (by omega)
    rw [h1]; omega
theorem pages_ok {P : Program} {f : FuncId} (hd : dec P f = some g_chain_Pages) : PagesOk P f := by
  intro d n hn
  refine GCall_of hd (Nat.le_of_ble_eq_true rfl) ?_
  show gwp P _ _ _ _ _
  have hb : -1 ≤ ((n : Int) - 1).tdiv 254 ∧ ((n : Int) - 1).tdiv 254 ≤ 1000000 := by
    by_cases h : n = 0
    · subst h; decide
    · rw [Int.tdiv_eq_ediv_of_nonneg (by omega)]; omega
  (apply w_sq; apply w_reg; apply w_mvi; rfl; apply w_done0; apply w_sq; apply w_sq; apply w_reg; apply w_mvi; rfl; apply w_lss; rfl; rfl; apply w_done0; refine w_ifdF rfl (by omega) ?_; apply w_skip; apply w_sq; apply w_reg; apply w_mvi; rfl; apply w_sub; rfl; rfl; omega; omega; apply w_quoT; rfl; rfl; omega; omega; omega; apply w_add; rfl; rfl; omega; omega; apply w_mx2; rfl; rfl; apply w_mvi; rfl; apply w_done0; apply w_ret)
  refine finPi rfl ?_
  rw [pages_eq]
def pageF (next : Int) (c : List UInt8) : Sec := UInt8.ofNat (next / 256 % 256).toNat :: UInt8.ofNat (next % 256).toNat :: (c ++ List.replicate (254 - c.length) 0)
def chunkF (b : List UInt8) (i : Nat) : List UInt8 := (b.drop (i * 254)).take 254
def putL (s : PD) (l : List Int) (b : List UInt8) : Nat → PD
  | 0 => s
  | i + 1 => ((putL s l b i).put (l.getD i 0) (pageF (l.getD (i + 1) 65535) (chunkF b i))).1
def g_chain_Put (f_chain_Pages f_chain_taken f_pager_Pager_Put : Nat) : GFun :=
 ⟨64, [(.tmp 4), (.tmp 5)],
 (.seq
 (.reg false (.op false ⟨(some 4), none, (.mv (.const (.int .i64 0)))⟩
  (.op false ⟨(some 5), none, (.mv (.const (.int .i64 0)))⟩ .done)))
 (.seq (.seq
 (.reg false (.op false ⟨(some 12), none, (.mv (.tmp 1))⟩
  (.op false ⟨(some 13), none, (.len (.tmp 12))⟩
  (.op false ⟨(some 14), none, (.bin .gtr (.tmp 13) (.const (.int .i64 16384)))⟩ .done)))) (.cond (.tmp 14)
 (.seq
 (.reg false (.op false ⟨(some 4), none, (.mv (.const (.int .i64 0)))⟩
  (.op false ⟨(some 5), none, (.mv (.const (.int .i64 3)))⟩ .done))) .ret) .skip))
 (.seq
 (.reg false (.op false ⟨(some 16), none, (.mv (.tmp 0))⟩
  (.op false ⟨(some 17), none, (.mv (.tmp 1))⟩
  (.op false ⟨(some 18), none, (.len (.tmp 17))⟩
  (.op false ⟨(some 19), none, (.call f_chain_Pages [(.tmp 18)])⟩
  (.op false ⟨(some 20), none, (.call f_chain_taken [(.tmp 16), (.tmp 19)])⟩
  (.op false ⟨(some 15), none, (.mv (.tmp 20))⟩
  (.op false ⟨(some 21), none, (.ext (.tmp 15) 0)⟩
  (.op false ⟨(some 22), none, (.ext (.tmp 15) 1)⟩
  (.op false ⟨(some 6), none, (.mv (.tmp 21))⟩
  (.op false ⟨(some 7), none, (.mv (.tmp 22))⟩ .done)))))))))))
 (.seq (.seq
 (.reg false (.op false ⟨(some 23), none, (.mv (.tmp 7))⟩
  (.op false ⟨(some 24), none, (.bin .neq (.tmp 23) (.const (.int .i64 0)))⟩ .done))) (.cond (.tmp 24)
 (.seq
 (.reg false (.op false ⟨(some 25), none, (.mv (.tmp 7))⟩
  (.op false ⟨(some 4), none, (.mv (.const (.int .i64 0)))⟩
  (.op false ⟨(some 5), none, (.mv (.tmp 25))⟩ .done)))) .ret) .skip))
 (.seq (.seq
 (.reg false (.op false ⟨(some 26), none, (.mv (.tmp 6))⟩
  (.op false ⟨(some 27), none, (.len (.tmp 26))⟩
  (.op false ⟨(some 28), none, (.mv (.const (.int .i64 0)))⟩ .done)))) (.block 0 (.loop
 (.seq
 (.reg false (.op false ⟨(some 29), none, (.bin .lss (.tmp 28) (.tmp 27))⟩ .done))
 (.seq (.cond (.tmp 29) .skip (.exit 0))
 (.seq (.block 1
 (.seq
 (.reg false (.op false ⟨(some 30), none, (.mv (.tmp 28))⟩
  (.op false ⟨(some 31), none, (.idx 1 (.tmp 26) (.tmp 28))⟩
  (.op false ⟨(some 32), none, (.ld none (.tmp 31))⟩
  (.op false ⟨(some 8), none, (.mv (.tmp 30))⟩
  (.op false ⟨(some 9), none, (.mv (.tmp 32))⟩ .done))))))
 (.seq
 (.reg false (.op false ⟨(some 10), none, (.mv (.const (.int .i64 65535)))⟩ .done))
 (.seq (.seq
 (.reg false (.op false ⟨(some 33), none, (.mv (.tmp 8))⟩
  (.op false ⟨(some 34), none, (.bin .add (.tmp 33) (.const (.int .i64 1)))⟩
  (.op false ⟨(some 35), none, (.mv (.tmp 6))⟩
  (.op false ⟨(some 36), none, (.len (.tmp 35))⟩
  (.op false ⟨(some 37), none, (.bin .lss (.tmp 34) (.tmp 36))⟩ .done)))))) (.cond (.tmp 37)
 (.reg false (.op false ⟨(some 38), none, (.mv (.tmp 6))⟩
  (.op false ⟨(some 39), none, (.mv (.tmp 8))⟩
  (.op false ⟨(some 40), none, (.bin .add (.tmp 39) (.const (.int .i64 1)))⟩
  (.op false ⟨(some 41), none, (.idx 1 (.tmp 38) (.tmp 40))⟩
  (.op false ⟨(some 42), none, (.ld none (.tmp 41))⟩
  (.op false ⟨(some 10), none, (.mv (.tmp 42))⟩ .done))))))) .skip))
 (.seq
 (.reg false (.op false ⟨(some 11), none, (.alo (.agg z256.toArray))⟩ .done))
 (.seq
 (.reg false (.op false ⟨(some 43), none, (.mv (.tmp 10))⟩
  (.op false ⟨(some 44), none, (.bin .shr (.tmp 43) (.const (.int .u64 8)))⟩
  (.op false ⟨(some 45), none, (.cvi .u8 (.tmp 44))⟩
  (.op false ⟨(some 46), none, (.mv (.tmp 10))⟩
  (.op false ⟨(some 47), none, (.cvi .u8 (.tmp 46))⟩
  (.op false ⟨(some 48), none, (.idxa 256 1 (.tmp 11) (.const (.int .i64 0)))⟩
  (.op false ⟨none, none, (.st 1 (.tmp 48) (.tmp 45))⟩
  (.op false ⟨(some 49), none, (.idxa 256 1 (.tmp 11) (.const (.int .i64 1)))⟩
  (.op false ⟨none, none, (.st 1 (.tmp 49) (.tmp 47))⟩ .done))))))))))
 (.seq
 (.reg true (.op true ⟨(some 50), none, (.sla 256 1 (.tmp 11) (some (.const (.int .i64 2))) none none)⟩
  (.op true ⟨(some 51), none, (.mv (.tmp 1))⟩
  (.op true ⟨(some 52), none, (.mv (.tmp 8))⟩
  (.op true ⟨(some 53), none, (.bin .mul (.tmp 52) (.const (.int .i64 254)))⟩
  (.op true ⟨(some 54), none, (.sl 1 (.tmp 51) (some (.tmp 53)) none none)⟩
  (.op false ⟨(some 55), none, (.mop (.cpy 1 (.tmp 50) (.tmp 54)))⟩ .done)))))))
 (.reg false (.op false ⟨(some 56), none, (.mv (.tmp 0))⟩
  (.op false ⟨(some 57), none, (.mv (.tmp 9))⟩
  (.op false ⟨(some 58), none, (.sla 256 1 (.tmp 11) none none none)⟩
  (.op false ⟨(some 59), none, (.call f_pager_Pager_Put [(.tmp 56), (.tmp 57), (.tmp 58)])⟩ .done))))))))))))
 (.reg false (.op false ⟨(some 60), none, (.bin .add (.tmp 28) (.const (.int .i64 1)))⟩
  (.op false ⟨(some 28), none, (.mv (.tmp 60))⟩ .done)))))))))
 (.seq
 (.reg false (.op false ⟨(some 61), none, (.mv (.tmp 6))⟩
  (.op false ⟨(some 62), none, (.idx 1 (.tmp 61) (.const (.int .i64 0)))⟩
  (.op false ⟨(some 63), none, (.ld none (.tmp 62))⟩
  (.op false ⟨(some 4), none, (.mv (.tmp 63))⟩
  (.op false ⟨(some 5), none, (.mv (.const (.int .i64 0)))⟩ .done)))))) .ret))))))⟩

end Go.Gk.Chn
end

section
namespace Go.Gk.Chn
open Go Go.Gk Go.Gk.Dev Go.Gk.Cch Go.Gk.Pgr Go.Gk.Node

section
variable {P : Program} {pan : List PanicEntry → Post} {Qn : Env → Post} {Ls L : List PHeap} {ρ : Env} {d : PHeap} {s : GS} {t : Nat} {tk : Bool}
end
attribute [local irreducible] gwp gws xwp
def liveK (s : PD) (k : Int) : Prop := s.kind k = 1 ∨ s.kind k = 2
instance (s : PD) (k : Int) : Decidable (liveK s k) := inferInstanceAs (Decidable (_ ∨ _))
def g_chain_pages_1 (f_chain_Pages f_pager_Pager_Get : Nat) : GFunX :=
 (.mk 39 []
 (.seq (.g
 (.reg false (.op false ⟨(some 7), none, (.ld none (.tmp 1))⟩
  (.op false ⟨(some 8), none, (.call f_chain_Pages [(.tmp 7)])⟩
  (.op false ⟨(some 9), none, (.mv (.const (.int .i64 0)))⟩ .done))))) (.block 0 (.loop
 (.seq (.g
 (.reg false (.op false ⟨(some 10), none, (.bin .lss (.tmp 9) (.tmp 8))⟩ .done)))
 (.seq (.g (.cond (.tmp 10) .skip (.exit 0)))
 (.seq (.block 1
 (.seq (.g
 (.reg false (.op false ⟨(some 12), none, (.ld none (.tmp 2))⟩
  (.op false ⟨(some 13), none, (.ld none (.tmp 3))⟩
  (.op false ⟨(some 14), none, (.call f_pager_Pager_Get [(.tmp 12), (.tmp 13)])⟩
  (.op false ⟨(some 11), none, (.mv (.tmp 14))⟩
  (.op false ⟨(some 15), none, (.ext (.tmp 11) 0)⟩
  (.op false ⟨(some 16), none, (.ext (.tmp 11) 1)⟩
  (.op false ⟨(some 5), none, (.mv (.tmp 15))⟩
  (.op false ⟨(some 6), none, (.mv (.tmp 16))⟩ .done))))))))))
 (.seq (.seq (.g
 (.reg false (.op false ⟨(some 17), none, (.mv (.tmp 6))⟩
  (.op false ⟨(some 18), none, (.bin .neq (.tmp 17) (.const (.int .i64 0)))⟩ .done)))) (.cond (.tmp 18)
 (.seq (.yl (.op false ⟨(some 19), none, (.mv (.tmp 0))⟩
  (.op false ⟨(some 20), none, (.mv (.tmp 6))⟩
  (.op false ⟨(some 21), none, (.un .neg (.tmp 20))⟩ .done))) (some 22) (.tmp 19) [(.tmp 21), (.const (.slice none 0 0))] .done) (.g .ret)) (.g .skip)))
 (.seq (.seq (.yl (.op false ⟨(some 23), none, (.mv (.tmp 0))⟩
  (.op false ⟨(some 24), none, (.ld none (.tmp 3))⟩
  (.op false ⟨(some 25), none, (.mv (.tmp 5))⟩ .done))) (some 26) (.tmp 23) [(.tmp 24), (.tmp 25)] (.op false ⟨(some 27), none, (.un .not (.tmp 26))⟩ .done)) (.g (.cond (.tmp 27) .ret .skip))) (.g
 (.reg true (.op true ⟨(some 28), none, (.mv (.tmp 5))⟩
  (.op true ⟨(some 29), none, (.idx 1 (.tmp 28) (.const (.int .i64 0)))⟩
  (.op true ⟨(some 30), none, (.ld none (.tmp 29))⟩
  (.op true ⟨(some 31), none, (.cvi .i64 (.tmp 30))⟩
  (.op true ⟨(some 32), none, (.bin .shl (.tmp 31) (.const (.int .u64 8)))⟩
  (.op true ⟨(some 33), none, (.mv (.tmp 5))⟩
  (.op true ⟨(some 34), none, (.idx 1 (.tmp 33) (.const (.int .i64 1)))⟩
  (.op true ⟨(some 35), none, (.ld none (.tmp 34))⟩
  (.op true ⟨(some 36), none, (.cvi .i64 (.tmp 35))⟩
  (.op true ⟨(some 37), none, (.bin .or (.tmp 32) (.tmp 36))⟩
  (.bar (.op false ⟨none, none, (.st 1 (.tmp 3) (.tmp 37))⟩ .done)))))))))))))))))) (.g
 (.reg false (.op false ⟨(some 38), none, (.bin .add (.tmp 9) (.const (.int .i64 1)))⟩
  (.op false ⟨(some 9), none, (.mv (.tmp 38))⟩ .done)))))))))))

def g_chain_pages (f_chain_pages_1 : Nat) : GFunX :=
 (.mk 8 [(.tmp 6)] (.g
 (.seq
 (.reg false (.op false ⟨(some 3), none, (.box (.tmp 0))⟩
  (.op false ⟨(some 4), none, (.box (.tmp 1))⟩
  (.op false ⟨(some 5), none, (.box (.tmp 2))⟩
  (.op false ⟨(some 6), none, (.mv (.const .nilFunc))⟩ .done)))))
 (.seq
 (.reg false (.op false ⟨(some 7), none, (.mkf (.func f_chain_pages_1) [] [(.tmp 5), (.tmp 3), (.tmp 4)])⟩
  (.op false ⟨(some 6), none, (.mv (.tmp 7))⟩ .done))) .ret))))

end Go.Gk.Chn
end

section
namespace Go.Gk.Chn
open Go Go.Gk Go.Gk.Dev Go.Gk.Cch Go.Gk.Pgr Go.Gk.Node
attribute [local irreducible] gwp gws xwp
def g_chain_read (f_chain_pages f_chain_Pages : Nat) : GFunX :=
 (.mk 80 [(.cell 6 none), (.cell 7 none), (.cell 8 none)]
 (.seq (.g
 (.reg false (.op false ⟨(some 5), none, (.box (.tmp 2))⟩
  (.op false ⟨(some 6), none, (.alo (.slice none 0 0))⟩
  (.op false ⟨(some 7), none, (.alo (.slice none 0 0))⟩
  (.op false ⟨(some 8), none, (.alo (.int .i64 0))⟩ .done))))))
 (.seq (.g
 (.seq
 (.reg false (.op false ⟨(some 17), none, (.ld none (.tmp 5))⟩
  (.op false ⟨(some 18), none, (.bin .lss (.tmp 17) (.const (.int .i64 0)))⟩
  (.op false ⟨(some 19), none, (.mv (.tmp 18))⟩
  (.op false ⟨(some 20), (some (19, false)), (.ld none (.tmp 5))⟩
  (.op false ⟨(some 21), (some (19, false)), (.bin .gtr (.tmp 20) (.const (.int .i64 16384)))⟩
  (.op false ⟨(some 22), none, (.pick (.tmp 19) (.const (.bool true)) (.tmp 21))⟩ .done))))))) (.cond (.tmp 22)
 (.seq
 (.reg false (.op false ⟨none, none, (.st 1 (.tmp 6) (.const (.slice none 0 0)))⟩
  (.op false ⟨none, none, (.st 1 (.tmp 7) (.const (.slice none 0 0)))⟩
  (.op false ⟨none, none, (.st 1 (.tmp 8) (.const (.int .i64 2)))⟩ .done)))) .ret) .skip)))
 (.seq (.g
 (.reg false (.op false ⟨(some 9), none, (.alo (.slice none 0 0))⟩ .done)))
 (.seq (.g
 (.reg false (.op false ⟨(some 10), none, (.alo (.slice none 0 0))⟩ .done)))
 (.seq (.seq (.g
 (.reg false (.op false ⟨(some 23), none, (.mv (.tmp 0))⟩
  (.op false ⟨(some 24), none, (.mv (.tmp 1))⟩
  (.op false ⟨(some 25), none, (.ld none (.tmp 5))⟩
  (.op false ⟨(some 26), none, (.call f_chain_pages [(.tmp 23), (.tmp 24), (.tmp 25)])⟩ .done)))))) (.block 0 (.rf (.tmp 26) [27, 28]
 (.seq
 (.reg false (.op false ⟨(some 11), none, (.mv (.tmp 27))⟩ .done))
 (.reg false (.op false ⟨(some 12), none, (.mv (.tmp 28))⟩ .done))) (.block 1
 (.seq (.seq
 (.reg false (.op false ⟨(some 29), none, (.mv (.tmp 12))⟩
  (.op false ⟨(some 30), none, (.eqs false (.tmp 29) (.const (.slice none 0 0)))⟩ .done))) (.cond (.tmp 30)
 (.seq
 (.reg false (.op false ⟨(some 31), none, (.mv (.tmp 11))⟩
  (.op false ⟨(some 32), none, (.un .neg (.tmp 31))⟩
  (.op false ⟨none, none, (.st 1 (.tmp 6) (.const (.slice none 0 0)))⟩
  (.op false ⟨none, none, (.st 1 (.tmp 7) (.const (.slice none 0 0)))⟩
  (.op false ⟨none, none, (.st 1 (.tmp 8) (.tmp 32))⟩ .done)))))) .ret) .skip))
 (.seq
 (.reg false (.op false ⟨(some 33), none, (.ld none (.tmp 9))⟩
  (.op false ⟨(some 34), none, (.mv (.tmp 11))⟩
  (.op false ⟨(some 35), none, (.bsl 1 1 [(.int .i64 0)] [(0, (.tmp 34))])⟩
  (.op false ⟨(some 36), none, (.app 1 8 [(.int .i64 0)] (.tmp 33) (.tmp 35))⟩
  (.op false ⟨none, none, (.st 1 (.tmp 9) (.tmp 36))⟩ .done))))))
 (.seq
 (.reg true (.op true ⟨(some 37), none, (.mv (.tmp 12))⟩
  (.op true ⟨(some 38), none, (.idx 1 (.tmp 37) (.const (.int .i64 0)))⟩
  (.op true ⟨(some 39), none, (.ld none (.tmp 38))⟩
  (.op true ⟨(some 40), none, (.cvi .i64 (.tmp 39))⟩
  (.op true ⟨(some 41), none, (.bin .shl (.tmp 40) (.const (.int .u64 8)))⟩
  (.op true ⟨(some 42), none, (.mv (.tmp 12))⟩
  (.op true ⟨(some 43), none, (.idx 1 (.tmp 42) (.const (.int .i64 1)))⟩
  (.op true ⟨(some 44), none, (.ld none (.tmp 43))⟩
  (.op true ⟨(some 45), none, (.cvi .i64 (.tmp 44))⟩
  (.op true ⟨(some 46), none, (.bin .or (.tmp 41) (.tmp 45))⟩
  (.bar (.op true ⟨(some 13), none, (.mv (.tmp 46))⟩ .done)))))))))))))
 (.seq (.seq
 (.reg true (.op true ⟨(some 47), none, (.mv (.tmp 13))⟩
  (.op true ⟨(some 48), none, (.bin .eql (.tmp 47) (.const (.int .i64 65535)))⟩
  (.op true ⟨(some 49), none, (.ld none (.tmp 9))⟩
  (.op true ⟨(some 50), none, (.len (.tmp 49))⟩
  (.op true ⟨(some 51), none, (.ld none (.tmp 5))⟩
  (.op false ⟨(some 52), none, (.call f_chain_Pages [(.tmp 51)])⟩
  (.op true ⟨(some 53), none, (.bin .eql (.tmp 50) (.tmp 52))⟩
  (.op true ⟨(some 54), none, (.eqb true (.tmp 48) (.tmp 53))⟩ .done))))))))) (.cond (.tmp 54)
 (.seq
 (.reg false (.op false ⟨none, none, (.st 1 (.tmp 6) (.const (.slice none 0 0)))⟩
  (.op false ⟨none, none, (.st 1 (.tmp 7) (.const (.slice none 0 0)))⟩
  (.op false ⟨none, none, (.st 1 (.tmp 8) (.const (.int .i64 200)))⟩ .done)))) .ret) .skip))
 (.seq
 (.reg false (.op false ⟨(some 55), none, (.ld none (.tmp 5))⟩
  (.op false ⟨(some 56), none, (.ld none (.tmp 10))⟩
  (.op false ⟨(some 57), none, (.len (.tmp 56))⟩
  (.op false ⟨(some 58), none, (.bin .sub (.tmp 55) (.tmp 57))⟩
  (.op false ⟨(some 59), none, (.mn2 (.const (.int .i64 254)) (.tmp 58))⟩
  (.op false ⟨(some 14), none, (.mv (.tmp 59))⟩ .done)))))))
 (.seq (.seq
 (.reg false (.op false ⟨(some 60), none, (.mv (.tmp 12))⟩
  (.op false ⟨(some 61), none, (.mv (.tmp 14))⟩
  (.op false ⟨(some 62), none, (.bin .add (.const (.int .i64 2)) (.tmp 61))⟩
  (.op false ⟨(some 63), none, (.sl 1 (.tmp 60) (some (.tmp 62)) none none)⟩
  (.op false ⟨(some 64), none, (.len (.tmp 63))⟩
  (.op false ⟨(some 65), none, (.mv (.const (.int .i64 0)))⟩ .done))))))) (.block 2 (.loop
 (.seq
 (.reg false (.op false ⟨(some 66), none, (.bin .lss (.tmp 65) (.tmp 64))⟩ .done))
 (.seq (.cond (.tmp 66) .skip (.exit 2))
 (.seq (.block 3
 (.seq
 (.reg false (.op false ⟨(some 67), none, (.idx 1 (.tmp 63) (.tmp 65))⟩
  (.op false ⟨(some 68), none, (.ld none (.tmp 67))⟩
  (.op false ⟨(some 16), none, (.mv (.tmp 68))⟩ .done))))
 (.seq
 (.reg false (.op false ⟨(some 69), none, (.mv (.tmp 16))⟩
  (.op false ⟨(some 70), none, (.bin .neq (.tmp 69) (.const (.int .u8 0)))⟩ .done))) (.cond (.tmp 70)
 (.seq
 (.reg false (.op false ⟨none, none, (.st 1 (.tmp 6) (.const (.slice none 0 0)))⟩
  (.op false ⟨none, none, (.st 1 (.tmp 7) (.const (.slice none 0 0)))⟩
  (.op false ⟨none, none, (.st 1 (.tmp 8) (.const (.int .i64 200)))⟩ .done)))) .ret) .skip))))
 (.reg false (.op false ⟨(some 71), none, (.bin .add (.tmp 65) (.const (.int .i64 1)))⟩
  (.op false ⟨(some 65), none, (.mv (.tmp 71))⟩ .done)))))))))
 (.reg true (.op true ⟨(some 73), none, (.mv (.tmp 12))⟩
  (.op true ⟨(some 74), none, (.mv (.tmp 14))⟩
  (.op true ⟨(some 75), none, (.bin .add (.const (.int .i64 2)) (.tmp 74))⟩
  (.op true ⟨(some 76), none, (.sl 1 (.tmp 73) (some (.const (.int .i64 2))) (some (.tmp 75)) none)⟩
  (.op false ⟨(some 72), none, (.ld none (.tmp 10))⟩
  (.op false ⟨(some 77), none, (.app 1 1 [(.int .u8 0)] (.tmp 72) (.tmp 76))⟩
  (.bar (.op false ⟨none, none, (.st 1 (.tmp 10) (.tmp 77))⟩ .done))))))))))))))))))) (.g
 (.seq
 (.reg true (.op true ⟨(some 78), none, (.ld none (.tmp 9))⟩
  (.op true ⟨(some 79), none, (.ld none (.tmp 10))⟩
  (.op false ⟨none, none, (.st 1 (.tmp 6) (.tmp 78))⟩
  (.op false ⟨none, none, (.st 1 (.tmp 7) (.tmp 79))⟩
  (.op false ⟨none, none, (.st 1 (.tmp 8) (.const (.int .i64 0)))⟩ .done)))))) .ret))))))))

end Go.Gk.Chn
end

section
namespace Go.Gk.Chn
open Go Go.Gk Go.Gk.Dev Go.Gk.Cch Go.Gk.Pgr Go.Gk.Node
attribute [local irreducible] gwp gws xwp
def g_chain_Get (f_chain_read : Nat) : GFun :=
 ⟨21, [(.tmp 6), (.tmp 7)],
 (.seq
 (.reg false (.op false ⟨(some 6), none, (.mv (.const (.slice none 0 0)))⟩
  (.op false ⟨(some 7), none, (.mv (.const (.int .i64 0)))⟩ .done)))
 (.seq
 (.reg false (.op false ⟨(some 12), none, (.mv (.tmp 0))⟩
  (.op false ⟨(some 13), none, (.mv (.tmp 1))⟩
  (.op false ⟨(some 14), none, (.mv (.tmp 2))⟩
  (.op false ⟨(some 15), none, (.call f_chain_read [(.tmp 12), (.tmp 13), (.tmp 14)])⟩
  (.op false ⟨(some 11), none, (.mv (.tmp 15))⟩
  (.op false ⟨(some 16), none, (.ext (.tmp 11) 0)⟩
  (.op false ⟨(some 17), none, (.ext (.tmp 11) 1)⟩
  (.op false ⟨(some 18), none, (.ext (.tmp 11) 2)⟩
  (.op false ⟨(some 8), none, (.mv (.tmp 16))⟩
  (.op false ⟨(some 9), none, (.mv (.tmp 17))⟩
  (.op false ⟨(some 10), none, (.mv (.tmp 18))⟩ .done))))))))))))
 (.seq
 (.reg false (.op false ⟨(some 19), none, (.mv (.tmp 9))⟩
  (.op false ⟨(some 20), none, (.mv (.tmp 10))⟩
  (.op false ⟨(some 6), none, (.mv (.tmp 19))⟩
  (.op false ⟨(some 7), none, (.mv (.tmp 20))⟩ .done))))) .ret)))⟩

def g_chain_List (f_chain_read : Nat) : GFun :=
 ⟨21, [(.tmp 6), (.tmp 7)],
 (.seq
 (.reg false (.op false ⟨(some 6), none, (.mv (.const (.slice none 0 0)))⟩
  (.op false ⟨(some 7), none, (.mv (.const (.int .i64 0)))⟩ .done)))
 (.seq
 (.reg false (.op false ⟨(some 12), none, (.mv (.tmp 0))⟩
  (.op false ⟨(some 13), none, (.mv (.tmp 1))⟩
  (.op false ⟨(some 14), none, (.mv (.tmp 2))⟩
  (.op false ⟨(some 15), none, (.call f_chain_read [(.tmp 12), (.tmp 13), (.tmp 14)])⟩
  (.op false ⟨(some 11), none, (.mv (.tmp 15))⟩
  (.op false ⟨(some 16), none, (.ext (.tmp 11) 0)⟩
  (.op false ⟨(some 17), none, (.ext (.tmp 11) 1)⟩
  (.op false ⟨(some 18), none, (.ext (.tmp 11) 2)⟩
  (.op false ⟨(some 8), none, (.mv (.tmp 16))⟩
  (.op false ⟨(some 9), none, (.mv (.tmp 17))⟩
  (.op false ⟨(some 10), none, (.mv (.tmp 18))⟩ .done))))))))))))
 (.seq
 (.reg false (.op false ⟨(some 19), none, (.mv (.tmp 8))⟩
  (.op false ⟨(some 20), none, (.mv (.tmp 10))⟩
  (.op false ⟨(some 6), none, (.mv (.tmp 19))⟩
  (.op false ⟨(some 7), none, (.mv (.tmp 20))⟩ .done))))) .ret)))⟩

def g_chain_Drop (f_chain_read f_pager_Pager_Drop : Nat) : GFun :=
 ⟨37, [(.tmp 6)],
 (.seq
 (.reg false (.op false ⟨(some 6), none, (.mv (.const (.int .i64 0)))⟩ .done))
 (.seq
 (.reg false (.op false ⟨(some 14), none, (.mv (.tmp 0))⟩
  (.op false ⟨(some 15), none, (.mv (.tmp 1))⟩
  (.op false ⟨(some 16), none, (.mv (.tmp 2))⟩
  (.op false ⟨(some 17), none, (.call f_chain_read [(.tmp 14), (.tmp 15), (.tmp 16)])⟩
  (.op false ⟨(some 13), none, (.mv (.tmp 17))⟩
  (.op false ⟨(some 18), none, (.ext (.tmp 13) 0)⟩
  (.op false ⟨(some 19), none, (.ext (.tmp 13) 1)⟩
  (.op false ⟨(some 20), none, (.ext (.tmp 13) 2)⟩
  (.op false ⟨(some 7), none, (.mv (.tmp 18))⟩
  (.op false ⟨(some 8), none, (.mv (.tmp 19))⟩
  (.op false ⟨(some 9), none, (.mv (.tmp 20))⟩ .done))))))))))))
 (.seq (.seq
 (.reg false (.op false ⟨(some 21), none, (.mv (.tmp 9))⟩
  (.op false ⟨(some 22), none, (.bin .neq (.tmp 21) (.const (.int .i64 0)))⟩ .done))) (.cond (.tmp 22)
 (.seq
 (.reg false (.op false ⟨(some 23), none, (.mv (.tmp 9))⟩
  (.op false ⟨(some 6), none, (.mv (.tmp 23))⟩ .done))) .ret) .skip))
 (.seq (.seq
 (.reg false (.op false ⟨(some 24), none, (.mv (.tmp 7))⟩
  (.op false ⟨(some 25), none, (.len (.tmp 24))⟩
  (.op false ⟨(some 26), none, (.mv (.const (.int .i64 0)))⟩ .done)))) (.block 0 (.loop
 (.seq
 (.reg false (.op false ⟨(some 27), none, (.bin .lss (.tmp 26) (.tmp 25))⟩ .done))
 (.seq (.cond (.tmp 27) .skip (.exit 0))
 (.seq (.block 1
 (.seq
 (.reg false (.op false ⟨(some 28), none, (.idx 1 (.tmp 24) (.tmp 26))⟩
  (.op false ⟨(some 29), none, (.ld none (.tmp 28))⟩
  (.op false ⟨(some 11), none, (.mv (.tmp 29))⟩ .done))))
 (.seq
 (.reg false (.op false ⟨(some 30), none, (.mv (.tmp 0))⟩
  (.op false ⟨(some 31), none, (.mv (.tmp 11))⟩
  (.op false ⟨(some 32), none, (.call f_pager_Pager_Drop [(.tmp 30), (.tmp 31)])⟩
  (.op false ⟨(some 12), none, (.mv (.tmp 32))⟩ .done)))))
 (.seq
 (.reg false (.op false ⟨(some 33), none, (.mv (.tmp 12))⟩
  (.op false ⟨(some 34), none, (.bin .neq (.tmp 33) (.const (.int .i64 0)))⟩ .done))) (.cond (.tmp 34)
 (.seq
 (.reg false (.op false ⟨(some 35), none, (.mv (.tmp 12))⟩
  (.op false ⟨(some 6), none, (.mv (.tmp 35))⟩ .done))) .ret) .skip)))))
 (.reg false (.op false ⟨(some 36), none, (.bin .add (.tmp 26) (.const (.int .i64 1)))⟩
  (.op false ⟨(some 26), none, (.mv (.tmp 36))⟩ .done)))))))))
 (.seq
 (.reg false (.op false ⟨(some 6), none, (.mv (.const (.int .i64 0)))⟩ .done)) .ret)))))⟩

end Go.Gk.Chn
end
