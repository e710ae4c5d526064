/-
  Our own texts, one behind the other: GkM4 GkT0 GkM5 GkM7 Gk23 GkM1 GkM8 GkM9 GkMA GkMB.
-/
import Derived.Test.YtdhggoahkbnmmaaDoorPkE
section
/-
  Maps that are made, as the program makes them.
-/
namespace Go.Gk.Val
open Go Go.Gk Go.Gk.Utf
attribute [local irreducible] gwp gws

abbrev intE (i : Int) : Value := .int .i64 i
def VMakeOk (T : PHeap → Prop) (P : Program) (f : FuncId) : Prop := ∀ {d : PHeap} {w1 w2 : Value} {ks : List (List UInt8)} {l : List V}, T d → RStrs d w1 ks → RVals d w2 l → ks.length ≤ 1000000 → (∀ x ∈ l, cntV x ≤ 1000000) →
  GCall P f [w1, w2] d [] (Ret fun r d' L' => d' = d ∧ ∃ cs' h, r = .tuple #[.agg cs'.toArray, .int .i64 (makeTop ks l).2] ∧ L' = [h] ∧ OVal cs' (makeTop ks l).1 h)
theorem make_pack {P : Program} {f : FuncId} {v : V} {e : Int} {d : PHeap} {args : List Value} (hk : I64 v.kind ∧ I64 v.m ∧ I64 v.e ∧ v.text.length ≤ 140737488355328) (h : GCall P f args d [] (Ret fun r d' L' => d' = d ∧ ∃ cs', r = .tuple #[.agg cs'.toArray, .int .i64 e] ∧ OParts v cs' L')) :
    GCall P f args d [] (Ret fun r d' L' => d' = d ∧ ∃ cs' h, r = .tuple #[.agg cs'.toArray, .int .i64 e] ∧ L' = [h] ∧ OVal cs' v h) := by
  refine (Ok.disj h).monoV (fun e d' L' _ r => ?_)
  cases e with
  | panicked c => exact r.elim
  | outgrown => exact r.elim
  | returned u =>
    obtain ⟨⟨hdd, cs', hr, lv, kv, hk', hl, ccs, hs, hcs, gk, gl, hsl, el, hL⟩, hp⟩ := r
    subst hL
    obtain ⟨k, m, e, t, l, ks⟩ := v
    obtain ⟨ik, im, ie, it⟩ := hk
    exact ⟨d', _, Vs.pack _, hdd, cs', _, hr, rfl, by rw [hcs]; exact OVal.mk ik im ie it gk gl hsl el (List.pairwise_cons.1 hp).2⟩
theorem make_i64 (ks : List (List UInt8)) (l : List V) : I64 (makeTop ks l).1.kind ∧ I64 (makeTop ks l).1.m ∧ I64 (makeTop ks l).1.e ∧ (makeTop ks l).1.text.length ≤ 140737488355328 := by
  have hz : I64 V.zero.kind ∧ I64 V.zero.m ∧ I64 V.zero.e ∧ V.zero.text.length ≤ 140737488355328 := ⟨⟨by decide, by decide⟩, ⟨by decide, by decide⟩, ⟨by decide, by decide⟩, by decide⟩
  have hv : I64 (makeV ks l).kind ∧ I64 (makeV ks l).m ∧ I64 (makeV ks l).e ∧ (makeV ks l).text.length ≤ 140737488355328 := ⟨i64_6, i64_0, i64_0, by show ([] : List UInt8).length ≤ _; simp⟩
  unfold makeTop
  repeat' split
  · exact hz
  · exact hz
  · exact hz
  · exact hz
  · exact hv
theorem OParts.zero : OParts V.zero zVal [emp, emp] := ⟨_, _, emp, emp, [], [], rfl, GRow.nil, ORow.nil 6, rfl, fun i h => absurd h (Nat.not_lt_zero i), rfl⟩
theorem nodup_of_map {α β : Type} (f : α → β) {l : List α} (h : (l.map f).Nodup) : l.Nodup := (List.pairwise_map.1 h).imp fun hne e => hne (by rw [e])
theorem seen_lt {ms qs : Ms} {p : List UInt8 × Int × Nat} (hn : qs.Nodup) (hs : qs ⊆ ms) (hp : p ∈ ms) (hq : p ∉ qs) : qs.length < ms.length := by
  have h1 : (p :: qs).Nodup := List.nodup_cons.2 ⟨hq, hn⟩
  have h2 : p :: qs ⊆ ms := fun x hx => (List.mem_cons.1 hx).elim (fun e => e ▸ hp) (fun h => hs h)
  have := h1.length_le_of_subset h2
  rw [List.length_cons] at this; exact this
theorem born_inj {ks : List (List UInt8)} {n : Nat} {p q : List UInt8 × Int × Nat} (hp : p ∈ msN ks n) (hq : q ∈ msN ks n) (h : p.2.2 = q.2.2) : p = q := by
  have hb := ms_born ks n
  obtain ⟨i, hi, rfl⟩ := List.getElem_of_mem hp
  obtain ⟨j, hj, rfl⟩ := List.getElem_of_mem hq
  have e1 : ((msN ks n).map (·.2.2))[i]'(by simpa using hi) = i := by simp [hb]
  have e2 : ((msN ks n).map (·.2.2))[j]'(by simpa using hj) = j := by simp [hb]
  rw [List.getElem_map] at e1 e2
  have : i = j := by rw [← e1, ← e2]; exact h
  subst this; rfl
theorem born_nodup (ks : List (List UInt8)) (n : Nat) : ((msN ks n).map (·.2.2)).Nodup := by rw [ms_born]; exact List.nodup_range
section
variable {P : Program} {pan : List PanicEntry → Post} {Qn : Env → Post} {Ls L : List PHeap} {ρ : Env} {d : PHeap} {s : GS} {t : Nat} {tk : Bool}
theorem w_ldo {x : Operand} {b o : Nat} {T : TypeId} {l : List Value} {u : Value} (i : Nat) (e : ev ρ x = .pointer (some ⟨b, o, none⟩)) (hi : (lk tk Ls L)[i]? = some (bx b T l)) (hu : l[o]? = some u) (h : gws P pan Qn s Ls (upd ρ t u) d L) :
    gws P pan Qn (.op tk ⟨some t, none, .ld none x⟩ s) Ls ρ d L := w_ld e (hc_i i hi hu) h
end
theorem row_openS {d : PHeap} {v : Value} {xs : List (List UInt8)} {h : PHeap} (o : GRow 1 RStr d v xs h) {m : Nat} (hm : m < xs.length) :
    ∃ b T l c, v = .slice (some ⟨b, 0, none⟩) xs.length c ∧ h = bx b T l ∧ l[m]? = some (strV xs[m]) := by
  obtain ⟨cs, ho, hr⟩ := o
  obtain ⟨b, T, l, c, h1, h2, _, h4, _⟩ := ho.open1 hm
  have hl := ho.1
  refine ⟨b, T, l, c, h1, h2, h4 _ ?_⟩
  have he := (hr m hm).1
  have hm2 : m < cs.length := by omega
  simp only [chunk, Nat.mul_one] at he
  rw [List.drop_eq_getElem_cons hm2, List.take_succ_cons, List.take_zero] at he
  rw [List.getElem?_eq_getElem hm2, (List.cons.inj he).1]
theorem finZ {ρ : Env} {d : PHeap} {L : List PHeap} {b t u : Nat} {T : TypeId} {e : Int} (i : Nat) (e4 : ρ t = .pointer (some ⟨b, 0, none⟩)) (hi : L[i]? = some (bx b T zVal)) (e5 : ρ u = .int .i64 e) :
    retPost [.cell t (some 6), .tmp u] (Ret fun r _ L' => ∃ cs', r = .tuple #[.agg cs'.toArray, .int .i64 e] ∧ OParts V.zero cs' L') ρ d L :=
  finV (L' := [emp, emp]) [.agg zVal.toArray, .int .i64 e] ⟨res_cell i e4 hi rfl, res_tmp e5, trivial⟩ ((Vs.emp.trans Vs.emp).trans (Vs.drop (((List.nil_sublist L).cons_cons _).cons_cons _))) ⟨zVal, rfl, OParts.zero⟩
def g_value_Make (f_value_every_string f_quote_Right f_value_Right f_slices_Sort_string_string f_value_Copy : Nat) : GFun :=
 ⟨91, [(.cell 4 (some 6)), (.tmp 5)],
 (.seq
 (.reg false (.op false ⟨(some 4), none, (.alo (.agg #[(.int .i64 0), (.int .i64 0), (.int .i64 0), (strV []), (.slice none 0 0), (.slice none 0 0)]))⟩
  (.op false ⟨(some 5), none, (.mv (.const (.int .i64 0)))⟩ .done)))
 (.seq (.block 0
 (.seq
 (.reg false (.op false ⟨(some 16), none, (.mv (.tmp 0))⟩
  (.op false ⟨(some 17), none, (.len (.tmp 16))⟩
  (.op false ⟨(some 18), none, (.mv (.tmp 1))⟩
  (.op false ⟨(some 19), none, (.len (.tmp 18))⟩
  (.op false ⟨(some 20), none, (.bin .neq (.tmp 17) (.tmp 19))⟩
  (.op false ⟨(some 15), none, (.mv (.tmp 20))⟩ .done))))))) (.cond (.tmp 15)
 (.seq
 (.reg false (.op false ⟨(some 21), none, (.bld [(0, 1), (1, 2), (3, 1), (4, 1), (5, 1)] [(.int .i64 0), (.int .i64 0), (.int .i64 0), (strV []), (.slice none 0 0), (.slice none 0 0)] [])⟩
  (.op false ⟨none, none, (.st 6 (.tmp 4) (.tmp 21))⟩
  (.op false ⟨(some 5), none, (.mv (.const (.int .i64 2)))⟩ .done)))) .ret)
 (.seq
 (.reg false (.op false ⟨(some 23), none, (.mv (.tmp 0))⟩
  (.op false ⟨(some 24), none, (.call f_value_every_string [(.tmp 23), (.func f_quote_Right)])⟩
  (.op false ⟨(some 25), none, (.un .not (.tmp 24))⟩
  (.op false ⟨(some 22), none, (.mv (.tmp 25))⟩ .done))))) (.cond (.tmp 22)
 (.seq
 (.reg false (.op false ⟨(some 26), none, (.bld [(0, 1), (1, 2), (3, 1), (4, 1), (5, 1)] [(.int .i64 0), (.int .i64 0), (.int .i64 0), (strV []), (.slice none 0 0), (.slice none 0 0)] [])⟩
  (.op false ⟨none, none, (.st 6 (.tmp 4) (.tmp 26))⟩
  (.op false ⟨(some 5), none, (.mv (.const (.int .i64 30)))⟩ .done)))) .ret) .skip)))))
 (.seq
 (.reg false (.op false ⟨(some 27), none, (.mop .mk)⟩
  (.op false ⟨(some 6), none, (.mv (.tmp 27))⟩ .done)))
 (.seq (.seq
 (.reg false (.op false ⟨(some 28), none, (.mv (.tmp 0))⟩
  (.op false ⟨(some 29), none, (.len (.tmp 28))⟩
  (.op false ⟨(some 30), none, (.mv (.const (.int .i64 0)))⟩ .done)))) (.block 1 (.loop
 (.seq
 (.reg false (.op false ⟨(some 31), none, (.bin .lss (.tmp 30) (.tmp 29))⟩ .done))
 (.seq (.cond (.tmp 31) .skip (.exit 1))
 (.seq (.block 2
 (.seq
 (.reg false (.op false ⟨(some 32), none, (.mv (.tmp 30))⟩
  (.op false ⟨(some 33), none, (.idx 1 (.tmp 28) (.tmp 30))⟩
  (.op false ⟨(some 34), none, (.ld none (.tmp 33))⟩
  (.op false ⟨(some 7), none, (.mv (.tmp 32))⟩
  (.op false ⟨(some 8), none, (.mv (.tmp 34))⟩ .done))))))
 (.seq (.seq
 (.reg false (.op false ⟨(some 35), none, (.mv (.tmp 1))⟩
  (.op false ⟨(some 36), none, (.mv (.tmp 7))⟩
  (.op false ⟨(some 37), none, (.idx 6 (.tmp 35) (.tmp 36))⟩
  (.op false ⟨(some 38), none, (.ld (some 6) (.tmp 37))⟩
  (.op false ⟨(some 39), none, (.call f_value_Right [(.tmp 38)])⟩
  (.op false ⟨(some 9), none, (.mv (.tmp 39))⟩ .done)))))))
 (.seq
 (.reg false (.op false ⟨(some 40), none, (.mv (.tmp 9))⟩
  (.op false ⟨(some 41), none, (.bin .neq (.tmp 40) (.const (.int .i64 0)))⟩ .done))) (.cond (.tmp 41)
 (.seq
 (.reg false (.op false ⟨(some 42), none, (.bld [(0, 1), (1, 2), (3, 1), (4, 1), (5, 1)] [(.int .i64 0), (.int .i64 0), (.int .i64 0), (strV []), (.slice none 0 0), (.slice none 0 0)] [])⟩
  (.op false ⟨(some 43), none, (.mv (.tmp 9))⟩
  (.op false ⟨none, none, (.st 6 (.tmp 4) (.tmp 42))⟩
  (.op false ⟨(some 5), none, (.mv (.tmp 43))⟩ .done))))) .ret) .skip)))
 (.reg false (.op false ⟨(some 44), none, (.mv (.tmp 6))⟩
  (.op false ⟨(some 45), none, (.mv (.tmp 8))⟩
  (.op false ⟨(some 46), none, (.mv (.tmp 7))⟩
  (.op false ⟨none, none, (.mop (.up 1 (.tmp 44) (.tmp 45) (.tmp 46)))⟩ .done))))))))
 (.reg false (.op false ⟨(some 47), none, (.bin .add (.tmp 30) (.const (.int .i64 1)))⟩
  (.op false ⟨(some 30), none, (.mv (.tmp 47))⟩ .done)))))))))
 (.seq
 (.reg false (.op false ⟨(some 48), none, (.bld [(0, 1), (1, 2), (3, 1), (4, 1), (5, 1)] [(.int .i64 0), (.int .i64 0), (.int .i64 0), (strV []), (.slice none 0 0), (.slice none 0 0)] [(0, (.const (.int .i64 6)))])⟩
  (.op false ⟨(some 10), none, (.alo (.agg #[(.int .i64 0), (.int .i64 0), (.int .i64 0), (strV []), (.slice none 0 0), (.slice none 0 0)]))⟩
  (.op false ⟨none, none, (.st 6 (.tmp 10) (.tmp 48))⟩ .done))))
 (.seq (.seq
 (.reg false (.op false ⟨(some 49), none, (.mv (.tmp 6))⟩
  (.op false ⟨(some 50), none, (.mop (.rng (.tmp 49)))⟩ .done))) (.block 3 (.loop
 (.seq
 (.reg false (.op false ⟨(some 51), none, (.mop (.nxt (.tmp 50)))⟩
  (.op false ⟨(some 52), none, (.ext (.tmp 51) 0)⟩ .done)))
 (.seq (.cond (.tmp 52) .skip (.exit 3)) (.block 4
 (.seq
 (.reg false (.op false ⟨(some 53), none, (.mop (.ent (.tmp 50)))⟩
  (.op false ⟨(some 54), none, (.ext (.tmp 53) 0)⟩
  (.op false ⟨(some 11), none, (.mv (.tmp 54))⟩ .done))))
 (.reg false (.op false ⟨(some 55), none, (.fld 5 (.tmp 10))⟩
  (.op false ⟨(some 56), none, (.ld none (.tmp 55))⟩
  (.op false ⟨(some 57), none, (.mv (.tmp 11))⟩
  (.op false ⟨(some 58), none, (.bsl 1 1 [(strV [])] [(0, (.tmp 57))])⟩
  (.op false ⟨(some 59), none, (.app 1 16 [(strV [])] (.tmp 56) (.tmp 58))⟩
  (.op false ⟨(some 60), none, (.fld 5 (.tmp 10))⟩
  (.op false ⟨none, none, (.st 1 (.tmp 60) (.tmp 59))⟩ .done)))))))))))))))
 (.seq
 (.reg false (.op false ⟨(some 61), none, (.fld 5 (.tmp 10))⟩
  (.op false ⟨(some 62), none, (.ld none (.tmp 61))⟩
  (.op false ⟨(some 63), none, (.call f_slices_Sort_string_string [(.tmp 62)])⟩ .done))))
 (.seq (.seq
 (.reg false (.op false ⟨(some 64), none, (.fld 5 (.tmp 10))⟩
  (.op false ⟨(some 65), none, (.ld none (.tmp 64))⟩
  (.op false ⟨(some 66), none, (.len (.tmp 65))⟩
  (.op false ⟨(some 67), none, (.mv (.const (.int .i64 0)))⟩ .done))))) (.block 5 (.loop
 (.seq
 (.reg false (.op false ⟨(some 68), none, (.bin .lss (.tmp 67) (.tmp 66))⟩ .done))
 (.seq (.cond (.tmp 68) .skip (.exit 5))
 (.seq (.block 6
 (.seq
 (.reg false (.op false ⟨(some 69), none, (.idx 1 (.tmp 65) (.tmp 67))⟩
  (.op false ⟨(some 70), none, (.ld none (.tmp 69))⟩
  (.op false ⟨(some 13), none, (.mv (.tmp 70))⟩ .done))))
 (.reg true (.op true ⟨(some 71), none, (.fld 4 (.tmp 10))⟩
  (.op true ⟨(some 72), none, (.ld none (.tmp 71))⟩
  (.op true ⟨(some 73), none, (.mv (.tmp 1))⟩
  (.op true ⟨(some 74), none, (.mv (.tmp 6))⟩
  (.op true ⟨(some 75), none, (.mv (.tmp 13))⟩
  (.op false ⟨(some 76), none, (.mop (.lk 1 (.int .i64 0) false (.tmp 74) (.tmp 75)))⟩
  (.op true ⟨(some 77), none, (.idx 6 (.tmp 73) (.tmp 76))⟩
  (.op true ⟨(some 78), none, (.ld (some 6) (.tmp 77))⟩
  (.op false ⟨(some 79), none, (.call f_value_Copy [(.tmp 78)])⟩
  (.op false ⟨(some 80), none, (.bsl 1 6 [(.int .i64 0), (.int .i64 0), (.int .i64 0), (strV []), (.slice none 0 0), (.slice none 0 0)] [(0, (.tmp 79))])⟩
  (.op false ⟨(some 81), none, (.app 6 88 [(.int .i64 0), (.int .i64 0), (.int .i64 0), (strV []), (.slice none 0 0), (.slice none 0 0)] (.tmp 72) (.tmp 80))⟩
  (.op true ⟨(some 82), none, (.fld 4 (.tmp 10))⟩
  (.bar (.op false ⟨none, none, (.st 1 (.tmp 82) (.tmp 81))⟩ .done)))))))))))))))))
 (.reg false (.op false ⟨(some 83), none, (.bin .add (.tmp 67) (.const (.int .i64 1)))⟩
  (.op false ⟨(some 67), none, (.mv (.tmp 83))⟩ .done)))))))))
 (.seq (.seq
 (.reg false (.op false ⟨(some 84), none, (.ld (some 6) (.tmp 10))⟩
  (.op false ⟨(some 85), none, (.call f_value_Right [(.tmp 84)])⟩
  (.op false ⟨(some 14), none, (.mv (.tmp 85))⟩ .done))))
 (.seq
 (.reg false (.op false ⟨(some 86), none, (.mv (.tmp 14))⟩
  (.op false ⟨(some 87), none, (.bin .neq (.tmp 86) (.const (.int .i64 0)))⟩ .done))) (.cond (.tmp 87)
 (.seq
 (.reg false (.op false ⟨(some 88), none, (.bld [(0, 1), (1, 2), (3, 1), (4, 1), (5, 1)] [(.int .i64 0), (.int .i64 0), (.int .i64 0), (strV []), (.slice none 0 0), (.slice none 0 0)] [])⟩
  (.op false ⟨(some 89), none, (.mv (.tmp 14))⟩
  (.op false ⟨none, none, (.st 6 (.tmp 4) (.tmp 88))⟩
  (.op false ⟨(some 5), none, (.mv (.tmp 89))⟩ .done))))) .ret) .skip)))
 (.seq
 (.reg false (.op false ⟨(some 90), none, (.ld (some 6) (.tmp 10))⟩
  (.op false ⟨none, none, (.st 6 (.tmp 4) (.tmp 90))⟩
  (.op false ⟨(some 5), none, (.mv (.const (.int .i64 0)))⟩ .done)))) .ret))))))))))⟩

set_option maxHeartbeats 4000000 in
theorem vmake_ok {T : PHeap → Prop} (hTm : ∀ {d d' : PHeap}, T d → Le d d' → T d') {P : Program} {f f1 f2 f3 f4 f5 : FuncId} (hd : decp P f = some (g_value_Make f1 f2 f3 f4 f5)) (h1 : EveryStrOk P f1) (h2 : QuoteOk T P f2) (h3 : RightOk T P f3) (h4 : SortStrOk P f4) (h5 : VCopyOk P f5) : VMakeOk T P f := by
  intro d w1 w2 ks l ht hks hl hb hcnt
  refine make_pack (make_i64 ks l) ?_
  refine GCall.forget (Q := fun r L' => ∃ cs', r = .tuple #[.agg cs'.toArray, .int .i64 (makeTop ks l).2] ∧ OParts (makeTop ks l).1 cs' L') ?_
  refine GCall_of hd (Nat.le_of_ble_eq_true rfl) ?_
  obtain ⟨ka, kc, rfl⟩ := RSl.val hks
  obtain ⟨la, lc, rfl⟩ := RSl.val hl
  have hks0 : RSl 1 RStr d (.slice ka ks.length kc) ks := hks
  have hl0 : RSl 6 RVal d (.slice la l.length lc) l := hl
  have hkl : ∀ k ∈ ks, k.length ≤ 140737488355328 := fun k hk => by
    obtain ⟨i, hi, rfl⟩ := List.getElem_of_mem hk
    obtain ⟨_, _, _, _, _, _, _, _, _, _, _, hg⟩ := hks0
    obtain ⟨_, _, _, _, hkl⟩ := hg i hi
    exact hkl
  show gwp P _ _ _ _ _
  by_cases hlen : ks.length ≠ l.length
  · have hk0 : (ks.length : Int) ≠ l.length := by omega
    rw [makeTop, if_pos hlen]
    (apply w_sq; apply w_reg; apply w_alo; intro _ _; apply w_mvi; rfl; apply w_done0; apply w_sq; apply w_block; apply w_sq; apply w_reg; apply w_mvs; rfl; apply w_len; rfl; apply w_mvs; rfl; apply w_len; rfl; apply w_neq; rfl; rfl; apply w_mvb; rfl; apply w_done0; refine w_ifdT rfl (by omega) ?_; apply w_sq; apply w_reg; apply w_bvZ)
    rename_i b4 T4
    refine w_stE 0 zVal rfl rfl rfl rfl (Nat.le_of_ble_eq_true rfl) rfl rfl ?_
    (apply w_mvi; rfl; apply w_done0; apply w_ret)
    exact finZ 0 rfl rfl rfl
  have hlen : ks.length = l.length := by omega
  have hk0 : (ks.length : Int) = l.length := by omega
  rw [makeTop, if_neg (by omega)]
  (apply w_sq; apply w_reg; apply w_alo; intro _ _; apply w_mvi; rfl; apply w_done0; apply w_sq; apply w_block; apply w_sq; apply w_reg; apply w_mvs; rfl; apply w_len; rfl; apply w_mvs; rfl; apply w_len; rfl; apply w_neq; rfl; rfl; apply w_mvb; rfl; apply w_done0; refine w_ifdF rfl (by omega) ?_; apply w_sq; apply w_reg; apply w_mvs; rfl)
  rename_i b4 T4
  refine w_pure rfl (h1 hks (p := u8) (fun k hk => h2 ht (hkl k hk))) ?_
  cases hall : ks.all u8 with
  | false =>
    rw [if_pos rfl]
    (apply w_not; rfl; apply w_mvb; rfl; apply w_done0; apply w_ifT; rfl; apply w_sq; apply w_reg; apply w_bvZ)
    refine w_stE 0 zVal rfl rfl rfl rfl (Nat.le_of_ble_eq_true rfl) rfl rfl ?_
    (apply w_mvi; rfl; apply w_done0; apply w_ret)
    exact finZ 0 rfl rfl rfl
  | true =>
  have hu : ∀ k ∈ ks, u8 k = true := List.all_eq_true.1 hall
  rw [if_neg (by simp)]
  (apply w_not; rfl; apply w_mvb; rfl; apply w_done0; apply w_ifF; rfl; apply w_skip; apply w_sq; apply w_reg)
  refine w_mmk strV intE (fun b6 => ?_)
  (apply w_mv; apply w_done0; apply w_sq; apply w_sq; apply w_reg; apply w_mvs; rfl; apply w_len; rfl; apply w_mvi; rfl; apply w_done0; apply w_block)
  refine w_loopN (α := Nat) (fun i => [(0, .slice ka ks.length kc), (1, .slice la l.length lc), (4, .pointer (some ⟨b4, 0, none⟩)), (6, .map (some b6)), (28, .slice ka ks.length kc), (29, .int .i64 ks.length), (30, .int .i64 i)])
    (fun i => [mp strV intE b6 (msN ks i) (msN ks i).length, bx b4 T4 zVal])
    (fun i => i ≤ ks.length ∧ ∀ j (h1 : j < i) (h2 : j < l.length), rightV l[j] = 0) (fun i => ks.length - i) 0 ⟨rfl, rfl, rfl, rfl, rfl, rfl, rfl, trivial⟩ rfl ⟨Nat.zero_le _, fun j h => absurd h (Nat.not_lt_zero j)⟩ ?_
  rintro i ρ ⟨hi, hrt⟩
  by_cases hc : i < ks.length
  · have hcl : i < l.length := by omega
    (apply w_sq; apply w_reg; apply w_lss; rfl; rfl; apply w_done0; apply w_sq; refine w_ifdT rfl (by omega) ?_; apply w_skip; apply w_sq; apply w_block; apply w_sq; apply w_reg; apply w_mvi; rfl; refine w_idxR (sz := 1) (R := RStr) (by rfl) (by assumption) (by rfl) rfl (by omega) ?_; rintro _ _ _ _ _ ⟨rfl, _⟩; apply w_ld; rfl; exact hc_ds0 (by assumption) rfl; apply w_mvi; rfl; apply w_mvt; rfl; apply w_done0; apply w_sq; apply w_sq; apply w_reg; apply w_mvs; rfl; apply w_mvi; rfl; refine w_idxR (sz := 6) (R := RVal) (by rfl) (by assumption) (by rfl) rfl (by omega) ?_; rintro _ _ _ _ _ _; apply w_ldd; rfl; assumption; assumption)
    rename_i hcs hD hR
    refine w_pure rfl (h3 ht hR) ?_
    by_cases hr0 : rightV l[i] ≠ 0
    · have hfw := first_at hcl (fun j hj => hrt j hj (by omega)) hr0
      rw [if_pos (by rw [hfw]; exact hr0), hfw]
      (apply w_mvi; rfl; apply w_done0; apply w_sq; apply w_reg; apply w_mvi; rfl; apply w_neq; rfl; rfl; apply w_done0; refine w_ifdT rfl (by omega) ?_; apply w_sq; apply w_reg; apply w_bvZ; apply w_mvi; rfl)
      refine w_stE 1 zVal rfl rfl rfl rfl (Nat.le_of_ble_eq_true rfl) rfl rfl ?_
      (apply w_mvi; rfl; apply w_done0; apply w_ret)
      exact finZ 1 rfl rfl rfl
    have hr0 : rightV l[i] = 0 := by omega
    rw [hr0]
    have hms : mPut ks[i] (i : Int) (msN ks i).length (msN ks i) = msN ks (i + 1) := by rw [msN]; simp [List.getD, hc]
    (apply w_mvi; rfl; apply w_done0; apply w_sq; apply w_reg; apply w_mvi; rfl; apply w_neq; rfl; rfl; apply w_done0; refine w_ifdF rfl (by omega) ?_; apply w_skip; apply w_reg; apply w_mv; apply w_mvt; rfl; apply w_mvi; rfl)
    refine w_mup (vE := intE) (v := (i : Int)) keyStr 0 rfl rfl rfl rfl ?_
    rw [clk_put _ (i : Int), hms]
    (apply w_done0; apply w_reg; apply w_add; rfl; rfl; omega; omega; apply w_mvi; rfl; apply w_done0)
    exact ⟨i + 1, by omega, ⟨rfl, rfl, rfl, rfl, rfl, rfl, int_eq (by omega), trivial⟩, rfl, rfl, hc, fun j h1 h2 => if e : j = i then (by subst e; exact hr0) else hrt j (by omega) h2⟩
  obtain rfl : i = ks.length := by omega
  have hrt' : ∀ x ∈ l, rightV x = 0 := fun x hx => by
    obtain ⟨j, hj, rfl⟩ := List.getElem_of_mem hx
    exact hrt j (by omega) hj
  rw [if_neg (by rw [first_zero.2 hrt']; simp)]
  have hmr := make_right hu hlen hrt'
  have hmd := make_depth hu hlen hrt'
  have hlt := ms_lt (ks := ks) (n := ks.length)
  have hbn := born_nodup ks ks.length
  have hbi := @born_inj ks ks.length
  have hgb := @ms_get ks ks.length
  have hmk : ∀ k, k ∈ mKeys (msN ks ks.length) → k ∈ ks := fun k hk => by have := (ms_mem ks k _ (Nat.le_refl _)).1 hk; rwa [List.take_length] at this
  have hsort := fun p => make_sort (ks := ks) (l := l) hu (p := p)
  have hmap := make_map (l := l) hu ks.length (Nat.le_refl _)
  have hget := fun k => last_get ks k ks.length
  have hlst : ∀ k n, n = ks.length → lastI ks k n < ks.length := fun k n e => by subst e; exact last_lt ks k _
  (apply w_sq; apply w_reg; apply w_lss; rfl; rfl; apply w_done0; apply w_sq; refine w_ifdF rfl (by omega) ?_; apply w_exit; apply w_sq; apply w_reg; apply w_bvK; rfl; apply w_alo; intro _ _)
  rename_i b10 T10
  refine w_stE 0 [.int .i64 6, .int .i64 0, .int .i64 0, strV [], .slice none 0 0, .slice none 0 0] rfl rfl rfl rfl (Nat.le_of_ble_eq_true rfl) rfl rfl ?_
  (apply w_done0; apply w_sq; apply w_sq; apply w_reg; apply w_mv)
  refine w_rng strV intE 1 rfl rfl (fun q => ?_)
  generalize hmsd : msN ks ks.length = ms at *
  refine w_doneE ⟨d, [mit q b6 ms.length [], bx b10 T10 [.int .i64 6, .int .i64 0, .int .i64 0, strV [], .slice none 0 0, .slice none 0 0], mp strV intE b6 ms ms.length, bx b4 T4 zVal, emp], Vs.emp.trans (Vs.pick [1, 2, 3, 4, 0] rfl), ?_⟩
  (apply w_block)
  refine w_loopS (α := Ms) (fun qs => [(1, .slice la l.length lc), (4, .pointer (some ⟨b4, 0, none⟩)), (6, .map (some b6)), (10, .pointer (some ⟨b10, 0, none⟩)), (50, .pointer (some ⟨q, 0, none⟩))])
    (fun qs d' L' => d' = d ∧ qs.Nodup ∧ qs ⊆ ms ∧ ∃ qa qc h, GRow 1 RStr emp (.slice qa (mKeys qs).length qc) (mKeys qs) h ∧
      L' = [mit q b6 ms.length (qs.map (·.2.2)), bx b10 T10 [.int .i64 6, .int .i64 0, .int .i64 0, strV [], .slice none 0 0, .slice qa (mKeys qs).length qc], mp strV intE b6 ms ms.length, bx b4 T4 zVal, h])
    (fun qs => ms.length - qs.length) [] ⟨rfl, rfl, rfl, rfl, rfl, trivial⟩ ⟨rfl, List.nodup_nil, List.nil_subset _, none, 0, emp, GRow.nil, rfl⟩ ?_
  rintro qs ρ d' L' ⟨hdd, hn, hsub, qa, qc, h, hrow, hL⟩
  subst hdd; subst hL
  have hqn : (mKeys qs).length = qs.length := mKeys_len qs
  have hml : ms.length ≤ 1000000 := by
    have h1 := (make_len ks l ks.length).2
    have h2 := (List.perm_ext_iff_of_nodup (by rw [← hmsd]; exact ms_nodup ks _) (rise_nodup (rising_iff.1 hmap.1).2)).2 (fun k => (hmap.2.1 k).symm)
    have h3 := h2.length_eq
    rw [mKeys_len] at h3
    omega
  (apply w_sq; apply w_reg)
  refine w_nxt strV intE 0 rfl 2 rfl rfl hlt (fun h0 e => h0 (by subst e; rw [List.eq_nil_of_subset_nil hsub]; rfl)) (fun p hp hq => ?_) (fun hall2 => ?_)
  · have hpq : p ∉ qs := fun e => hq (List.mem_map_of_mem e)
    have hql := seen_lt hn hsub hp hpq
    have hpl : p.1.length ≤ 140737488355328 := hkl _ (hmk _ (List.mem_map_of_mem hp))
    (apply w_ext; rfl; rfl; apply w_done0; apply w_sq; apply w_ifT; rfl; apply w_skip; apply w_block; apply w_sq; apply w_reg)
    refine w_ent strV intE 0 rfl 2 rfl rfl hp hbn ?_
    (apply w_ext; rfl; rfl; apply w_mvt; rfl; apply w_done0; apply w_reg; apply w_fld; rfl; apply w_ld; rfl; exact hc_i 1 rfl rfl; apply w_mvt; rfl)
    refine w_bs1 (v0 := strV p.1) rfl rfl (fun b58 T58 => ?_)
    refine w_appL (R := RStr) 4 rfl rfl hrow rfl (GRow.lit1 (R := RStr) rfl ⟨rfl, hpl⟩) cell1_str (by omega) (by simp; omega) (by simp; omega) (fun v59 h59 o59 => ?_)
    obtain ⟨qa2, qc2, rfl⟩ := o59.val
    (apply w_fld; rfl)
    refine w_stE 1 [.int .i64 6, .int .i64 0, .int .i64 0, strV [], .slice none 0 0, .slice qa2 (mKeys qs ++ [p.1]).length qc2] rfl rfl rfl rfl (Nat.le_of_ble_eq_true rfl) rfl rfl ?_
    (apply w_done0)
    have e1 : mKeys (qs ++ [p]) = mKeys qs ++ [p.1] := by simp [mKeys]
    have e2 : (qs ++ [p]).map (·.2.2) = qs.map (·.2.2) ++ [p.2.2] := by simp
    refine ⟨qs ++ [p], by simp; omega, ⟨rfl, rfl, rfl, rfl, rfl, trivial⟩, rfl, ?_, ?_, qa2, qc2, h59, by rw [e1]; exact o59, by rw [e1, e2]; rfl⟩
    · rw [List.nodup_append]
      exact ⟨hn, by simp, fun a ha b hb => by simp at hb; subst hb; intro e; subst e; exact hpq ha⟩
    · intro x hx
      rcases List.mem_append.1 hx with hx | hx
      · exact hsub hx
      · rw [List.mem_singleton.1 hx]; exact hp
  have hperm : (mKeys qs).Perm (mKeys ms) := by
    refine ((List.perm_ext_iff_of_nodup hn (nodup_of_map _ hbn)).2 fun p => ⟨fun h => hsub h, fun hp => ?_⟩).map _
    obtain ⟨p2, h1, h2⟩ := List.mem_map.1 (hall2 p hp)
    rw [← hbi (hsub h1) hp h2]; exact h1
  clear hall2 hlt
  generalize (qs.map fun x => x.2.2) = seen
  (apply w_ext; rfl; rfl; apply w_done0; apply w_sq; apply w_ifF; rfl; apply w_exit; apply w_sq; apply w_reg; apply w_fld; rfl; apply w_ld; rfl; exact hc_i 1 rfl rfl)
  refine w_vs d' [h, mit q b6 ms.length seen, bx b10 T10 [.int .i64 6, .int .i64 0, .int .i64 0, strV [], .slice none 0 0, .slice qa (mKeys qs).length qc], mp strV intE b6 ms ms.length, bx b4 T4 zVal] (Vs.pick [4, 0, 1, 2, 3] rfl) ?_
  refine w_callA (A := [h]) (B := [mit q b6 ms.length seen, bx b10 T10 [.int .i64 6, .int .i64 0, .int .i64 0, strV [], .slice none 0 0, .slice qa (mKeys qs).length qc], mp strV intE b6 ms ms.length, bx b4 T4 zVal]) rfl rfl (h4 hrow) (fun r d6 L6 _ ⟨hdd, hr, h', hL, hrow'⟩ => ?_)
  subst hdd; subst hL; subst hr
  have hKl : (mKeys qs).length = (makeL ks l ks.length).1.length := by rw [← hsort _ hperm]; exact (List.mergeSort_perm _ _).length_eq.symm
  rw [hsort _ hperm, hKl] at hrow'
  rw [hKl]
  have hln := (make_len ks l ks.length).1
  have hln3 := (make_len ks l ks.length).2
  have hmv : makeV ks l = .mk 6 0 0 [] (makeL ks l ks.length).2 (makeL ks l ks.length).1 := rfl
  rw [hmv] at hmr hmd ⊢
  generalize makeL ks l ks.length = o at *
  obtain ⟨oks, ol⟩ := o
  simp only at hrow' hln hln3 hmr hmd hmap ⊢
  obtain ⟨hm1, hm2, hm3⟩ := hmap
  refine w_doneE ⟨d6, [bx b10 T10 [.int .i64 6, .int .i64 0, .int .i64 0, strV [], .slice none 0 0, .slice qa oks.length qc], mp strV intE b6 ms ms.length, bx b4 T4 zVal, h', emp], Vs.emp.trans ((Vs.pick [3, 4, 5, 1, 0, 2] rfl).trans (Vs.drop (List.sublist_append_left [bx b10 T10 [.int .i64 6, .int .i64 0, .int .i64 0, strV [], .slice none 0 0, .slice qa oks.length qc], mp strV intE b6 ms ms.length, bx b4 T4 zVal, h', emp] [mit q b6 ms.length seen]))), ?_⟩
  have hdn := hrow'.len_le
  (apply w_sq; apply w_sq; apply w_reg; apply w_fld; rfl; apply w_ld; rfl; exact hc_i 0 rfl rfl; apply w_len; rfl; apply w_mvi; rfl; apply w_done0; apply w_block)
  refine w_loopS (α := Nat) (fun i => [(1, .slice la l.length lc), (4, .pointer (some ⟨b4, 0, none⟩)), (6, .map (some b6)), (10, .pointer (some ⟨b10, 0, none⟩)), (65, .slice qa oks.length qc), (66, .int .i64 oks.length), (67, .int .i64 i)])
    (fun i d3 L' => d3 = d6 ∧ i ≤ ol.length ∧ ∃ ra rc hl ccs hs, ORow 6 (.slice ra i rc) i ccs hl ∧ hs.length = i ∧ (∀ j (hj : j < ol.length), j < i → OVal (chunk ccs j 6) ol[j] (hs.getD j emp)) ∧
      L' = bx b10 T10 [.int .i64 6, .int .i64 0, .int .i64 0, strV [], .slice ra i rc, .slice qa oks.length qc] :: mp strV intE b6 ms ms.length :: bx b4 T4 zVal :: h' :: hl :: hs)
    (fun i => ol.length - i) 0 ⟨rfl, rfl, rfl, rfl, rfl, rfl, rfl, trivial⟩ ⟨rfl, Nat.zero_le _, none, 0, emp, [], [], ORow.nil 6, rfl, fun j _ h => absurd h (Nat.not_lt_zero j), rfl⟩ ?_
  rintro i ρ d3 L' ⟨hdd, hi, ra, rc, hrw, ccs, hs, horow, hhs, hel, hL⟩
  subst hdd; subst hL
  by_cases hc : i < ol.length
  · have hco : i < oks.length := by omega
    obtain ⟨z, hz⟩ := Option.isSome_iff_exists.1 ((get_some oks[i] ms).2 ((hm2 _).1 (List.getElem_mem hco)))
    obtain ⟨hz0, hz1⟩ := hgb hz
    obtain ⟨n, rfl⟩ : ∃ n : Nat, z = n := ⟨z.toNat, by omega⟩
    have hnl : n < l.length := by omega
    have hln2 : l[n] = ol[i] := by
      simp only [hm3, List.getElem_map, plK, hz, Option.getD_some, Int.toNat_natCast]
      simp [List.getD, hnl]
    have hoi : (oks.length : Int) = ol.length := by omega
    obtain ⟨b5, T5, l5, c5, e5, rfl, hu5⟩ := row_openS hrow' hco
    cases e5
    (apply w_sq; apply w_reg; apply w_lss; rfl; rfl; apply w_done0; apply w_sq; refine w_ifdT rfl (by omega) ?_; apply w_skip; apply w_sq; apply w_block; apply w_sq; apply w_reg)
    refine w_idx1 i rfl rfl rfl hco ?_
    refine w_ldo 3 rfl rfl hu5 ?_
    (apply w_mvt; rfl; apply w_done0)
    refine w_drawnA [bx b10 T10 [.int .i64 6, .int .i64 0, .int .i64 0, strV [], .slice ra i rc, .slice (some ⟨b5, 0, none⟩) oks.length qc], mp strV intE b6 ms ms.length, bx b4 T4 zVal, bx b5 T5 l5] (hrw :: hs) rfl ?_
    (apply w_fld; rfl; apply w_ld; rfl; exact hc_i 0 rfl rfl; apply w_mvs; rfl; apply w_mv; apply w_mvt; rfl)
    refine w_mlk (vE := intE) keyStr 1 rfl rfl rfl hz ?_
    (refine w_idxR (sz := 6) (R := RVal) (by rfl) (by assumption) (by rfl) rfl (by omega) ?_; rintro _ _ _ _ _ _; apply w_ldd; rfl; assumption; assumption)
    rename_i csx hcsx hDx hRx
    refine w_call0 rfl (h5 _ hRx (by have := hcnt _ (List.getElem_mem hnl); omega)) (fun r d4 L4 _ ⟨hdd, cs', g, hr, hL, ho⟩ => ?_)
    subst hdd; subst hr; subst hL
    obtain ⟨hc6, hc1'⟩ := ho.cells
    refine w_bsV rfl hc6 (fun b27 T27 => ?_)
    refine w_appLO 1 rfl rfl horow rfl (by rw [hc6]) hc1' (by omega) (by omega) (by omega) (fun v5 h5' o5 => ?_)
    obtain ⟨a5, _, c5', rfl, _⟩ := o5.slice
    (apply w_fld; rfl; apply w_bar)
    refine w_vs _ (bx b10 T10 [.int .i64 6, .int .i64 0, .int .i64 0, strV [], .slice ra i rc, .slice (some ⟨b5, 0, none⟩) oks.length qc] :: mp strV intE b6 ms ms.length :: bx b4 T4 zVal :: bx b5 T5 l5 :: h5' :: (hs ++ [g]))
      (Vs.perm (List.Perm.append_left [bx b10 T10 [.int .i64 6, .int .i64 0, .int .i64 0, strV [], .slice ra i rc, .slice (some ⟨b5, 0, none⟩) oks.length qc], mp strV intE b6 ms ms.length, bx b4 T4 zVal, bx b5 T5 l5] ((List.Perm.swap _ _ _).trans ((List.perm_append_singleton g hs).symm.cons _)))) ?_
    refine w_stE 0 [.int .i64 6, .int .i64 0, .int .i64 0, strV [], .slice a5 (i + 1) c5', .slice (some ⟨b5, 0, none⟩) oks.length qc] rfl rfl rfl rfl (Nat.le_of_ble_eq_true rfl) rfl rfl ?_
    (apply w_done0; apply w_reg; apply w_add; rfl; rfl; omega; omega; apply w_mvi; rfl; apply w_done0)
    rw [hln2] at ho
    refine ⟨i + 1, by omega, ⟨rfl, rfl, rfl, rfl, rfl, rfl, int_eq (by omega), trivial⟩, rfl, hc, a5, c5', h5', _, hs ++ [g], o5, by simp [hhs], fun j hj hji => ?_, rfl⟩
    have h6 : ccs.length = i * 6 := horow.1
    by_cases e : j < i
    · rw [chunk_app_left h6 e, show (hs ++ [g]).getD j emp = hs.getD j emp by simp [List.getD, List.getElem?_append_left (show j < hs.length by omega)]]
      exact hel j hj e
    · obtain rfl : j = i := by omega
      rw [chunk_app_right h6 (Nat.le_refl _), Nat.sub_self, show chunk cs' 0 6 = cs' by simp only [chunk, Nat.zero_mul, List.drop_zero]; exact List.take_of_length_le (by omega), show (hs ++ [g]).getD j emp = g by simp [List.getD, hhs]]
      exact ho
  obtain rfl : i = ol.length := by omega
  have hoi : (oks.length : Int) = ol.length := by omega
  have hrv : ∀ d9 : PHeap, Le h' d9 → Le hrw d9 → (∀ g ∈ hs, Le g d9) → RVal d9 [.int .i64 6, .int .i64 0, .int .i64 0, strV [], .slice ra ol.length rc, .slice qa oks.length qc] (.mk 6 0 0 [] ol oks) := fun d9 k1 k2 k3 =>
    RVal.close (v := .mk 6 0 0 [] ol oks) i64_6 i64_0 i64_0 (by simp)
      (horow.rsl (R := RVal) k2 rfl (by omega) (fun j hj => OVal.rval (hel j hj hj) (k3 _ (by
        have e : hs.getD j emp = hs[j]'(by rw [hhs]; exact hj) := by simp [List.getD, show j < hs.length by rw [hhs]; exact hj]
        rw [e]; exact List.getElem_mem _))))
      (GRow.rsl (R := RStr) hrow' mono_str (by omega) (d' := d9) (fun _ _ e => e.elim) k1)
  (apply w_sq; apply w_reg; apply w_lss; rfl; rfl; apply w_done0; apply w_sq; refine w_ifdF rfl (by omega) ?_; apply w_exit; apply w_sq; apply w_sq; apply w_reg; apply w_ldb 0; rfl; rfl; rfl)
  refine w_pureB rfl (fun d9 hl9 hk9 => h3 (hTm ht hl9) (hrv d9 (hk9 _ (by simp)) (hk9 _ (by simp)) (fun g hg => hk9 _ (by simp [hg])))) ?_
  rw [hmr]
  by_cases hdp : 48 < depthV (.mk 6 0 0 [] ol oks)
  · rw [if_pos hdp, if_pos hdp]
    (apply w_mvi; rfl; apply w_done0; apply w_sq; apply w_reg; apply w_mvi; rfl; apply w_neq; rfl; rfl; apply w_done0; refine w_ifdT rfl (by omega) ?_; apply w_sq; apply w_reg; apply w_bvZ; apply w_mvi; rfl)
    refine w_stE 2 zVal rfl rfl rfl rfl (Nat.le_of_ble_eq_true rfl) rfl rfl ?_
    (apply w_mvi; rfl; apply w_done0; apply w_ret)
    exact finZ 2 rfl rfl rfl
  · rw [if_neg hdp, if_neg hdp]
    (apply w_mvi; rfl; apply w_done0; apply w_sq; apply w_reg; apply w_mvi; rfl; apply w_neq; rfl; rfl; apply w_done0; refine w_ifdF rfl (by omega) ?_; apply w_skip; apply w_sq; apply w_reg; apply w_ldb 0; rfl; rfl; rfl)
    refine w_stE 2 [.int .i64 6, .int .i64 0, .int .i64 0, strV [], .slice ra ol.length rc, .slice qa oks.length qc] rfl rfl rfl rfl (Nat.le_of_ble_eq_true rfl) rfl rfl ?_
    (apply w_mvi; rfl; apply w_done0; apply w_ret)
    exact finV (L' := h' :: hrw :: hs) [.agg [.int .i64 6, .int .i64 0, .int .i64 0, strV [], .slice ra ol.length rc, .slice qa oks.length qc].toArray, .int .i64 0] ⟨res_cell 2 rfl rfl rfl, res_tmp rfl, trivial⟩
      (Vs.drop ((((List.Sublist.refl _).cons _).cons _).cons _)) ⟨_, rfl, _, _, h', hrw, ccs, hs, rfl, hrow', horow, hhs, fun j hj => hel j hj hj, rfl⟩
end Go.Gk.Val
end

section
/-
  Two and three values as a literal.
-/
namespace Go.Gk.Val
open Go Go.Gk
section
variable {P : Program} {pan : List PanicEntry → Post} {Qn : Env → Post} {Ls L : List PHeap} {ρ : Env} {d : PHeap} {s : GS} {t : Nat} {tk : Bool}
theorem w_bsV2 {x y : Operand} {a b : List Value} (ex : ev ρ x = .agg a.toArray) (ha : a.length = 6) (ey : ev ρ y = .agg b.toArray) (hb : b.length = 6) (h : ∀ q T, gws P pan Qn s Ls (upd ρ t (.slice (some ⟨q, 0, none⟩) 2 2)) d (bx q T (a ++ b) :: L)) :
    gws P pan Qn (.op false ⟨some t, none, .bsl 2 6 [.int .i64 0, .int .i64 0, .int .i64 0, strV [], .slice none 0 0, .slice none 0 0] [(0, x), (1, y)]⟩ s) Ls ρ d L := by
  obtain ⟨a0, a1, a2, a3, a4, a5, rfl⟩ := six ha
  obtain ⟨b0, b1, b2, b3, b4, b5, rfl⟩ := six hb
  refine w_bsl (by omega) ?_ h
  simp [Instr.fill, zrow, List.range, List.range.loop, ex, ey, Value.cells]
theorem w_bsV3 {x y z : Operand} {a b c : List Value} (ex : ev ρ x = .agg a.toArray) (ha : a.length = 6) (ey : ev ρ y = .agg b.toArray) (hb : b.length = 6) (ez : ev ρ z = .agg c.toArray) (hc : c.length = 6)
    (h : ∀ q T, gws P pan Qn s Ls (upd ρ t (.slice (some ⟨q, 0, none⟩) 3 3)) d (bx q T (a ++ b ++ c) :: L)) :
    gws P pan Qn (.op false ⟨some t, none, .bsl 3 6 [.int .i64 0, .int .i64 0, .int .i64 0, strV [], .slice none 0 0, .slice none 0 0] [(0, x), (1, y), (2, z)]⟩ s) Ls ρ d L := by
  obtain ⟨a0, a1, a2, a3, a4, a5, rfl⟩ := six ha
  obtain ⟨b0, b1, b2, b3, b4, b5, rfl⟩ := six hb
  obtain ⟨c0, c1, c2, c3, c4, c5, rfl⟩ := six hc
  refine w_bsl (by omega) ?_ h
  simp [Instr.fill, zrow, List.range, List.range.loop, ex, ey, ez, Value.cells]
end
theorem rvals2 {d d' : PHeap} {q : Nat} {T : TypeId} {a b : List Value} {x y : V} (hx : RVal d a x) (hy : RVal d b y) (hl : Le d d') (h : Le (bx q T (a ++ b)) d') : RVals d' (.slice (some ⟨q, 0, none⟩) 2 2) [x, y] := by
  obtain ⟨a0, a1, a2, a3, a4, a5, rfl⟩ := six hx.len
  obtain ⟨b0, b1, b2, b3, b4, b5, rfl⟩ := six hy.len
  have o := ORow.lit (sz := 6) (b := q) (T := T) (n := 2) (l := [a0, a1, a2, a3, a4, a5] ++ [b0, b1, b2, b3, b4, b5]) rfl (by omega)
  refine o.rsl (R := RVal) h rfl (by omega) (fun i hi => ?_)
  have hi2 : i < 2 := hi
  obtain rfl | rfl : i = 0 ∨ i = 1 := by omega
  · exact RVal.mono hl hx
  · exact RVal.mono hl hy
theorem rvals3 {d d' : PHeap} {q : Nat} {T : TypeId} {a b c : List Value} {x y z : V} (hx : RVal d a x) (hy : RVal d b y) (hz : RVal d c z) (hl : Le d d') (h : Le (bx q T (a ++ b ++ c)) d') : RVals d' (.slice (some ⟨q, 0, none⟩) 3 3) [x, y, z] := by
  obtain ⟨a0, a1, a2, a3, a4, a5, rfl⟩ := six hx.len
  obtain ⟨b0, b1, b2, b3, b4, b5, rfl⟩ := six hy.len
  obtain ⟨c0, c1, c2, c3, c4, c5, rfl⟩ := six hz.len
  have o := ORow.lit (sz := 6) (b := q) (T := T) (n := 3) (l := [a0, a1, a2, a3, a4, a5] ++ [b0, b1, b2, b3, b4, b5] ++ [c0, c1, c2, c3, c4, c5]) rfl (by omega)
  refine o.rsl (R := RVal) h rfl (by omega) (fun i hi => ?_)
  have hi2 : i < 3 := hi
  obtain rfl | rfl | rfl : i = 0 ∨ i = 1 ∨ i = 2 := by omega
  · exact RVal.mono hl hx
  · exact RVal.mono hl hy
  · exact RVal.mono hl hz
end Go.Gk.Val
end

section
/-
  The laws of values: the example, marks over what is handed out.
-/
namespace Go.Gk.Val
open Go Go.Gk Go.Gk.Utf
attribute [local irreducible] gwp gws

section
variable {P : Program} {pan : List PanicEntry → Post} {Qn : Env → Post} {Ls L : List PHeap} {ρ : Env} {d : PHeap} {s : GS} {t : Nat} {tk : Bool}
theorem w_bnum {x : Operand} {a : Int} (ex : ev ρ x = .int .i64 a) (h : gws P pan Qn s Ls (upd ρ t (.agg [.int .i64 a, .int .i64 0].toArray)) d L) :
    gws P pan Qn (.op tk ⟨some t, none, .bld [(0, 1), (1, 1)] [.int .i64 0, .int .i64 0] [(0, x)]⟩ s) Ls ρ d L :=
  w_bld (cs := [.int .i64 a, .int .i64 0]) (by simp [Instr.fill, ex, Value.cells]) h
theorem w_bvD {x y : Operand} {k : IntKind} {a m e : Int} (ex : ev ρ x = .int k a) (ey : ev ρ y = .agg [.int .i64 m, .int .i64 e].toArray) (h : gws P pan Qn s Ls (upd ρ t (.agg [.int k a, .int .i64 m, .int .i64 e, strV [], .slice none 0 0, .slice none 0 0].toArray)) d L) :
    gws P pan Qn (.op tk ⟨some t, none, .bld [(0, 1), (1, 2), (3, 1), (4, 1), (5, 1)] [.int .i64 0, .int .i64 0, .int .i64 0, strV [], .slice none 0 0, .slice none 0 0] [(0, x), (1, y)]⟩ s) Ls ρ d L :=
  w_bld (cs := [.int k a, .int .i64 m, .int .i64 e, strV [], .slice none 0 0, .slice none 0 0]) (by simp [Instr.fill, ex, ey, Value.cells, strV]) h
/-- Keys and a list. -/
theorem w_bvQ {y z : Operand} {b b' : Option Addr} {n c n' c' : Nat} (ey : ev ρ y = .slice b' n' c') (ez : ev ρ z = .slice b n c)
    (h : gws P pan Qn s Ls (upd ρ t (.agg [.int .i64 0, .int .i64 0, .int .i64 0, strV [], .slice b n c, .slice b' n' c'].toArray)) d L) :
    gws P pan Qn (.op tk ⟨some t, none, .bld [(0, 1), (1, 2), (3, 1), (4, 1), (5, 1)] [.int .i64 0, .int .i64 0, .int .i64 0, strV [], .slice none 0 0, .slice none 0 0] [(4, y), (3, z)]⟩ s) Ls ρ d L :=
  w_bld (cs := [.int .i64 0, .int .i64 0, .int .i64 0, strV [], .slice b n c, .slice b' n' c']) (by simp [Instr.fill, ey, ez, Value.cells, strV]) h
theorem w_bs3 {z : Value} {x0 x1 x2 : Operand} {v0 v1 v2 : Value} (e0 : ev ρ x0 = v0) (c0 : v0.cells = #[v0]) (e1 : ev ρ x1 = v1) (c1 : v1.cells = #[v1]) (e2 : ev ρ x2 = v2) (c2 : v2.cells = #[v2]) (h : ∀ b T, gws P pan Qn s Ls (upd ρ t (.slice (some ⟨b, 0, none⟩) 3 3)) d (bx b T [v0, v1, v2] :: L)) :
    gws P pan Qn (.op false ⟨some t, none, .bsl 3 1 [z] [(0, x0), (1, x1), (2, x2)]⟩ s) Ls ρ d L := by
  refine w_bsl (by omega) ?_ h
  simp [Instr.fill, zrow, List.range, List.range.loop, e0, c0, e1, c1, e2, c2]
end
theorem rstrs_lit {d : PHeap} {q : Nat} {T : TypeId} {ks : List (List UInt8)} (hk : ∀ k ∈ ks, k.length ≤ 140737488355328) (hl : ks.length ≤ 140737488355328) (h : Le (bx q T (ks.map strV)) d) : RStrs d (.slice (some ⟨q, 0, none⟩) ks.length ks.length) ks :=
  (ORow.lit (sz := 1) (b := q) (T := T) (n := ks.length) (l := ks.map strV) (by simp) hl).rsl (R := RStr) h rfl (by omega) (row_str hk)
def digV (n : Int) : V := .mk 3 n 0 [] [] []
abbrev digL (n : Int) : List Value := [.int .i64 3, .int .i64 n, .int .i64 0, strV [], .slice none 0 0, .slice none 0 0]
theorem i64_3 : I64 3 := ⟨by decide, by decide⟩
theorem dig_rval {d : PHeap} {n : Int} (h : I64 n) : RVal d (digL n) (digV n) := RVal.close (v := digV n) i64_3 h i64_0 (by simp [digV, V.text]) RSl.nil RSl.nil
def DigitOk (P : Program) (f : FuncId) : Prop := ∀ {d : PHeap} {n : Int}, GPure P f [.int .i64 n] d (.agg (digL n).toArray)
def g_thimblelaw03_digit : GFun :=
 ⟨6, [(.cell 2 (some 6))],
 (.seq
 (.reg false (.op false ⟨(some 2), none, (.alo (.agg #[(.int .i64 0), (.int .i64 0), (.int .i64 0), (strV []), (.slice none 0 0), (.slice none 0 0)]))⟩ .done))
 (.seq
 (.reg false (.op false ⟨(some 3), none, (.mv (.tmp 0))⟩
  (.op false ⟨(some 4), none, (.bld [(0, 1), (1, 1)] [(.int .i64 0), (.int .i64 0)] [(0, (.tmp 3))])⟩
  (.op false ⟨(some 5), none, (.bld [(0, 1), (1, 2), (3, 1), (4, 1), (5, 1)] [(.int .i64 0), (.int .i64 0), (.int .i64 0), (strV []), (.slice none 0 0), (.slice none 0 0)] [(0, (.const (.int .i64 3))), (1, (.tmp 4))])⟩
  (.op false ⟨none, none, (.st 6 (.tmp 2) (.tmp 5))⟩ .done))))) .ret))⟩

theorem digit_ok {P : Program} {f : FuncId} (hd : dec P f = some g_thimblelaw03_digit) : DigitOk P f := by
  intro d n
  refine GPure.of' hd (Nat.le_of_ble_eq_true rfl) ?_
  show gwp P _ _ _ _ _
  (apply w_sq; apply w_reg; apply w_alo; intro _ _; apply w_done0; apply w_sq; apply w_reg; apply w_mvi; rfl; apply w_bld; rfl; apply w_bld; rfl)
  rename_i b2 T2
  refine w_stE 0 (digL n) rfl rfl rfl rfl (Nat.le_of_ble_eq_true rfl) rfl rfl ?_
  (apply w_done0; apply w_ret)
  exact finS (L' := []) [.agg (digL n).toArray] ⟨res_cell 0 rfl rfl rfl, trivial⟩ (List.nil_sublist _) ⟨rfl, rfl⟩
def worksV : V := .mk 6 0 0 [] [digV 2, digV 3] [[97], [98]]
theorem works_make : makeTop [[98], [97], [98]] [digV 1, digV 2, digV 3] = (worksV, 0) := by rfl
def W3Ok (T : PHeap → Prop) (P : Program) (f : FuncId) : Prop := ∀ {d : PHeap}, T d → GPure P f [] d (.bool true)
def g_thimblelaw03_works (f_thimblelaw03_digit f_value_Make f_value_Right f_value_Size f_value_Copy f_value_Same : Nat) : GFun :=
 ⟨63, [(.tmp 0)],
 (.seq
 (.reg false (.op false ⟨(some 0), none, (.mv (.const (.bool false)))⟩ .done))
 (.seq
 (.reg false (.op false ⟨(some 4), none, (.bsl 3 1 [(strV [])] [(0, (.const (strV [98]))), (1, (.const (strV [97]))), (2, (.const (strV [98])))])⟩
  (.op false ⟨(some 5), none, (.call f_thimblelaw03_digit [(.const (.int .i64 1))])⟩
  (.op false ⟨(some 6), none, (.call f_thimblelaw03_digit [(.const (.int .i64 2))])⟩
  (.op false ⟨(some 7), none, (.call f_thimblelaw03_digit [(.const (.int .i64 3))])⟩
  (.op false ⟨(some 8), none, (.bsl 3 6 [(.int .i64 0), (.int .i64 0), (.int .i64 0), (strV []), (.slice none 0 0), (.slice none 0 0)] [(0, (.tmp 5)), (1, (.tmp 6)), (2, (.tmp 7))])⟩
  (.op false ⟨(some 9), none, (.call f_value_Make [(.tmp 4), (.tmp 8)])⟩
  (.op false ⟨(some 3), none, (.mv (.tmp 9))⟩
  (.op false ⟨(some 10), none, (.ext (.tmp 3) 0)⟩
  (.op false ⟨(some 11), none, (.ext (.tmp 3) 1)⟩
  (.op false ⟨(some 1), none, (.alo (.agg #[(.int .i64 0), (.int .i64 0), (.int .i64 0), (strV []), (.slice none 0 0), (.slice none 0 0)]))⟩
  (.op false ⟨none, none, (.st 6 (.tmp 1) (.tmp 10))⟩
  (.op false ⟨(some 2), none, (.mv (.tmp 11))⟩ .done)))))))))))))
 (.seq
 (.reg true (.op true ⟨(some 12), none, (.mv (.tmp 2))⟩
  (.op true ⟨(some 13), none, (.bin .eql (.tmp 12) (.const (.int .i64 0)))⟩
  (.op true ⟨(some 14), none, (.mv (.tmp 13))⟩
  (.op true ⟨(some 15), (some (14, true)), (.fld 0 (.tmp 1))⟩
  (.op true ⟨(some 16), (some (14, true)), (.ld none (.tmp 15))⟩
  (.op true ⟨(some 17), (some (14, true)), (.bin .eql (.tmp 16) (.const (.int .i64 6)))⟩
  (.op true ⟨(some 18), none, (.pick (.tmp 14) (.tmp 17) (.const (.bool false)))⟩
  (.op true ⟨(some 19), none, (.mv (.tmp 18))⟩
  (.op true ⟨(some 20), (some (19, true)), (.fld 5 (.tmp 1))⟩
  (.op true ⟨(some 21), (some (19, true)), (.ld none (.tmp 20))⟩
  (.op true ⟨(some 22), (some (19, true)), (.len (.tmp 21))⟩
  (.op true ⟨(some 23), (some (19, true)), (.bin .eql (.tmp 22) (.const (.int .i64 2)))⟩
  (.op true ⟨(some 24), none, (.pick (.tmp 19) (.tmp 23) (.const (.bool false)))⟩
  (.op true ⟨(some 25), none, (.mv (.tmp 24))⟩
  (.op true ⟨(some 26), (some (25, true)), (.fld 5 (.tmp 1))⟩
  (.op true ⟨(some 27), (some (25, true)), (.ld none (.tmp 26))⟩
  (.op true ⟨(some 28), (some (25, true)), (.idx 1 (.tmp 27) (.const (.int .i64 0)))⟩
  (.op true ⟨(some 29), (some (25, true)), (.ld none (.tmp 28))⟩
  (.op true ⟨(some 30), (some (25, true)), (.bin .eql (.tmp 29) (.const (strV [97])))⟩
  (.op true ⟨(some 31), none, (.pick (.tmp 25) (.tmp 30) (.const (.bool false)))⟩
  (.op true ⟨(some 32), none, (.mv (.tmp 31))⟩
  (.op true ⟨(some 33), (some (32, true)), (.fld 4 (.tmp 1))⟩
  (.op true ⟨(some 34), (some (32, true)), (.ld none (.tmp 33))⟩
  (.op true ⟨(some 35), (some (32, true)), (.len (.tmp 34))⟩
  (.op true ⟨(some 36), (some (32, true)), (.bin .eql (.tmp 35) (.const (.int .i64 2)))⟩
  (.op true ⟨(some 37), none, (.pick (.tmp 32) (.tmp 36) (.const (.bool false)))⟩
  (.op true ⟨(some 38), none, (.mv (.tmp 37))⟩
  (.op true ⟨(some 39), (some (38, true)), (.fld 4 (.tmp 1))⟩
  (.op true ⟨(some 40), (some (38, true)), (.ld none (.tmp 39))⟩
  (.op true ⟨(some 41), (some (38, true)), (.idx 6 (.tmp 40) (.const (.int .i64 1)))⟩
  (.op true ⟨(some 42), (some (38, true)), (.fld 1 (.tmp 41))⟩
  (.op true ⟨(some 43), (some (38, true)), (.fld 0 (.tmp 42))⟩
  (.op true ⟨(some 44), (some (38, true)), (.ld none (.tmp 43))⟩
  (.op true ⟨(some 45), (some (38, true)), (.bin .eql (.tmp 44) (.const (.int .i64 3)))⟩
  (.op true ⟨(some 46), none, (.pick (.tmp 38) (.tmp 45) (.const (.bool false)))⟩
  (.op true ⟨(some 47), none, (.mv (.tmp 46))⟩
  (.op true ⟨(some 48), (some (47, true)), (.bld [(0, 1), (1, 2), (3, 1), (4, 1), (5, 1)] [(.int .i64 0), (.int .i64 0), (.int .i64 0), (strV []), (.slice none 0 0), (.slice none 0 0)] [(0, (.const (.int .i64 4))), (2, (.const (strV [255])))])⟩
  (.op false ⟨(some 49), (some (47, true)), (.call f_value_Right [(.tmp 48)])⟩
  (.op true ⟨(some 50), (some (47, true)), (.bin .eql (.tmp 49) (.const (.int .i64 30)))⟩
  (.op true ⟨(some 51), none, (.pick (.tmp 47) (.tmp 50) (.const (.bool false)))⟩
  (.op true ⟨(some 52), none, (.mv (.tmp 51))⟩
  (.op true ⟨(some 53), (some (52, true)), (.ld (some 6) (.tmp 1))⟩
  (.op false ⟨(some 54), (some (52, true)), (.call f_value_Size [(.tmp 53)])⟩
  (.op true ⟨(some 55), (some (52, true)), (.bin .eql (.tmp 54) (.const (.int .i64 3)))⟩
  (.op true ⟨(some 56), none, (.pick (.tmp 52) (.tmp 55) (.const (.bool false)))⟩
  (.op true ⟨(some 57), none, (.mv (.tmp 56))⟩
  (.op true ⟨(some 58), (some (57, true)), (.ld (some 6) (.tmp 1))⟩
  (.op true ⟨(some 59), (some (57, true)), (.ld (some 6) (.tmp 1))⟩
  (.op false ⟨(some 60), (some (57, true)), (.call f_value_Copy [(.tmp 59)])⟩
  (.op false ⟨(some 61), (some (57, true)), (.call f_value_Same [(.tmp 58), (.tmp 60)])⟩
  (.op true ⟨(some 62), none, (.pick (.tmp 57) (.tmp 61) (.const (.bool false)))⟩
  (.bar (.op true ⟨(some 0), none, (.mv (.tmp 62))⟩ .done)))))))))))))))))))))))))))))))))))))))))))))))))))))) .ret)))⟩

set_option maxHeartbeats 2000000 in
theorem works3_ok {T : PHeap → Prop} (hTm : ∀ {d d' : PHeap}, T d → Le d d' → T d') {P : Program} {f f1 f2 f3 f4 f5 f6 : FuncId} (hd : decp P f = some (g_thimblelaw03_works f1 f2 f3 f4 f5 f6)) (h1 : DigitOk P f1) (h2 : VMakeOk T P f2) (h3 : RightOk T P f3) (h4 : VSizeOk P f4) (h5 : VCopyOk P f5) (h6 : SameOk P f6) : W3Ok T P f := by
  intro d ht
  refine GPure.of' hd (Nat.le_of_ble_eq_true rfl) ?_
  show gwp P _ _ _ _ _
  (apply w_sq; apply w_reg; apply w_mvb; rfl; apply w_done0; apply w_sq; apply w_reg)
  refine w_bs3 (v0 := strV [98]) (v1 := strV [97]) (v2 := strV [98]) rfl rfl rfl rfl rfl rfl (fun b4 T4 => ?_)
  refine w_pure rfl h1 ?_
  refine w_pure rfl h1 ?_
  refine w_pure rfl h1 ?_
  refine w_bsV3 (a := digL 1) (b := digL 2) (c := digL 3) rfl rfl rfl rfl rfl rfl (fun b8 T8 => ?_)
  refine w_frz (fun d1 hl1 hg1 => ?_)
  refine w_frz (fun d2 hl2 hg2 => ?_)
  have hks : RStrs d2 (.slice (some ⟨b4, 0, none⟩) 3 3) [[98], [97], [98]] := rstrs_lit (ks := [[98], [97], [98]]) (by decide) (by decide) hg2
  have hvs : RVals d2 (.slice (some ⟨b8, 0, none⟩) 3 3) [digV 1, digV 2, digV 3] := rvals3 (d := d2) (dig_rval ⟨by decide, by decide⟩) (dig_rval ⟨by decide, by decide⟩) (dig_rval ⟨by decide, by decide⟩) (Le.refl _) (hg1.trans hl2)
  have hmk := h2 (hTm ht (hl1.trans hl2)) hks hvs (by decide) (by decide)
  rw [works_make] at hmk
  refine w_call0 rfl hmk (fun r d3 L3 _ ⟨hdd, cs', h, hr, hL, ho⟩ => ?_)
  subst hdd; subst hr; subst hL
  refine w_frz (fun d4 hl4 hg4 => ?_)
  have ht4 := hTm ht ((hl1.trans hl2).trans hl4)
  have hR := ho.rval hg4
  have hR0 := hR
  obtain ⟨lv, kv, hcs, _, _, _, _, hll, hkk⟩ := hR.open
  obtain ⟨la, lc, rfl⟩ := RSl.val hll
  obtain ⟨ka, kc, rfl⟩ := RSl.val hkk
  subst hcs
  have hll' : RSl 6 RVal d4 (.slice la 2 lc) [digV 2, digV 3] := hll
  have hkk' : RSl 1 RStr d4 (.slice ka 2 kc) [[97], [98]] := hkk
  have hR1 : RVal d4 [.int .i64 6, .int .i64 0, .int .i64 0, strV [], .slice la 2 lc, .slice ka 2 kc] worksV := hR0
  (apply w_mvu; rfl; apply w_ext; rfl; rfl; apply w_ext; rfl; rfl; apply w_alo; intro _ _)
  rename_i b1 T1
  refine w_stE 0 [.int .i64 6, .int .i64 0, .int .i64 0, strV [], .slice la 2 lc, .slice ka 2 kc] rfl rfl rfl rfl (Nat.le_of_ble_eq_true rfl) rfl rfl ?_
  (apply w_mvi; rfl; apply w_done0; apply w_sq; apply w_drawn; apply w_mvi; rfl; apply w_eql; rfl; rfl; apply w_mvb; rfl; refine w_gdT rfl (by omega) ?_; apply w_gT; rfl; apply w_fld; rfl; apply w_gT; rfl; apply w_ld; rfl; exact hc_i 0 rfl rfl; apply w_gT; rfl; apply w_eql; rfl; rfl; apply w_pickTb; rfl; rfl; apply w_mvb; rfl; refine w_gdT rfl (by omega) ?_; apply w_gT; rfl; apply w_fld; rfl; apply w_gT; rfl; apply w_ld; rfl; exact hc_i 0 rfl rfl; apply w_gT; rfl; apply w_len; rfl; apply w_gT; rfl; apply w_eql; rfl; rfl; apply w_pickTb; rfl; rfl; apply w_mvb; rfl; refine w_gdT rfl (by omega) ?_; apply w_gT; rfl; apply w_fld; rfl; apply w_gT; rfl; apply w_ld; rfl; exact hc_i 0 rfl rfl; apply w_gT; rfl)
  refine w_idxR (sz := 1) (R := RStr) (m := 0) rfl hkk' rfl rfl (by decide) ?_
  rintro b28 o28 _ _ hD28 ⟨rfl, _⟩
  have e0 : ([[97], [98]] : List (List UInt8))[0] = [97] := rfl
  (apply w_gT; rfl; apply w_ld; rfl; exact hc_ds0 (by assumption) rfl; apply w_gT; rfl; apply w_seq; rfl; rfl; apply w_pickTb; rfl; rfl; apply w_mvb; rfl; refine w_gdT rfl (by omega) ?_; apply w_gT; rfl; apply w_fld; rfl; apply w_gT; rfl; apply w_ld; rfl; exact hc_i 0 rfl rfl; apply w_gT; rfl; apply w_len; rfl; apply w_gT; rfl; apply w_eql; rfl; rfl; apply w_pickTb; rfl; rfl; apply w_mvb; rfl; refine w_gdT rfl (by omega) ?_; apply w_gT; rfl; apply w_fld; rfl; apply w_gT; rfl; apply w_ld; rfl; exact hc_i 0 rfl rfl; apply w_gT; rfl)
  refine w_idxR (sz := 6) (R := RVal) (m := 1) rfl hll' rfl rfl (by decide) ?_
  rintro b41 o41 cs41 h41 hD41 hR41
  obtain ⟨lv2, kv2, hcs2, _, _, _, _, _, _⟩ := hR41.open
  subst hcs2
  (apply w_gT; rfl; apply w_fld; rfl; apply w_gT; rfl; apply w_fld; rfl; apply w_gT; rfl)
  refine w_ld rfl (hc_ds (i := 1) hD41 (show _ = some (Value.int .i64 3) from rfl)) ?_
  have hx : RVal d4 [.int .i64 4, .int .i64 0, .int .i64 0, strV [255], .slice none 0 0, .slice none 0 0] (.mk 4 0 0 [255] [] []) := RVal.close (v := .mk 4 0 0 [255] [] []) i64_4 i64_0 i64_0 (by simp [V.text]) RSl.nil RSl.nil
  have hx30 : rightV (.mk 4 0 0 [255] [] []) = 30 := by rfl
  have hs3 : ((sizeV worksV : Nat) : Int) = 3 := by rfl
  (apply w_gT; rfl; apply w_eql; rfl; rfl; apply w_pickTb; rfl; rfl; apply w_mvb; rfl; refine w_gdT rfl (by omega) ?_; apply w_gT; rfl; apply w_bvKT; rfl; rfl; apply w_gT; rfl)
  refine w_pure rfl (h3 ht4 hx) ?_
  rw [hx30]
  (apply w_gT; rfl; apply w_eql; rfl; rfl; apply w_pickTb; rfl; rfl; apply w_mvb; rfl; refine w_gdT rfl (by omega) ?_; apply w_gT; rfl; apply w_ldb 0; rfl; rfl; rfl; apply w_gT; rfl)
  refine w_pure rfl (h4 _ hR1 (by decide)) ?_
  rw [hs3]
  (apply w_gT; rfl; apply w_eql; rfl; rfl; apply w_pickTb; rfl; rfl; apply w_mvb; rfl; refine w_gdT rfl (by omega) ?_; apply w_gT; rfl; apply w_ldb 0; rfl; rfl; rfl; apply w_gT; rfl; apply w_ldb 0; rfl; rfl; rfl; apply w_gT; rfl)
  refine w_call0 rfl (h5 _ hR1 (by decide)) (fun r d5 L5 _ ⟨hdd, cs5, g5, hr, hL, ho5⟩ => ?_)
  subst hdd; subst hr; subst hL
  have hs1 : sameV worksV worksV = true := (sameV_iff _ _).2 rfl
  (apply w_gT; rfl)
  refine w_pureB rfl (fun d6 hl6 hk6 => h6 _ _ (RVal.mono hl6 hR1) (ho5.rval (hk6 g5 (by simp)))) ?_
  rw [hs1]
  (apply w_pickTb; rfl; rfl; apply w_bar; apply w_mvb; rfl; apply w_done0; apply w_ret)
  exact finQ rfl
end Go.Gk.Val
end

section
/-
  The laws of values: ValueParts.
-/
namespace Go.Gk.Val
open Go Go.Gk Go.Gk.Utf
attribute [local irreducible] gwp gws

theorem right_list1 {v : V} (h : rightV v = 0) : rightV (.mk 5 0 0 [] [v] []) = if depthV v < 48 then 0 else 31 := by
  obtain ⟨hm, hd⟩ := right_iff.1 h
  have hm2 : mayV (.mk 5 0 0 [] [v] []) = true := may_list fun x hx => by rw [List.mem_singleton.1 hx]; exact hm
  have hd2 : depthV (.mk 5 0 0 [] [v] []) = depthV v + 1 := by rw [depthV_eq]; show depths [v] + 1 = _; simp [depths]
  rw [rightV, hm2, hd2]
  by_cases q : depthV v < 48
  · rw [if_pos (by omega), if_pos rfl, if_pos q]
  · rw [if_neg (by omega), if_neg q]
theorem right_part {v x : V} (h : rightV v = 0) (hx : x ∈ v.list) : rightV x = 0 ∧ depthV x < depthV v := by
  obtain ⟨hm, hd⟩ := right_iff.1 h
  have h2 := depth_mem hx
  exact ⟨right_iff.2 ⟨may_mem hm hx, by omega⟩, by omega⟩
def g_thimblelaw03_ValueParts (f_thimblelaw03_works f_thimbleref03_Bulk f_value_Right f_value_Depth f_value_Size : Nat) : GFun :=
 ⟨63, [(.tmp 2)],
 (.seq
 (.reg false (.op false ⟨(some 1), none, (.box (.tmp 0))⟩
  (.op false ⟨(some 2), none, (.mv (.const (.bool false)))⟩ .done)))
 (.seq (.seq
 (.reg false (.op false ⟨(some 7), none, (.call f_thimblelaw03_works [])⟩
  (.op false ⟨(some 8), none, (.un .not (.tmp 7))⟩ .done))) (.cond (.tmp 8)
 (.seq
 (.reg false (.op false ⟨(some 2), none, (.mv (.const (.bool false)))⟩ .done)) .ret) .skip))
 (.seq (.seq
 (.reg false (.op false ⟨(some 9), none, (.ld (some 6) (.tmp 1))⟩
  (.op false ⟨(some 10), none, (.call f_thimbleref03_Bulk [(.tmp 9), (.const (.int .i64 3000))])⟩
  (.op false ⟨(some 11), none, (.bin .gtr (.tmp 10) (.const (.int .i64 3000)))⟩
  (.op false ⟨(some 12), none, (.mv (.tmp 11))⟩
  (.op false ⟨(some 13), (some (12, false)), (.ld (some 6) (.tmp 1))⟩
  (.op false ⟨(some 14), (some (12, false)), (.call f_value_Right [(.tmp 13)])⟩
  (.op false ⟨(some 15), (some (12, false)), (.bin .neq (.tmp 14) (.const (.int .i64 0)))⟩
  (.op false ⟨(some 16), none, (.pick (.tmp 12) (.const (.bool true)) (.tmp 15))⟩ .done))))))))) (.cond (.tmp 16)
 (.seq
 (.reg false (.op false ⟨(some 2), none, (.mv (.const (.bool true)))⟩ .done)) .ret) .skip))
 (.seq
 (.reg false (.op false ⟨(some 3), none, (.mv (.const (.int .i64 1)))⟩ .done))
 (.seq (.seq
 (.reg false (.op false ⟨(some 17), none, (.fld 4 (.tmp 1))⟩
  (.op false ⟨(some 18), none, (.ld none (.tmp 17))⟩
  (.op false ⟨(some 19), none, (.len (.tmp 18))⟩
  (.op false ⟨(some 20), none, (.mv (.const (.int .i64 0)))⟩ .done))))) (.block 0 (.loop
 (.seq
 (.reg false (.op false ⟨(some 21), none, (.bin .lss (.tmp 20) (.tmp 19))⟩ .done))
 (.seq (.cond (.tmp 21) .skip (.exit 0))
 (.seq (.block 1
 (.seq
 (.reg false (.op false ⟨(some 22), none, (.idx 6 (.tmp 18) (.tmp 20))⟩
  (.op false ⟨(some 23), none, (.ld (some 6) (.tmp 22))⟩
  (.op false ⟨(some 5), none, (.alo (.agg #[(.int .i64 0), (.int .i64 0), (.int .i64 0), (strV []), (.slice none 0 0), (.slice none 0 0)]))⟩
  (.op false ⟨none, none, (.st 6 (.tmp 5) (.tmp 23))⟩ .done)))))
 (.seq (.seq
 (.reg true (.op true ⟨(some 24), none, (.ld (some 6) (.tmp 5))⟩
  (.op false ⟨(some 25), none, (.call f_value_Right [(.tmp 24)])⟩
  (.op true ⟨(some 26), none, (.bin .neq (.tmp 25) (.const (.int .i64 0)))⟩
  (.op true ⟨(some 27), none, (.mv (.tmp 26))⟩
  (.op true ⟨(some 28), (some (27, false)), (.ld (some 6) (.tmp 5))⟩
  (.op true ⟨(some 30), (some (27, false)), (.ld (some 6) (.tmp 1))⟩
  (.op false ⟨(some 29), (some (27, false)), (.call f_value_Depth [(.tmp 28)])⟩
  (.op false ⟨(some 31), (some (27, false)), (.call f_value_Depth [(.tmp 30)])⟩
  (.op true ⟨(some 32), (some (27, false)), (.bin .geq (.tmp 29) (.tmp 31))⟩
  (.op true ⟨(some 33), none, (.pick (.tmp 27) (.const (.bool true)) (.tmp 32))⟩ .done))))))))))) (.cond (.tmp 33)
 (.seq
 (.reg false (.op false ⟨(some 2), none, (.mv (.const (.bool false)))⟩ .done)) .ret) .skip))
 (.reg false (.op false ⟨(some 34), none, (.mv (.tmp 3))⟩
  (.op false ⟨(some 35), none, (.ld (some 6) (.tmp 5))⟩
  (.op false ⟨(some 36), none, (.call f_value_Size [(.tmp 35)])⟩
  (.op false ⟨(some 37), none, (.bin .add (.tmp 34) (.tmp 36))⟩
  (.op false ⟨(some 3), none, (.mv (.tmp 37))⟩ .done)))))))))
 (.reg false (.op false ⟨(some 38), none, (.bin .add (.tmp 20) (.const (.int .i64 1)))⟩
  (.op false ⟨(some 20), none, (.mv (.tmp 38))⟩ .done)))))))))
 (.seq
 (.reg false (.op false ⟨(some 39), none, (.ld (some 6) (.tmp 1))⟩
  (.op false ⟨(some 40), none, (.bsl 1 6 [(.int .i64 0), (.int .i64 0), (.int .i64 0), (strV []), (.slice none 0 0), (.slice none 0 0)] [(0, (.tmp 39))])⟩
  (.op false ⟨(some 41), none, (.bld [(0, 1), (1, 2), (3, 1), (4, 1), (5, 1)] [(.int .i64 0), (.int .i64 0), (.int .i64 0), (strV []), (.slice none 0 0), (.slice none 0 0)] [(0, (.const (.int .i64 5))), (3, (.tmp 40))])⟩
  (.op false ⟨(some 42), none, (.call f_value_Right [(.tmp 41)])⟩
  (.op false ⟨(some 6), none, (.mv (.tmp 42))⟩ .done))))))
 (.seq
 (.reg false (.op false ⟨(some 43), none, (.mv (.tmp 3))⟩
  (.op false ⟨(some 44), none, (.ld (some 6) (.tmp 1))⟩
  (.op false ⟨(some 45), none, (.call f_value_Size [(.tmp 44)])⟩
  (.op false ⟨(some 46), none, (.bin .eql (.tmp 43) (.tmp 45))⟩
  (.op false ⟨(some 47), none, (.mv (.tmp 46))⟩
  (.op false ⟨(some 48), (some (47, true)), (.mv (.tmp 6))⟩
  (.op false ⟨(some 49), (some (47, true)), (.bin .eql (.tmp 48) (.const (.int .i64 0)))⟩
  (.op false ⟨(some 50), (some (47, true)), (.ld (some 6) (.tmp 1))⟩
  (.op false ⟨(some 51), (some (47, true)), (.call f_value_Depth [(.tmp 50)])⟩
  (.op false ⟨(some 52), (some (47, true)), (.bin .lss (.tmp 51) (.const (.int .i64 48)))⟩
  (.op false ⟨(some 53), (some (47, true)), (.eqb false (.tmp 49) (.tmp 52))⟩
  (.op false ⟨(some 54), none, (.pick (.tmp 47) (.tmp 53) (.const (.bool false)))⟩
  (.op false ⟨(some 55), none, (.mv (.tmp 54))⟩
  (.op false ⟨(some 56), (some (55, true)), (.mv (.tmp 6))⟩
  (.op false ⟨(some 57), (some (55, true)), (.bin .eql (.tmp 56) (.const (.int .i64 0)))⟩
  (.op false ⟨(some 58), (some (55, true)), (.mv (.tmp 57))⟩
  (.op false ⟨(some 59), (some (58, false)), (.mv (.tmp 6))⟩
  (.op false ⟨(some 60), (some (58, false)), (.bin .eql (.tmp 59) (.const (.int .i64 31)))⟩
  (.op false ⟨(some 61), (some (55, true)), (.pick (.tmp 58) (.const (.bool true)) (.tmp 60))⟩
  (.op false ⟨(some 62), none, (.pick (.tmp 55) (.tmp 61) (.const (.bool false)))⟩
  (.op false ⟨(some 2), none, (.mv (.tmp 62))⟩ .done)))))))))))))))))))))) .ret)))))))⟩

set_option maxHeartbeats 2000000 in
theorem valueParts_ok {T : PHeap → Prop} {P : Program} {f f1 f2 f3 f4 f5 : FuncId} (hT : ∀ {d d' : PHeap}, Le d d' → T d → T d') (hd : decp P f = some (g_thimblelaw03_ValueParts f1 f2 f3 f4 f5)) (h1 : W3Ok T P f1) (h2 : BulkOk P f2) (h3 : RightOk T P f3) (h4 : VDepthOk P f4) (h5 : VSizeOk P f5)
    {d : PHeap} {cs : List Value} {v : V} (ht : T d) (hv : RVal d cs v) : GPure P f [.agg cs.toArray] d (.bool true) := by
  have hv0 := hv
  obtain ⟨lv, kv, rfl, ik, im, ie, it, hl, hks⟩ := hv.open
  obtain ⟨la, lc, rfl⟩ := RSl.val hl
  obtain ⟨ka, kc, rfl⟩ := RSl.val hks
  have hl' : RSl 6 RVal d (.slice la v.list.length lc) v.list := hl
  have hll := RSl.len_le hl
  refine GPure.of' hd (Nat.le_of_ble_eq_true rfl) ?_
  show gwp P _ _ _ _ _
  apply w_sq; apply w_reg
  refine w_boxa (l := [.int .i64 v.kind, .int .i64 v.m, .int .i64 v.e, strV v.text, .slice la v.list.length lc, .slice ka v.keys.length kc]) rfl (fun b1 T1 => ?_)
  (apply w_mvb; rfl; apply w_done0; apply w_sq; apply w_sq; apply w_reg)
  refine w_pure rfl (h1 ht) ?_
  (apply w_not; rfl; apply w_done0; apply w_ifF; rfl; apply w_skip; apply w_sq; apply w_sq; apply w_reg; apply w_ldb 0; rfl; rfl; rfl)
  refine w_call0 rfl (h2 v (most := 3000) hv0 (by omega)) (fun r d3 L3 _ ⟨hdd, z, hr, hz1, hz2, hz3, hL⟩ => ?_)
  subst hdd; subst hr; subst hL
  by_cases q2 : 3000 < z
  · (apply w_gtr; rfl; rfl; apply w_mvb; rfl; refine w_gdT rfl (by omega) ?_; apply w_gF; rfl; apply w_gF; rfl; apply w_gF; rfl; apply w_pickTb; rfl; rfl; apply w_done0; apply w_ifT; rfl; apply w_sq; apply w_reg; apply w_mvb; rfl; apply w_done0; apply w_ret)
    exact finQ rfl
  have hbv : bulkV v ≤ 3000 := by have := hz3 (by omega); omega
  have hcb := cnt_bulk v
  have htx := txt_bulk v
  have hdx := depth_txt v
  have hsx := size_bulk v
  (apply w_gtr; rfl; rfl; apply w_mvb; rfl; refine w_gdF rfl (by omega) ?_; apply w_gT; rfl; apply w_ldb 0; rfl; rfl; rfl; apply w_gT; rfl)
  refine w_pure rfl (h3 ht hv0) ?_
  by_cases hr0 : rightV v ≠ 0
  · (apply w_gT; rfl; apply w_neq; rfl; rfl; apply w_pickFb; rfl; rfl; apply w_done0; refine w_ifdT rfl (by omega) ?_; apply w_sq; apply w_reg; apply w_mvb; rfl; apply w_done0; apply w_ret)
    exact finQ rfl
  have hr0 : rightV v = 0 := by omega
  rw [hr0]
  have hse := sizeV_eq v
  (apply w_gT; rfl; apply w_neq; rfl; rfl; apply w_pickFb; rfl; rfl; apply w_done0; refine w_ifdF rfl (by omega) ?_; apply w_skip; apply w_sq; apply w_reg; apply w_mvi; rfl; apply w_done0; apply w_sq; apply w_sq; apply w_reg; apply w_fld; rfl; apply w_ld; rfl; exact hc_i 0 rfl rfl; apply w_len; rfl; apply w_mvi; rfl; apply w_done0; apply w_block)
  refine w_loopN (α := Nat) (fun i => [(1, .pointer (some ⟨b1, 0, none⟩)), (3, .int .i64 (1 + sizes (v.list.take i))), (18, .slice la v.list.length lc), (19, .int .i64 v.list.length), (20, .int .i64 i)])
    (fun _ => [bx b1 T1 [.int .i64 v.kind, .int .i64 v.m, .int .i64 v.e, strV v.text, .slice la v.list.length lc, .slice ka v.keys.length kc]]) (fun i => i ≤ v.list.length) (fun i => v.list.length - i) 0 ⟨rfl, int_eq (by simp [sizes]), rfl, rfl, rfl, trivial⟩ rfl (Nat.zero_le _) ?_
  rintro i ρ hi
  have hti := sizes_take v.list i
  by_cases hc : i < v.list.length
  · have hm := size_mem (List.getElem_mem hc)
    have hti2 := sizes_take v.list (i + 1)
    have hsn : sizes (v.list.take (i + 1)) = sizes (v.list.take i) + sizeV v.list[i] := by rw [List.take_succ_eq_append_getElem hc, sizes_snoc]
    obtain ⟨hp1, hp2⟩ := right_part hr0 (List.getElem_mem hc)
    (apply w_sq; apply w_reg; apply w_lss; rfl; rfl; apply w_done0; apply w_sq; refine w_ifdT rfl (by omega) ?_; apply w_skip; apply w_sq; apply w_block; apply w_sq; apply w_reg; refine w_idxR (sz := 6) (R := RVal) (by rfl) (by assumption) (by rfl) rfl (by omega) ?_; rintro _ _ _ _ _ _; apply w_ldd; rfl; assumption; assumption; apply w_alo; intro _ _)
    rename_i csx hcsx hDx hRx b5 T5
    obtain ⟨e0, e1, e2, e3, e4, e5, rfl⟩ := six hcsx
    refine w_stE 0 [e0, e1, e2, e3, e4, e5] rfl rfl rfl rfl (Nat.le_of_ble_eq_true rfl) (cell1_val _ _ _ hRx) rfl ?_
    (apply w_done0; apply w_sq; apply w_sq; apply w_drawn; apply w_ldb 0; rfl; rfl; rfl)
    refine w_pure rfl (h3 ht hRx) ?_
    rw [hp1]
    (apply w_neq; rfl; rfl; apply w_mvb; rfl; refine w_gdF rfl (by omega) ?_; apply w_gT; rfl; apply w_ldb 0; rfl; rfl; rfl; apply w_gT; rfl; apply w_ldb 1; rfl; rfl; rfl; apply w_gT; rfl)
    refine w_pure rfl (h4 _ hRx (by omega)) ?_
    (apply w_gT; rfl)
    refine w_pure rfl (h4 _ hv0 (by omega)) ?_
    have hge : ¬ ((depthV v : Int) ≤ depthV v.list[i]) := by omega
    (apply w_gT; rfl; apply w_geq; rfl; rfl; apply w_pickFb; rfl; rfl; apply w_done; refine w_ifdF rfl (by omega) ?_; apply w_skip; apply w_reg; apply w_mvi; rfl; apply w_ldb 0; rfl; rfl; rfl)
    refine w_pure rfl (h5 _ hRx (by omega)) ?_
    refine w_vs _ [bx b1 T1 [.int .i64 v.kind, .int .i64 v.m, .int .i64 v.e, strV v.text, .slice la v.list.length lc, .slice ka v.keys.length kc]] (Vs.drop (List.sublist_cons_self _ _)) ?_
    (apply w_add; rfl; rfl; omega; omega; apply w_mvi; rfl; apply w_done0; apply w_reg; apply w_add; rfl; rfl; omega; omega; apply w_mvi; rfl; apply w_done0)
    exact ⟨i + 1, by omega, ⟨rfl, int_eq (by omega), rfl, rfl, int_eq (by omega), trivial⟩, rfl, rfl, hc⟩
  obtain rfl : i = v.list.length := by omega
  rw [List.take_length] at hti ⊢
  (apply w_sq; apply w_reg; apply w_lss; rfl; rfl; apply w_done0; apply w_sq; refine w_ifdF rfl (by omega) ?_; apply w_exit; apply w_sq; apply w_reg; apply w_ldb 0; rfl; rfl; rfl)
  refine w_bsV rfl rfl (fun b40 T40 => ?_)
  refine w_frz (fun d4 hl4 hg4 => ?_)
  have hv4 := RVal.mono hl4 hv0
  have ht4 := hT hl4 ht
  have hvs : RVals d4 (.slice (some ⟨b40, 0, none⟩) 1 1) [v] := (GRow.lit1 (sz := 6) (R := RVal) rfl hv0).rsl (R := RVal) mono_val (by omega) hl4 hg4
  have hlv : RVal d4 [.int .i64 5, .int .i64 0, .int .i64 0, strV [], .slice (some ⟨b40, 0, none⟩) 1 1, .slice none 0 0] (.mk 5 0 0 [] [v] []) := RVal.close (v := .mk 5 0 0 [] [v] []) i64_5 i64_0 i64_0 (by simp [V.text]) hvs RSl.nil
  have hrl := right_list1 hr0
  (apply w_bvKL; rfl; rfl)
  refine w_pure rfl (h3 ht4 hlv) ?_
  rw [hrl]
  by_cases q : depthV v < 48
  · have q' : (depthV v : Int) < 48 := by omega
    have hb : (false ^^ (decide ((0 : Int) = 0) == decide ((depthV v : Int) < 48))) = true := by simp [q']
    rw [if_pos q]
    (apply w_mvi; rfl; apply w_done0; apply w_sq; apply w_reg; apply w_mvi; rfl; apply w_ldb 0; rfl; rfl; rfl)
    refine w_pure rfl (h5 _ hv4 (by omega)) ?_
    have hz : (1 + (sizes v.list : Int)) = sizeV v := by omega
    (apply w_eql; rfl; rfl; apply w_mvb; rfl; refine w_gdT rfl (by omega) ?_; apply w_gT; rfl; apply w_mvi; rfl; apply w_gT; rfl; apply w_eql; rfl; rfl; apply w_gT; rfl; apply w_ldb 0; rfl; rfl; rfl; apply w_gT; rfl)
    refine w_pure rfl (h4 _ hv4 (by omega)) ?_
    (apply w_gT; rfl; apply w_lss; rfl; rfl; apply w_gT; rfl; apply w_eqb; rfl; rfl; apply w_pickTb; rfl; rfl; apply w_mvb; rfl; apply w_gbT; rfl; (with_reducible assumption); apply w_gT; rfl; apply w_mvi; rfl; apply w_gT; rfl; apply w_eql; rfl; rfl; apply w_gT; rfl; apply w_mvb; rfl; refine w_gdT rfl (by omega) ?_; apply w_gF; rfl; apply w_gF; rfl; apply w_gT; rfl; apply w_pickTb; rfl; rfl; apply w_pickTb; rfl; rfl; apply w_mvb; rfl; apply w_done0; apply w_ret)
    exact finQ rfl
  · have q' : ¬ (depthV v : Int) < 48 := by omega
    have hb : (false ^^ (decide ((31 : Int) = 0) == decide ((depthV v : Int) < 48))) = true := by simp; omega
    rw [if_neg q]
    (apply w_mvi; rfl; apply w_done0; apply w_sq; apply w_reg; apply w_mvi; rfl; apply w_ldb 0; rfl; rfl; rfl)
    refine w_pure rfl (h5 _ hv4 (by omega)) ?_
    have hz : (1 + (sizes v.list : Int)) = sizeV v := by omega
    (apply w_eql; rfl; rfl; apply w_mvb; rfl; refine w_gdT rfl (by omega) ?_; apply w_gT; rfl; apply w_mvi; rfl; apply w_gT; rfl; apply w_eql; rfl; rfl; apply w_gT; rfl; apply w_ldb 0; rfl; rfl; rfl; apply w_gT; rfl)
    refine w_pure rfl (h4 _ hv4 (by omega)) ?_
    (apply w_gT; rfl; apply w_lss; rfl; rfl; apply w_gT; rfl; apply w_eqb; rfl; rfl; apply w_pickTb; rfl; rfl; apply w_mvb; rfl; apply w_gbT; rfl; (with_reducible assumption); apply w_gT; rfl; apply w_mvi; rfl; apply w_gT; rfl; apply w_eql; rfl; rfl; apply w_gT; rfl; apply w_mvb; rfl; refine w_gdF rfl (by omega) ?_; apply w_gT; rfl; apply w_mvi; rfl; apply w_gT; rfl; apply w_eql; rfl; rfl; apply w_gT; rfl; apply w_pickFb; rfl; rfl; apply w_pickTb; rfl; rfl; apply w_mvb; rfl; apply w_done0; apply w_ret)
    exact finQ rfl
end Go.Gk.Val
end

section
/-
  Slices laid end to end: what comes out of it is data.
-/
namespace Go.Gk
open Go
section
variable {P : Program} {pan : List PanicEntry → Post} {Qn : Env → Post} {Ls L : List PHeap} {ρ : Env} {d : PHeap} {s : GS}
theorem w_appGF {α : Type} {sz by_ t : Nat} {R : PHeap → List Value → α → Prop} {z : List Value} {x y : Operand} {v w : Value} {xs ys : List α} {h : PHeap} (hR : Mono R) (ex : ev ρ x = v) (ho : GRow sz R d v xs h)
    (ey : ev ρ y = w) (hs : Src sz R d (Ls ++ (h :: L) ++ (h :: L)) w ys) (hsz : 0 < sz) (hm : xs.length + ys.length ≤ 140737488355328) (hb : (xs.length + ys.length) * by_ ≤ 140737488355328)
    (k : ∀ a c d', Le d d' → RSl sz R d' (.slice a (xs ++ ys).length c) (xs ++ ys) → gws P pan Qn s Ls (upd ρ t (.slice a (xs ++ ys).length c)) d' L) : gws P pan Qn (.op false ⟨some t, none, .app sz by_ z x y⟩ s) Ls ρ d (h :: L) := by
  obtain ⟨cs, h1, h2⟩ := ho
  obtain ⟨news, k1, k2, k3⟩ := hs
  have hl := h1.1
  refine w_appV 0 ex rfl h1 ey k1 k2 hsz hm hb (fun v' h' o => ⟨join d h', L, Vs.freeze, ?_⟩)
  have hg : GRow sz R d v' (xs ++ ys) h' := by
    refine ⟨cs ++ news, by rw [List.length_append]; exact o, fun j hj => ?_⟩
    by_cases e : j < xs.length
    · rw [chunk_app_left hl e, List.getElem_append_left e]; exact h2 j e
    · rw [chunk_app_right hl (by omega), List.getElem_append_right (by omega)]
      exact k3 _ (by simp at hj; omega)
  have hr := hg.rsl hR hsz (Le.join_left d h') (Le.join_right d h')
  obtain ⟨a, c, rfl⟩ := hr.val
  exact k a c _ (Le.join_left d h') hr
/-- A new slice, and two behind it. -/
theorem w_cat2 {α : Type} {sz by_ t0 t1 t2 : Nat} {R : PHeap → List Value → α → Prop} {z : List Value} {x y : Operand} {vx vy : Value} {xs ys : List α} (hR : Mono R) (hc : Cell1 R) (hsz : 0 < sz) (_ : (t0 == t1) = false)
    (rx : RSl sz R d vx xs) (ry : RSl sz R d vy ys) (ex : ∀ u, ev (upd ρ t0 u) x = vx) (ey : ∀ u w, ev (upd (upd ρ t0 u) t1 w) y = vy) (hb : (xs.length + ys.length) * by_ ≤ 140737488355328) (hm : xs.length + ys.length ≤ 140737488355328)
    (k : ∀ v0 v1 a c d', Le d d' → RSl sz R d' (.slice a (xs ++ ys).length c) (xs ++ ys) → gws P pan Qn s Ls (upd (upd (upd ρ t0 v0) t1 v1) t2 (.slice a (xs ++ ys).length c)) d' L) :
    gws P pan Qn (.op false ⟨some t0, none, .bsl 0 sz z []⟩ (.op false ⟨some t1, none, .app sz by_ z (.tmp t0) x⟩ (.op false ⟨some t2, none, .app sz by_ z (.tmp t1) y⟩ s))) Ls ρ d L := by
  have up : ∀ (ρ : Env) (t : Nat) (v : Value), ev (upd ρ t v) (.tmp t) = v := fun ρ t v => by simp [ev, upd]
  refine w_bsl (cs := []) (by simp) (by simp [Instr.fill, zrow]) (fun b T => ?_)
  have hm1 : xs.length * by_ ≤ 140737488355328 := Nat.le_trans (Nat.mul_le_mul_right _ (by omega)) hb
  refine w_appG (R := R) 0 (up _ _ _) rfl (GRow.lit0 (R := R) (sz := sz)) (ex _) (rx.src hc hsz _) hsz (by simp; omega) (by simpa using hm1) (fun v1 h1 o1 => ?_)
  rw [List.nil_append] at o1
  exact w_appGF (R := R) hR (up _ _ _) o1 (ey _ _) (ry.src hc hsz _) hsz hm hb (fun a c d' hl hr => k _ _ a c d' hl hr)
/-- A new slice and one behind it. -/
theorem w_cat1 {α : Type} {sz by_ t0 t1 : Nat} {R : PHeap → List Value → α → Prop} {z : List Value} {x : Operand} {vx : Value} {xs : List α} (_ : Mono R) (hc : Cell1 R) (hsz : 0 < sz)
    (rx : RSl sz R d vx xs) (ex : ∀ u, ev (upd ρ t0 u) x = vx) (hb : xs.length * by_ ≤ 140737488355328) (hm : xs.length ≤ 140737488355328)
    (k : ∀ v0 v1 h1, GRow sz R d v1 xs h1 → gws P pan Qn s Ls (upd (upd ρ t0 v0) t1 v1) d (h1 :: L)) :
    gws P pan Qn (.op false ⟨some t0, none, .bsl 0 sz z []⟩ (.op false ⟨some t1, none, .app sz by_ z (.tmp t0) x⟩ s)) Ls ρ d L := by
  have up : ∀ (ρ : Env) (t : Nat) (v : Value), ev (upd ρ t v) (.tmp t) = v := fun ρ t v => by simp [ev, upd]
  refine w_bsl (cs := []) (by simp) (by simp [Instr.fill, zrow]) (fun b T => ?_)
  refine w_appG (R := R) 0 (up _ _ _) rfl (GRow.lit0 (R := R) (sz := sz)) (ex _) (rx.src hc hsz _) hsz (by simp; omega) (by simpa using hb) (fun v1 h1 o1 => ?_)
  rw [List.nil_append] at o1
  exact k _ _ _ o1
/-- Two behind a slice of our own. -/
theorem w_app2 {α : Type} {sz by_ t1 t2 : Nat} {R : PHeap → List Value → α → Prop} {z : List Value} {x0 x y : Operand} {v0 vx vy : Value} {ws xs ys : List α} {h : PHeap} (hR : Mono R) (hc : Cell1 R) (hsz : 0 < sz)
    (ho : GRow sz R d v0 ws h) (rx : RSl sz R d vx xs) (ry : RSl sz R d vy ys) (e0 : ev ρ x0 = v0) (ex : ev ρ x = vx) (ey : ∀ u, ev (upd ρ t1 u) y = vy) (hb : (ws.length + xs.length + ys.length) * by_ ≤ 140737488355328) (hm : ws.length + xs.length + ys.length ≤ 140737488355328)
    (k : ∀ v1 a c d', Le d d' → RSl sz R d' (.slice a (ws ++ xs ++ ys).length c) (ws ++ xs ++ ys) → gws P pan Qn s Ls (upd (upd ρ t1 v1) t2 (.slice a (ws ++ xs ++ ys).length c)) d' L) :
    gws P pan Qn (.op false ⟨some t1, none, .app sz by_ z x0 x⟩ (.op false ⟨some t2, none, .app sz by_ z (.tmp t1) y⟩ s)) Ls ρ d (h :: L) := by
  have up : ∀ (ρ : Env) (t : Nat) (v : Value), ev (upd ρ t v) (.tmp t) = v := fun ρ t v => by simp [ev, upd]
  have hm1 : (ws.length + xs.length) * by_ ≤ 140737488355328 := Nat.le_trans (Nat.mul_le_mul_right _ (by omega)) hb
  refine w_appG (R := R) 0 e0 rfl ho ex (rx.src hc hsz _) hsz (by omega) hm1 (fun v1 h1 o1 => ?_)
  exact w_appGF (R := R) hR (up _ _ _) o1 (ey _) (ry.src hc hsz _) hsz (by rw [List.length_append]; exact hm) (by rw [List.length_append]; exact hb) (fun a c d' hl hr => k _ a c d' hl hr)
end
end Go.Gk
namespace Go.Gk
open Go
section
variable {P : Program} {pan : List PanicEntry → Post} {Qn : Env → Post} {Ls L : List PHeap} {ρ : Env} {d : PHeap} {s : GS} {t : Nat} {tk : Bool}
/-- A sum that may wrap: it is told where it does not. -/
theorem w_addn {x y : Operand} {a b : Int} (ex : ev ρ x = .int .i64 a) (ey : ev ρ y = .int .i64 b) (h : ∀ u, (-9223372036854775808 ≤ a + b → a + b ≤ 9223372036854775807 → u = a + b) → gws P pan Qn s Ls (upd ρ t (.int .i64 u)) d L) :
    gws P pan Qn (.op tk ⟨some t, none, .bin .add x y⟩ s) Ls ρ d L :=
  w_bin (by rw [ex, ey]; simp [binV]) (h (IntKind.i64.wrap (a + b)) (fun h1 h2 => wrap64_eq h1 h2))
end
end Go.Gk
namespace Go.Gk
open Go
theorem get_patch {l vs : List Value} {o k : Nat} (h : o + vs.length ≤ l.length) : (patch l o vs)[k]? = if o ≤ k ∧ k < o + vs.length then vs[k - o]? else l[k]? := by
  unfold patch
  have hl : (l.take o).length = o := by rw [List.length_take]; omega
  by_cases h1 : k < o
  · rw [if_neg (by omega), List.append_assoc, List.getElem?_append_left (by omega), List.getElem?_take_of_lt h1]
  by_cases h2 : k < o + vs.length
  · rw [if_pos ⟨by omega, h2⟩, List.getElem?_append_left (by rw [List.length_append]; omega), List.getElem?_append_right (by omega), hl]
  · rw [if_neg (by omega), List.getElem?_append_right (by rw [List.length_append]; omega), List.getElem?_drop, List.length_append, hl]
    congr 1; omega
theorem patch_len {l vs : List Value} {o : Nat} (h : o + vs.length ≤ l.length) : (patch l o vs).length = l.length := by
  unfold patch; simp only [List.length_append, List.length_take, List.length_drop]; omega
theorem take_patch {l vs : List Value} {o n : Nat} (h : o + vs.length ≤ n) (hn : n ≤ l.length) : (patch l o vs).take n = patch (l.take n) o vs := by
  refine List.ext_getElem? fun k => ?_
  have hl : (l.take n).length = n := by rw [List.length_take]; omega
  rw [get_patch (by omega)]
  by_cases hk : k < n
  · rw [List.getElem?_take_of_lt hk, List.getElem?_take_of_lt hk, get_patch (by omega)]
  · rw [if_neg (by omega), List.getElem?_eq_none (by rw [List.length_take]; omega), List.getElem?_eq_none (by omega)]
theorem get_chunk {cs : List Value} {i sz k : Nat} : (chunk cs i sz)[k]? = if k < sz then cs[i * sz + k]? else none := by
  unfold chunk
  by_cases h : k < sz
  · rw [List.getElem?_take_of_lt h, List.getElem?_drop, if_pos h]
  · rw [if_neg h, List.getElem?_eq_none (by rw [List.length_take]; omega)]
theorem chunk_patch {cs vs : List Value} {i m sz n : Nat} (hl : cs.length = n * sz) (hv : vs.length = sz) (hm : m < n) : chunk (patch cs (m * sz) vs) i sz = if i = m then vs else chunk cs i sz := by
  have h1 : m * sz + sz ≤ n * sz := by have := Nat.mul_le_mul_right sz (show m + 1 ≤ n from hm); rwa [Nat.add_mul, Nat.one_mul] at this
  refine List.ext_getElem? fun k => ?_
  rw [get_chunk]
  by_cases e : i = m
  · subst e
    rw [if_pos rfl]
    by_cases hk : k < sz
    · rw [if_pos hk, get_patch (by omega), if_pos (by omega)]
      congr 1; omega
    · rw [if_neg hk, List.getElem?_eq_none (by omega)]
  · rw [if_neg e, get_chunk]
    by_cases hk : k < sz
    · rw [if_pos hk, if_pos hk, get_patch (by omega), if_neg]
      rintro ⟨a, b⟩
      rcases Nat.lt_or_gt_of_ne e with q | q
      · have := Nat.mul_le_mul_right sz (show i + 1 ≤ m from q); rw [Nat.add_mul, Nat.one_mul] at this; omega
      · have := Nat.mul_le_mul_right sz (show m + 1 ≤ i from q); rw [Nat.add_mul, Nat.one_mul] at this; omega
    · rw [if_neg hk, if_neg hk]
/-- At the end of a part: a block becomes data. -/
theorem w_doneF {P : Program} {pan : List PanicEntry → Post} {Qn : Env → Post} {Ls : List PHeap} {ρ : Env} {d g : PHeap} (h : ∀ d', Le d d' → Le g d' → Qn ρ d' Ls) : gws P pan Qn .done Ls ρ d [g] :=
  ⟨join d g, Ls, (Vs.perm List.perm_append_comm : Vs d (Ls ++ [g]) d ([g] ++ Ls)).trans Vs.freeze, h _ (Le.join_left _ _) (Le.join_right _ _)⟩
/-- An element of a slice in a block of its own may be written. -/
theorem GRow.openV {α : Type} {sz : Nat} {R : PHeap → List Value → α → Prop} {d : PHeap} {v : Value} {xs : List α} {h : PHeap} (_ : 0 < sz) (o : GRow sz R d v xs h) {m : Nat} (hm : m < xs.length) :
    ∃ b T l c, v = .slice (some ⟨b, 0, none⟩) xs.length c ∧ h = bx b T l ∧ m * sz + sz ≤ l.length ∧ ∀ cs' x, cs'.length = sz → R d cs' x → GRow sz R d v (xs.set m x) (bx b T (patch l (m * sz) cs')) := by
  obtain ⟨cs, ⟨h1, h2, ⟨rfl, h0, rfl⟩ | ⟨b, T, l, c, rfl, rfl, h3, h4, h5, h6⟩⟩, hr⟩ := o
  · omega
  · have hmz : m * sz + sz ≤ xs.length * sz := by have := Nat.mul_le_mul_right sz (show m + 1 ≤ xs.length from hm); rwa [Nat.add_mul, Nat.one_mul] at this
    have hcz : xs.length * sz ≤ c * sz := Nat.mul_le_mul_right sz h3
    refine ⟨b, T, l, c, rfl, rfl, by omega, fun cs' x hl hx => ⟨patch cs (m * sz) cs', ?_, fun i hi => ?_⟩⟩
    · have hp : (patch cs (m * sz) cs').length = cs.length := patch_len (by omega)
      refine ⟨by rw [hp, List.length_set, h1], by rw [List.length_set]; exact h2, .inr ⟨b, T, _, c, by rw [List.length_set], rfl, by rw [List.length_set]; exact h3, h4, by rw [patch_len (by omega)]; exact h5, ?_⟩⟩
      rw [hp, take_patch (by omega) (by omega), h6]
    · rw [chunk_patch h1 hl hm]
      rw [List.length_set] at hi
      by_cases e : i = m
      · subst e
        rw [if_pos rfl, List.getElem_set_self]; exact hx
      · rw [if_neg e, List.getElem_set_ne (fun q => e q.symm)]; exact hr i hi
end Go.Gk
end

section
/-
  The reference's map of keys and values, whatever they are.
-/
namespace Go.Gk.Val
open Go Go.Gk Go.Gk.Utf
attribute [local irreducible] gwp gws

def RMakeTopOk (T : PHeap → Prop) (P : Program) (f : FuncId) : Prop := ∀ {d : PHeap} {w1 w2 : Value} {ks : List (List UInt8)} {l : List V}, T d → RStrs d w1 ks → RVals d w2 l → ks.length ≤ 1000000000 → (∀ x ∈ l, depthV x ≤ 1000000000) →
  GCall P f [w1, w2] d [] (Ret fun r d' L' => L' = [] ∧ ∃ cs', r = .tuple #[.agg cs'.toArray, .int .i64 (makeTop ks l).2] ∧ RVal d' cs' (makeTop ks l).1)
def g_thimbleref03_Make (f_thimbleref02_Right f_thimbleref03_Right f_thimbleref03_Depth : Nat) : GFun :=
 ⟨131, [(.cell 4 (some 6)), (.tmp 5)],
 (.seq
 (.reg false (.op false ⟨(some 4), none, (.alo (.agg #[(.int .i64 0), (.int .i64 0), (.int .i64 0), (strV []), (.slice none 0 0), (.slice none 0 0)]))⟩
  (.op false ⟨(some 5), none, (.mv (.const (.int .i64 0)))⟩ .done)))
 (.seq (.seq
 (.reg false (.op false ⟨(some 11), none, (.mv (.tmp 0))⟩
  (.op false ⟨(some 12), none, (.len (.tmp 11))⟩
  (.op false ⟨(some 13), none, (.mv (.tmp 1))⟩
  (.op false ⟨(some 14), none, (.len (.tmp 13))⟩
  (.op false ⟨(some 15), none, (.bin .neq (.tmp 12) (.tmp 14))⟩ .done)))))) (.cond (.tmp 15)
 (.seq
 (.reg false (.op false ⟨(some 16), none, (.bld [(0, 1), (1, 2), (3, 1), (4, 1), (5, 1)] [(.int .i64 0), (.int .i64 0), (.int .i64 0), (strV []), (.slice none 0 0), (.slice none 0 0)] [])⟩
  (.op false ⟨none, none, (.st 6 (.tmp 4) (.tmp 16))⟩
  (.op false ⟨(some 5), none, (.mv (.const (.int .i64 2)))⟩ .done)))) .ret) .skip))
 (.seq (.seq
 (.reg false (.op false ⟨(some 6), none, (.mv (.const (.int .i64 0)))⟩ .done)) (.block 0 (.loop
 (.seq (.seq
 (.reg false (.op false ⟨(some 17), none, (.mv (.tmp 6))⟩
  (.op false ⟨(some 18), none, (.mv (.tmp 0))⟩
  (.op false ⟨(some 19), none, (.len (.tmp 18))⟩
  (.op false ⟨(some 20), none, (.bin .lss (.tmp 17) (.tmp 19))⟩ .done))))) (.cond (.tmp 20) .skip (.exit 0)))
 (.seq (.block 1
 (.seq
 (.reg false (.op false ⟨(some 23), none, (.mv (.tmp 0))⟩
  (.op false ⟨(some 24), none, (.mv (.tmp 6))⟩
  (.op false ⟨(some 25), none, (.idx 1 (.tmp 23) (.tmp 24))⟩
  (.op false ⟨(some 26), none, (.ld none (.tmp 25))⟩
  (.op false ⟨(some 27), none, (.call f_thimbleref02_Right [(.tmp 26)])⟩
  (.op false ⟨(some 28), none, (.un .not (.tmp 27))⟩ .done))))))) (.cond (.tmp 28)
 (.seq
 (.reg false (.op false ⟨(some 29), none, (.bld [(0, 1), (1, 2), (3, 1), (4, 1), (5, 1)] [(.int .i64 0), (.int .i64 0), (.int .i64 0), (strV []), (.slice none 0 0), (.slice none 0 0)] [])⟩
  (.op false ⟨none, none, (.st 6 (.tmp 4) (.tmp 29))⟩
  (.op false ⟨(some 5), none, (.mv (.const (.int .i64 30)))⟩ .done)))) .ret) .skip)))
 (.reg false (.op false ⟨(some 21), none, (.mv (.tmp 6))⟩
  (.op false ⟨(some 22), none, (.bin .add (.tmp 21) (.const (.int .i64 1)))⟩
  (.op false ⟨(some 6), none, (.mv (.tmp 22))⟩ .done)))))))))
 (.seq
 (.reg false (.op false ⟨(some 30), none, (.bld [(0, 1), (1, 2), (3, 1), (4, 1), (5, 1)] [(.int .i64 0), (.int .i64 0), (.int .i64 0), (strV []), (.slice none 0 0), (.slice none 0 0)] [(0, (.const (.int .i64 6)))])⟩
  (.op false ⟨(some 7), none, (.alo (.agg #[(.int .i64 0), (.int .i64 0), (.int .i64 0), (strV []), (.slice none 0 0), (.slice none 0 0)]))⟩
  (.op false ⟨none, none, (.st 6 (.tmp 7) (.tmp 30))⟩ .done))))
 (.seq (.seq
 (.reg false (.op false ⟨(some 8), none, (.mv (.const (.int .i64 0)))⟩ .done)) (.block 2 (.loop
 (.seq (.seq
 (.reg false (.op false ⟨(some 31), none, (.mv (.tmp 8))⟩
  (.op false ⟨(some 32), none, (.mv (.tmp 0))⟩
  (.op false ⟨(some 33), none, (.len (.tmp 32))⟩
  (.op false ⟨(some 34), none, (.bin .lss (.tmp 31) (.tmp 33))⟩ .done))))) (.cond (.tmp 34) .skip (.exit 2)))
 (.seq (.block 3
 (.seq
 (.reg false (.op false ⟨(some 37), none, (.mv (.tmp 1))⟩
  (.op false ⟨(some 38), none, (.mv (.tmp 8))⟩
  (.op false ⟨(some 39), none, (.idx 6 (.tmp 37) (.tmp 38))⟩
  (.op false ⟨(some 40), none, (.ld (some 6) (.tmp 39))⟩
  (.op false ⟨(some 41), none, (.call f_thimbleref03_Right [(.tmp 40)])⟩
  (.op false ⟨(some 9), none, (.mv (.tmp 41))⟩ .done)))))))
 (.seq (.seq
 (.reg false (.op false ⟨(some 42), none, (.mv (.tmp 9))⟩
  (.op false ⟨(some 43), none, (.bin .neq (.tmp 42) (.const (.int .i64 0)))⟩ .done))) (.cond (.tmp 43)
 (.seq
 (.reg false (.op false ⟨(some 44), none, (.bld [(0, 1), (1, 2), (3, 1), (4, 1), (5, 1)] [(.int .i64 0), (.int .i64 0), (.int .i64 0), (strV []), (.slice none 0 0), (.slice none 0 0)] [])⟩
  (.op false ⟨(some 45), none, (.mv (.tmp 9))⟩
  (.op false ⟨none, none, (.st 6 (.tmp 4) (.tmp 44))⟩
  (.op false ⟨(some 5), none, (.mv (.tmp 45))⟩ .done))))) .ret) .skip))
 (.seq
 (.reg false (.op false ⟨(some 10), none, (.mv (.const (.int .i64 0)))⟩ .done))
 (.seq (.block 4 (.loop
 (.seq (.seq
 (.reg true (.op true ⟨(some 46), none, (.mv (.tmp 10))⟩
  (.op true ⟨(some 47), none, (.fld 5 (.tmp 7))⟩
  (.op true ⟨(some 48), none, (.ld none (.tmp 47))⟩
  (.op true ⟨(some 49), none, (.len (.tmp 48))⟩
  (.op true ⟨(some 50), none, (.bin .lss (.tmp 46) (.tmp 49))⟩
  (.op true ⟨(some 51), none, (.mv (.tmp 50))⟩
  (.op true ⟨(some 52), (some (51, true)), (.fld 5 (.tmp 7))⟩
  (.op true ⟨(some 53), (some (51, true)), (.ld none (.tmp 52))⟩
  (.op true ⟨(some 54), (some (51, true)), (.mv (.tmp 10))⟩
  (.op true ⟨(some 55), (some (51, true)), (.idx 1 (.tmp 53) (.tmp 54))⟩
  (.op true ⟨(some 56), (some (51, true)), (.ld none (.tmp 55))⟩
  (.op true ⟨(some 57), (some (51, true)), (.mv (.tmp 0))⟩
  (.op true ⟨(some 58), (some (51, true)), (.mv (.tmp 8))⟩
  (.op true ⟨(some 59), (some (51, true)), (.idx 1 (.tmp 57) (.tmp 58))⟩
  (.op true ⟨(some 60), (some (51, true)), (.ld none (.tmp 59))⟩
  (.op true ⟨(some 61), (some (51, true)), (.bin .lss (.tmp 56) (.tmp 60))⟩
  (.op true ⟨(some 62), none, (.pick (.tmp 51) (.tmp 61) (.const (.bool false)))⟩ .done)))))))))))))))))) (.cond (.tmp 62) .skip (.exit 4))) (.block 5
 (.reg false (.op false ⟨(some 63), none, (.mv (.tmp 10))⟩
  (.op false ⟨(some 64), none, (.bin .add (.tmp 63) (.const (.int .i64 1)))⟩
  (.op false ⟨(some 10), none, (.mv (.tmp 64))⟩ .done))))))))
 (.seq (.seq
 (.reg true (.op true ⟨(some 65), none, (.mv (.tmp 10))⟩
  (.op true ⟨(some 66), none, (.fld 5 (.tmp 7))⟩
  (.op true ⟨(some 67), none, (.ld none (.tmp 66))⟩
  (.op true ⟨(some 68), none, (.len (.tmp 67))⟩
  (.op true ⟨(some 69), none, (.bin .eql (.tmp 65) (.tmp 68))⟩
  (.op true ⟨(some 70), none, (.mv (.tmp 69))⟩
  (.op true ⟨(some 71), (some (70, false)), (.fld 5 (.tmp 7))⟩
  (.op true ⟨(some 72), (some (70, false)), (.ld none (.tmp 71))⟩
  (.op true ⟨(some 73), (some (70, false)), (.mv (.tmp 10))⟩
  (.op true ⟨(some 74), (some (70, false)), (.idx 1 (.tmp 72) (.tmp 73))⟩
  (.op true ⟨(some 75), (some (70, false)), (.ld none (.tmp 74))⟩
  (.op true ⟨(some 76), (some (70, false)), (.mv (.tmp 0))⟩
  (.op true ⟨(some 77), (some (70, false)), (.mv (.tmp 8))⟩
  (.op true ⟨(some 78), (some (70, false)), (.idx 1 (.tmp 76) (.tmp 77))⟩
  (.op true ⟨(some 79), (some (70, false)), (.ld none (.tmp 78))⟩
  (.op true ⟨(some 80), (some (70, false)), (.bin .neq (.tmp 75) (.tmp 79))⟩
  (.op true ⟨(some 81), none, (.pick (.tmp 70) (.const (.bool true)) (.tmp 80))⟩ .done)))))))))))))))))) (.cond (.tmp 81)
 (.seq
 (.reg true (.op true ⟨(some 83), none, (.fld 5 (.tmp 7))⟩
  (.op true ⟨(some 84), none, (.ld none (.tmp 83))⟩
  (.op true ⟨(some 85), none, (.mv (.tmp 10))⟩
  (.op true ⟨(some 86), none, (.sl 1 (.tmp 84) none (some (.tmp 85)) none)⟩
  (.op true ⟨(some 88), none, (.mv (.tmp 0))⟩
  (.op true ⟨(some 89), none, (.mv (.tmp 8))⟩
  (.op true ⟨(some 90), none, (.idx 1 (.tmp 88) (.tmp 89))⟩
  (.op true ⟨(some 91), none, (.ld none (.tmp 90))⟩
  (.op true ⟨(some 94), none, (.fld 5 (.tmp 7))⟩
  (.op true ⟨(some 95), none, (.ld none (.tmp 94))⟩
  (.op true ⟨(some 96), none, (.mv (.tmp 10))⟩
  (.op true ⟨(some 97), none, (.sl 1 (.tmp 95) (some (.tmp 96)) none none)⟩ (.par (.op false ⟨(some 92), none, (.bsl 1 1 [(strV [])] [(0, (.tmp 91))])⟩ .done) (.op false ⟨(some 82), none, (.bsl 0 1 [(strV [])] [])⟩
  (.op false ⟨(some 87), none, (.app 1 16 [(strV [])] (.tmp 82) (.tmp 86))⟩ .done)) (.op false ⟨(some 93), none, (.app 1 16 [(strV [])] (.tmp 87) (.tmp 92))⟩
  (.op false ⟨(some 98), none, (.app 1 16 [(strV [])] (.tmp 93) (.tmp 97))⟩
  (.op true ⟨(some 99), none, (.fld 5 (.tmp 7))⟩
  (.bar (.op false ⟨none, none, (.st 1 (.tmp 99) (.tmp 98))⟩ .done)))))))))))))))))))
 (.reg true (.op true ⟨(some 101), none, (.fld 4 (.tmp 7))⟩
  (.op true ⟨(some 102), none, (.ld none (.tmp 101))⟩
  (.op true ⟨(some 103), none, (.mv (.tmp 10))⟩
  (.op true ⟨(some 104), none, (.sl 6 (.tmp 102) none (some (.tmp 103)) none)⟩
  (.op true ⟨(some 106), none, (.mv (.tmp 1))⟩
  (.op true ⟨(some 107), none, (.mv (.tmp 8))⟩
  (.op true ⟨(some 108), none, (.idx 6 (.tmp 106) (.tmp 107))⟩
  (.op true ⟨(some 109), none, (.ld (some 6) (.tmp 108))⟩
  (.op true ⟨(some 112), none, (.fld 4 (.tmp 7))⟩
  (.op true ⟨(some 113), none, (.ld none (.tmp 112))⟩
  (.op true ⟨(some 114), none, (.mv (.tmp 10))⟩
  (.op true ⟨(some 115), none, (.sl 6 (.tmp 113) (some (.tmp 114)) none none)⟩ (.par (.op false ⟨(some 110), none, (.bsl 1 6 [(.int .i64 0), (.int .i64 0), (.int .i64 0), (strV []), (.slice none 0 0), (.slice none 0 0)] [(0, (.tmp 109))])⟩ .done) (.op false ⟨(some 100), none, (.bsl 0 6 [(.int .i64 0), (.int .i64 0), (.int .i64 0), (strV []), (.slice none 0 0), (.slice none 0 0)] [])⟩
  (.op false ⟨(some 105), none, (.app 6 88 [(.int .i64 0), (.int .i64 0), (.int .i64 0), (strV []), (.slice none 0 0), (.slice none 0 0)] (.tmp 100) (.tmp 104))⟩ .done)) (.op false ⟨(some 111), none, (.app 6 88 [(.int .i64 0), (.int .i64 0), (.int .i64 0), (strV []), (.slice none 0 0), (.slice none 0 0)] (.tmp 105) (.tmp 110))⟩
  (.op false ⟨(some 116), none, (.app 6 88 [(.int .i64 0), (.int .i64 0), (.int .i64 0), (strV []), (.slice none 0 0), (.slice none 0 0)] (.tmp 111) (.tmp 115))⟩
  (.op true ⟨(some 117), none, (.fld 4 (.tmp 7))⟩
  (.bar (.op false ⟨none, none, (.st 1 (.tmp 117) (.tmp 116))⟩ .done)))))))))))))))))))) .skip))
 (.reg true (.op true ⟨(some 118), none, (.fld 4 (.tmp 7))⟩
  (.op true ⟨(some 119), none, (.ld none (.tmp 118))⟩
  (.op true ⟨(some 120), none, (.mv (.tmp 10))⟩
  (.op true ⟨(some 121), none, (.mv (.tmp 1))⟩
  (.op true ⟨(some 122), none, (.mv (.tmp 8))⟩
  (.op true ⟨(some 123), none, (.idx 6 (.tmp 121) (.tmp 122))⟩
  (.op true ⟨(some 124), none, (.ld (some 6) (.tmp 123))⟩
  (.op true ⟨(some 125), none, (.idx 6 (.tmp 119) (.tmp 120))⟩
  (.bar (.op false ⟨none, none, (.st 6 (.tmp 125) (.tmp 124))⟩ .done)))))))))))))))))
 (.reg false (.op false ⟨(some 35), none, (.mv (.tmp 8))⟩
  (.op false ⟨(some 36), none, (.bin .add (.tmp 35) (.const (.int .i64 1)))⟩
  (.op false ⟨(some 8), none, (.mv (.tmp 36))⟩ .done)))))))))
 (.seq (.seq
 (.reg false (.op false ⟨(some 126), none, (.ld (some 6) (.tmp 7))⟩
  (.op false ⟨(some 127), none, (.call f_thimbleref03_Depth [(.tmp 126)])⟩
  (.op false ⟨(some 128), none, (.bin .gtr (.tmp 127) (.const (.int .i64 48)))⟩ .done)))) (.cond (.tmp 128)
 (.seq
 (.reg false (.op false ⟨(some 129), none, (.bld [(0, 1), (1, 2), (3, 1), (4, 1), (5, 1)] [(.int .i64 0), (.int .i64 0), (.int .i64 0), (strV []), (.slice none 0 0), (.slice none 0 0)] [])⟩
  (.op false ⟨none, none, (.st 6 (.tmp 4) (.tmp 129))⟩
  (.op false ⟨(some 5), none, (.mv (.const (.int .i64 31)))⟩ .done)))) .ret) .skip))
 (.seq
 (.reg false (.op false ⟨(some 130), none, (.ld (some 6) (.tmp 7))⟩
  (.op false ⟨none, none, (.st 6 (.tmp 4) (.tmp 130))⟩
  (.op false ⟨(some 5), none, (.mv (.const (.int .i64 0)))⟩ .done)))) .ret)))))))⟩

set_option maxHeartbeats 4000000 in
theorem maket_ok {T : PHeap → Prop} (hTm : ∀ {d d' : PHeap}, T d → Le d d' → T d') {P : Program} {f f1 f2 f3 : FuncId} (hd : decp P f = some (g_thimbleref03_Make f1 f2 f3)) (h1 : QuoteOk T P f1) (h2 : RRightOk T P f2) (h3 : RDepthOk P f3) : RMakeTopOk T P f := by
  intro d w1 w2 ks l ht hks hl hb hright
  refine GCall_of hd (Nat.le_of_ble_eq_true rfl) ?_
  obtain ⟨ka, kc, rfl⟩ := RSl.val hks
  obtain ⟨la, lc, rfl⟩ := RSl.val hl
  have hks0 : RSl 1 RStr d (.slice ka ks.length kc) ks := hks
  have hl0 : RSl 6 RVal d (.slice la l.length lc) l := hl
  show gwp P _ _ _ _ _
  by_cases hlen : ks.length ≠ l.length
  · have hk0 : (ks.length : Int) ≠ l.length := by omega
    rw [makeTop, if_pos hlen]
    (apply w_sq; apply w_reg; apply w_alo; intro _ _; apply w_mvi; rfl; apply w_done0; apply w_sq; apply w_sq; apply w_reg; apply w_mvs; rfl; apply w_len; rfl; apply w_mvs; rfl; apply w_len; rfl; apply w_neq; rfl; rfl; apply w_done0; refine w_ifdT rfl (by omega) ?_; apply w_sq; apply w_reg; apply w_bvZ)
    rename_i b4 T4
    refine w_stE 0 zVal rfl rfl rfl rfl (Nat.le_of_ble_eq_true rfl) rfl rfl ?_
    (apply w_mvi; rfl; apply w_done0; apply w_ret)
    exact finVDE 0 rfl rfl rfl RVal.zero
  have hlen : ks.length = l.length := by omega
  have hk0 : (ks.length : Int) = l.length := by omega
  rw [makeTop, if_neg (by omega)]
  (apply w_sq; apply w_reg; apply w_alo; intro _ _; apply w_mvi; rfl; apply w_done0; apply w_sq; apply w_sq; apply w_reg; apply w_mvs; rfl; apply w_len; rfl; apply w_mvs; rfl; apply w_len; rfl; apply w_neq; rfl; rfl; apply w_done0; refine w_ifdF rfl (by omega) ?_; apply w_skip; apply w_sq; apply w_sq; apply w_reg; apply w_mvi; rfl; apply w_done0; apply w_block)
  rename_i b4 T4
  refine w_loopN (α := Nat) (fun i => [(0, .slice ka ks.length kc), (1, .slice la l.length lc), (4, .pointer (some ⟨b4, 0, none⟩)), (6, .int .i64 i)]) (fun _ => [bx b4 T4 zVal])
    (fun i => i ≤ ks.length ∧ (ks.take i).all u8 = true) (fun i => ks.length - i) 0 ⟨rfl, rfl, rfl, rfl, trivial⟩ rfl ⟨Nat.zero_le _, rfl⟩ ?_
  rintro i ρ ⟨hi, hall⟩
  by_cases hc : i < ks.length
  · (apply w_sq; apply w_sq; apply w_reg; apply w_mvi; rfl; apply w_mvs; rfl; apply w_len; rfl; apply w_lss; rfl; rfl; apply w_done0; refine w_ifdT rfl (by omega) ?_; apply w_skip; apply w_sq; apply w_block; apply w_sq; apply w_reg; apply w_mvs; rfl; apply w_mvi; rfl; refine w_idxR (sz := 1) (R := RStr) (by rfl) (by assumption) (by rfl) rfl (by omega) ?_; rintro _ _ _ _ _ ⟨rfl, _⟩; apply w_ld; rfl; exact hc_ds0 (by assumption) rfl)
    refine w_pure rfl (h1 ht (by assumption)) ?_
    cases hq : u8 ks[i] with
    | false =>
      have hno : ks.all u8 = false := by
        rw [← Bool.not_eq_true, List.all_eq_true]
        intro h
        rw [h _ (List.getElem_mem hc)] at hq; cases hq
      rw [if_pos hno]
      (apply w_not; rfl; apply w_done0; apply w_ifT; rfl; apply w_sq; apply w_reg; apply w_bvZ)
      refine w_stE 0 zVal rfl rfl rfl rfl (Nat.le_of_ble_eq_true rfl) rfl rfl ?_
      (apply w_mvi; rfl; apply w_done0; apply w_ret)
      exact finVDE 0 rfl rfl rfl RVal.zero
    | true =>
      (apply w_not; rfl; apply w_done0; apply w_ifF; rfl; apply w_skip; apply w_reg; apply w_mvi; rfl; apply w_add; rfl; rfl; omega; omega; apply w_mvi; rfl; apply w_done0)
      exact ⟨i + 1, by omega, ⟨rfl, rfl, rfl, int_eq (by omega), trivial⟩, rfl, rfl, hc, by rw [List.take_succ_eq_append_getElem hc, List.all_append, hall]; simp [hq]⟩
  obtain rfl : i = ks.length := by omega
  rw [List.take_length] at hall
  have hu : ∀ k ∈ ks, u8 k = true := List.all_eq_true.1 hall
  rw [if_neg (by rw [hall]; simp)]
  (apply w_sq; apply w_sq; apply w_reg; apply w_mvi; rfl; apply w_mvs; rfl; apply w_len; rfl; apply w_lss; rfl; rfl; apply w_done0; refine w_ifdF rfl (by omega) ?_; apply w_exit; apply w_sq; apply w_reg; apply w_bvK; rfl; apply w_alo; intro _ _)
  rename_i b7 T7
  refine w_vs d [bx b7 T7 zVal, bx b4 T4 zVal, emp] (Vs.emp.trans (Vs.pick [1, 2, 0] rfl)) ?_
  refine w_stE 0 [.int .i64 6, .int .i64 0, .int .i64 0, strV [], .slice none 0 0, .slice none 0 0] rfl rfl rfl rfl (Nat.le_of_ble_eq_true rfl) rfl rfl ?_
  (apply w_done0; apply w_sq; apply w_sq; apply w_reg; apply w_mvi; rfl; apply w_done0; apply w_block)
  refine w_loopS (α := Nat) (fun i => [(0, .slice ka ks.length kc), (1, .slice la l.length lc), (4, .pointer (some ⟨b4, 0, none⟩)), (7, .pointer (some ⟨b7, 0, none⟩)), (8, .int .i64 i)])
    (fun i d' L' => Le d d' ∧ i ≤ ks.length ∧ (∀ j (h1 : j < i) (h2 : j < l.length), rightV l[j] = 0) ∧ ∃ ra rc qa qc h, RSl 1 RStr d' (.slice qa (makeL ks l i).1.length qc) (makeL ks l i).1 ∧ GRow 6 RVal d' (.slice ra (makeL ks l i).2.length rc) (makeL ks l i).2 h ∧
      L' = [bx b7 T7 [.int .i64 6, .int .i64 0, .int .i64 0, strV [], .slice ra (makeL ks l i).2.length rc, .slice qa (makeL ks l i).1.length qc], bx b4 T4 zVal, h])
    (fun i => ks.length - i) 0 ⟨rfl, rfl, rfl, rfl, rfl, trivial⟩ ⟨Le.refl _, Nat.zero_le _, fun j h => absurd h (Nat.not_lt_zero j), none, 0, none, 0, emp, RSl.nil, GRow.nil, rfl⟩ ?_
  rintro i ρ d1 L' ⟨hl1, hi, hrt, ra, rc, qa, qc, h, hok, hol, hL⟩
  subst hL
  have hks1 : RSl 1 RStr d1 (.slice ka ks.length kc) ks := RStrs.mono hks hl1
  have hlv1 : RSl 6 RVal d1 (.slice la l.length lc) l := RVals.mono hl hl1
  have hml := make_len ks l i
  obtain ⟨oks, ol, hM⟩ : ∃ oks ol, makeL ks l i = (oks, ol) := ⟨_, _, rfl⟩
  rw [hM] at hok hol hml ⊢
  simp only at hok hol hml ⊢
  by_cases hc : i < ks.length
  · have hcl : i < l.length := by omega
    have hM1 : makeL ks l (i + 1) = insK (oks, ol) ks[i] l[i] := by rw [makeL, hM]; simp [List.getD, hc, hcl]
    have hlow := lowK_le oks ks[i]
    (apply w_sq; apply w_sq; apply w_reg; apply w_mvi; rfl; apply w_mvs; rfl; apply w_len; rfl; apply w_lss; rfl; rfl; apply w_done0; refine w_ifdT rfl (by omega) ?_; apply w_skip; apply w_sq; apply w_block; apply w_sq; apply w_reg; apply w_mvs; rfl; apply w_mvi; rfl; refine w_idxR (sz := 6) (R := RVal) (by rfl) (by assumption) (by rfl) rfl (by omega) ?_; rintro _ _ _ _ _ _; apply w_ldd; rfl; assumption; assumption)
    rename_i hcs hD hR
    refine w_pure rfl (h2 (hTm ht hl1) hR (hright _ (List.getElem_mem hcl))) ?_
    by_cases hr0 : rightV l[i] ≠ 0
    · have hfw := first_at hcl (fun j hj => hrt j hj (by omega)) hr0
      rw [if_pos (by rw [hfw]; exact hr0), hfw]
      (apply w_mvi; rfl; apply w_done0; apply w_sq; apply w_sq; apply w_reg; apply w_mvi; rfl; apply w_neq; rfl; rfl; apply w_done0; refine w_ifdT rfl (by omega) ?_; apply w_sq; apply w_reg; apply w_bvZ; apply w_mvi; rfl)
      refine w_stE 1 zVal rfl rfl rfl rfl (Nat.le_of_ble_eq_true rfl) rfl rfl ?_
      (apply w_mvi; rfl; apply w_done0; apply w_ret)
      exact finVDE 1 rfl rfl rfl RVal.zero
    have hr0 : rightV l[i] = 0 := by omega
    rw [hr0]
    (apply w_mvi; rfl; apply w_done0; apply w_sq; apply w_sq; apply w_reg; apply w_mvi; rfl; apply w_neq; rfl; rfl; apply w_done0; refine w_ifdF rfl (by omega) ?_)
    apply w_skip
    apply w_sq; apply w_reg
    (apply w_mvi; rfl; apply w_done0)
    refine w_mid (fun ρ d' L' => d' = d1 ∧ SlotsAre ρ [(0, .slice ka ks.length kc), (1, .slice la l.length lc), (4, .pointer (some ⟨b4, 0, none⟩)), (7, .pointer (some ⟨b7, 0, none⟩)), (8, .int .i64 i), (10, .int .i64 (lowK oks ks[i] : Nat))] ∧ L' = [bx b7 T7 [.int .i64 6, .int .i64 0, .int .i64 0, strV [], .slice ra ol.length rc, .slice qa oks.length qc], bx b4 T4 zVal, h]) ?_ ?_
    · apply w_block
      refine w_loopN (α := Nat) (fun j => [(0, .slice ka ks.length kc), (1, .slice la l.length lc), (4, .pointer (some ⟨b4, 0, none⟩)), (7, .pointer (some ⟨b7, 0, none⟩)), (8, .int .i64 i), (10, .int .i64 j)]) (fun _ => [bx b7 T7 [.int .i64 6, .int .i64 0, .int .i64 0, strV [], .slice ra ol.length rc, .slice qa oks.length qc], bx b4 T4 zVal, h]) (fun j => j ≤ lowK oks ks[i]) (fun j => oks.length - j) 0 ⟨rfl, rfl, rfl, rfl, rfl, rfl, trivial⟩ rfl (Nat.zero_le _) ?_
      rintro j ρ hj
      by_cases hjl : j < oks.length
      · by_cases hjk : j < lowK oks ks[i]
        · have hbl := low_lt hjk hjl
          (apply w_sq; apply w_sq; apply w_drawn; apply w_mvi; rfl; apply w_fld; rfl; apply w_ld; rfl; exact hc_i 0 rfl rfl; apply w_len; rfl; apply w_lss; rfl; rfl; apply w_mvb; rfl; refine w_gdT rfl (by omega) ?_; apply w_gT; rfl; apply w_fld; rfl; apply w_gT; rfl; apply w_ld; rfl; exact hc_i 0 rfl rfl; apply w_gT; rfl; apply w_mvi; rfl; apply w_gT; rfl; refine w_idxR (sz := 1) (R := RStr) (by rfl) (by assumption) (by rfl) rfl (by omega) ?_; rintro _ _ _ _ _ ⟨rfl, _⟩; apply w_gT; rfl; apply w_ld; rfl; exact hc_ds0 (by assumption) rfl; apply w_gT; rfl; apply w_mvs; rfl; apply w_gT; rfl; apply w_mvi; rfl; apply w_gT; rfl; refine w_idxR (sz := 1) (R := RStr) (by rfl) (by assumption) (by rfl) rfl (by omega) ?_; rintro _ _ _ _ _ ⟨rfl, _⟩; apply w_gT; rfl; apply w_ld; rfl; exact hc_ds0 (by assumption) rfl; apply w_gT; rfl; apply w_slt; rfl; rfl; apply w_pickTb; rfl; rfl; apply w_done; apply w_ifbT; rfl; (with_reducible assumption); apply w_skip; apply w_block; apply w_reg; apply w_mvi; rfl; apply w_add; rfl; rfl; omega; omega; apply w_mvi; rfl; apply w_done0)
          exact ⟨j + 1, by omega, ⟨rfl, rfl, rfl, rfl, rfl, int_eq (by omega), trivial⟩, rfl, rfl, hjk⟩
        · obtain rfl : j = lowK oks ks[i] := by omega
          have hbl := low_at hjl
          (apply w_sq; apply w_sq; apply w_drawn; apply w_mvi; rfl; apply w_fld; rfl; apply w_ld; rfl; exact hc_i 0 rfl rfl; apply w_len; rfl; apply w_lss; rfl; rfl; apply w_mvb; rfl; refine w_gdT rfl (by omega) ?_; apply w_gT; rfl; apply w_fld; rfl; apply w_gT; rfl; apply w_ld; rfl; exact hc_i 0 rfl rfl; apply w_gT; rfl; apply w_mvi; rfl; apply w_gT; rfl; refine w_idxR (sz := 1) (R := RStr) (by rfl) (by assumption) (by rfl) rfl (by omega) ?_; rintro _ _ _ _ _ ⟨rfl, _⟩; apply w_gT; rfl; apply w_ld; rfl; exact hc_ds0 (by assumption) rfl; apply w_gT; rfl; apply w_mvs; rfl; apply w_gT; rfl; apply w_mvi; rfl; apply w_gT; rfl; refine w_idxR (sz := 1) (R := RStr) (by rfl) (by assumption) (by rfl) rfl (by omega) ?_; rintro _ _ _ _ _ ⟨rfl, _⟩; apply w_gT; rfl; apply w_ld; rfl; exact hc_ds0 (by assumption) rfl; apply w_gT; rfl; apply w_slt; rfl; rfl; apply w_pickTb; rfl; rfl; apply w_done; apply w_ifbF; rfl; (with_reducible assumption); apply w_exit)
          exact ⟨rfl, ⟨rfl, rfl, rfl, rfl, rfl, rfl, trivial⟩, rfl⟩
      · obtain rfl : j = lowK oks ks[i] := by omega
        (apply w_sq; apply w_sq; apply w_drawn; apply w_mvi; rfl; apply w_fld; rfl; apply w_ld; rfl; exact hc_i 0 rfl rfl; apply w_len; rfl; apply w_lss; rfl; rfl; apply w_mvb; rfl; refine w_gdF rfl (by omega) ?_; apply w_gF; rfl; apply w_gF; rfl; apply w_gF; rfl; apply w_gF; rfl; apply w_gF; rfl; apply w_gF; rfl; apply w_gF; rfl; apply w_gF; rfl; apply w_gF; rfl; apply w_gF; rfl; apply w_pickFb; rfl; rfl; apply w_done; apply w_ifF; rfl; apply w_exit)
        exact ⟨rfl, ⟨rfl, rfl, rfl, rfl, rfl, rfl, trivial⟩, rfl⟩
    rintro ρ d2 L' ⟨hdd, hsl, hL⟩
    subst hdd; subst hL
    refine gwp_slots _ hsl ?_
    clear hsl
    refine w_mid (fun ρ d3 L' => Le d2 d3 ∧ SlotsAre ρ [(0, .slice ka ks.length kc), (1, .slice la l.length lc), (4, .pointer (some ⟨b4, 0, none⟩)), (7, .pointer (some ⟨b7, 0, none⟩)), (8, .int .i64 i), (10, .int .i64 (lowK oks ks[i] : Nat))] ∧ ∃ ra rc qa qc h ol', RSl 1 RStr d3 (.slice qa (insK (oks, ol) ks[i] l[i]).1.length qc) (insK (oks, ol) ks[i] l[i]).1 ∧
      GRow 6 RVal d3 (.slice ra ol'.length rc) ol' h ∧ lowK oks ks[i] < ol'.length ∧ ol'.set (lowK oks ks[i]) l[i] = (insK (oks, ol) ks[i] l[i]).2 ∧
      L' = [bx b7 T7 [.int .i64 6, .int .i64 0, .int .i64 0, strV [], .slice ra ol'.length rc, .slice qa (insK (oks, ol) ks[i] l[i]).1.length qc], bx b4 T4 zVal, h]) ?_ ?_
    · refine w_mid (fun ρ d' L' => d' = d2 ∧ SlotsAre ρ [(0, .slice ka ks.length kc), (1, .slice la l.length lc), (4, .pointer (some ⟨b4, 0, none⟩)), (7, .pointer (some ⟨b7, 0, none⟩)), (8, .int .i64 i), (10, .int .i64 (lowK oks ks[i] : Nat)), (81, .bool (!decide (oks[lowK oks ks[i]]? = some ks[i])))] ∧ L' = [bx b7 T7 [.int .i64 6, .int .i64 0, .int .i64 0, strV [], .slice ra ol.length rc, .slice qa oks.length qc], bx b4 T4 zVal, h]) ?_ ?_
      · by_cases hjl : lowK oks ks[i] < oks.length
        · by_cases he : oks[lowK oks ks[i]] = ks[i]
          · have e81 : (!decide (oks[lowK oks ks[i]]? = some ks[i])) = false := by simp [hjl, he]
            rw [e81]
            (apply w_drawn; apply w_mvi; rfl; apply w_fld; rfl; apply w_ld; rfl; exact hc_i 0 rfl rfl; apply w_len; rfl; apply w_eql; rfl; rfl; apply w_mvb; rfl; refine w_gdF rfl (by omega) ?_; apply w_gT; rfl; apply w_fld; rfl; apply w_gT; rfl; apply w_ld; rfl; exact hc_i 0 rfl rfl; apply w_gT; rfl; apply w_mvi; rfl; apply w_gT; rfl; refine w_idxR (sz := 1) (R := RStr) (by rfl) (by assumption) (by rfl) rfl (by omega) ?_; rintro _ _ _ _ _ ⟨rfl, _⟩; apply w_gT; rfl; apply w_ld; rfl; exact hc_ds0 (by assumption) rfl; apply w_gT; rfl; apply w_mvs; rfl; apply w_gT; rfl; apply w_mvi; rfl; apply w_gT; rfl; refine w_idxR (sz := 1) (R := RStr) (by rfl) (by assumption) (by rfl) rfl (by omega) ?_; rintro _ _ _ _ _ ⟨rfl, _⟩; apply w_gT; rfl; apply w_ld; rfl; exact hc_ds0 (by assumption) rfl; apply w_gT; rfl; apply w_sne; rfl; rfl; apply w_pickFb; rfl; rfl; apply w_done)
            exact ⟨rfl, ⟨rfl, rfl, rfl, rfl, rfl, rfl, by simp [upd, updL, he], trivial⟩, rfl⟩
          · have e81 : (!decide (oks[lowK oks ks[i]]? = some ks[i])) = true := by simp [hjl, he]
            rw [e81]
            (apply w_drawn; apply w_mvi; rfl; apply w_fld; rfl; apply w_ld; rfl; exact hc_i 0 rfl rfl; apply w_len; rfl; apply w_eql; rfl; rfl; apply w_mvb; rfl; refine w_gdF rfl (by omega) ?_; apply w_gT; rfl; apply w_fld; rfl; apply w_gT; rfl; apply w_ld; rfl; exact hc_i 0 rfl rfl; apply w_gT; rfl; apply w_mvi; rfl; apply w_gT; rfl; refine w_idxR (sz := 1) (R := RStr) (by rfl) (by assumption) (by rfl) rfl (by omega) ?_; rintro _ _ _ _ _ ⟨rfl, _⟩; apply w_gT; rfl; apply w_ld; rfl; exact hc_ds0 (by assumption) rfl; apply w_gT; rfl; apply w_mvs; rfl; apply w_gT; rfl; apply w_mvi; rfl; apply w_gT; rfl; refine w_idxR (sz := 1) (R := RStr) (by rfl) (by assumption) (by rfl) rfl (by omega) ?_; rintro _ _ _ _ _ ⟨rfl, _⟩; apply w_gT; rfl; apply w_ld; rfl; exact hc_ds0 (by assumption) rfl; apply w_gT; rfl; apply w_sne; rfl; rfl; apply w_pickFb; rfl; rfl; apply w_done)
            exact ⟨rfl, ⟨rfl, rfl, rfl, rfl, rfl, rfl, by simp [upd, updL, he], trivial⟩, rfl⟩
        · have e81 : (!decide (oks[lowK oks ks[i]]? = some ks[i])) = true := by simp [List.getElem?_eq_none (show oks.length ≤ lowK oks ks[i] by omega)]
          rw [e81]
          (apply w_drawn; apply w_mvi; rfl; apply w_fld; rfl; apply w_ld; rfl; exact hc_i 0 rfl rfl; apply w_len; rfl; apply w_eql; rfl; rfl; apply w_mvb; rfl; refine w_gdT rfl (by omega) ?_; apply w_gF; rfl; apply w_gF; rfl; apply w_gF; rfl; apply w_gF; rfl; apply w_gF; rfl; apply w_gF; rfl; apply w_gF; rfl; apply w_gF; rfl; apply w_gF; rfl; apply w_gF; rfl; apply w_pickTb; rfl; rfl; apply w_done)
          exact ⟨rfl, ⟨rfl, rfl, rfl, rfl, rfl, rfl, rfl, trivial⟩, rfl⟩
      rintro ρ d3 L' ⟨hdd, hsl, hL⟩
      subst hdd; subst hL
      refine gwp_slots _ hsl ?_
      clear hsl
      by_cases hp : oks[lowK oks ks[i]]? = some ks[i]
      · have hI : insK (oks, ol) ks[i] l[i] = (oks, ol.set (lowK oks ks[i]) l[i]) := by simp only [insK]; rw [if_pos hp]
        rw [hI]
        have hlt : lowK oks ks[i] < oks.length := by
          rcases Nat.lt_or_ge (lowK oks ks[i]) oks.length with q | q
          · exact q
          · rw [List.getElem?_eq_none q] at hp; cases hp
        have e81 : (!decide (oks[lowK oks ks[i]]? = some ks[i])) = false := by simp [hp]
        rw [e81]
        (apply w_ifF; rfl; apply w_skip)
        exact ⟨Le.refl _, ⟨rfl, rfl, rfl, rfl, rfl, rfl, trivial⟩, ra, rc, qa, qc, h, ol, hok, hol, by omega, rfl, rfl⟩
      · have hI : insK (oks, ol) ks[i] l[i] = (oks.take (lowK oks ks[i]) ++ [ks[i]] ++ oks.drop (lowK oks ks[i]), (ol.take (lowK oks ks[i]) ++ [l[i]] ++ ol.drop (lowK oks ks[i])).set (lowK oks ks[i]) l[i]) := by simp only [insK]; rw [if_neg hp]
        rw [hI]
        have e81 : (!decide (oks[lowK oks ks[i]]? = some ks[i])) = true := by simp [hp]
        rw [e81]
        generalize hpp : lowK oks ks[i] = p at *
        (apply w_ifT; rfl; apply w_sq)
        have hl4 : Le d3 (join d3 h) := Le.join_left _ _
        have hol4 : RSl 6 RVal (join d3 h) (.slice ra ol.length rc) ol := hol.rsl (R := RVal) mono_val (by omega) (Le.join_left _ _) (Le.join_right _ _)
        refine w_drawnV (d1 := join d3 h) [bx b7 T7 [.int .i64 6, .int .i64 0, .int .i64 0, strV [], .slice ra ol.length rc, .slice qa oks.length qc], bx b4 T4 zVal] [] ((Vs.pick [2, 0, 1] rfl).trans Vs.freeze) ?_
        generalize join d3 h = d4 at *
        have hks4 : RSl 1 RStr d4 (.slice ka ks.length kc) ks := RStrs.mono hks1 hl4
        have hok4 : RSl 1 RStr d4 (.slice qa oks.length qc) oks := RStrs.mono hok hl4
        have hlv4 : RSl 6 RVal d4 (.slice la l.length lc) l := RVals.mono hlv1 hl4
        (apply w_fld; rfl; apply w_ld; rfl; exact hc_i 0 rfl rfl; apply w_mvi; rfl)
        refine w_slTo (n := p) rfl hok4 rfl rfl hlow (fun v86 r86 => ?_)
        (apply w_mvs; rfl; apply w_mvi; rfl; refine w_idxR (sz := 1) (R := RStr) (by rfl) (by assumption) (by rfl) rfl (by omega) ?_; rintro _ _ _ _ _ ⟨rfl, _⟩; apply w_ld; rfl; exact hc_ds0 (by assumption) rfl; apply w_fld; rfl; apply w_ld; rfl; exact hc_i 0 rfl rfl; apply w_mvi; rfl)
        have hkl : ks[i].length ≤ 140737488355328 := by assumption
        refine w_slFrom (n := p) rfl hok4 rfl rfl hlow (fun v97 r97 => ?_)
        refine w_par (α := Nat × TypeId) (β := Value × PHeap) [(0, .slice ka ks.length kc), (1, .slice la l.length lc), (4, .pointer (some ⟨b4, 0, none⟩)), (7, .pointer (some ⟨b7, 0, none⟩)), (8, .int .i64 i), (10, .int .i64 p), (97, v97)]
          (fun x => [(92, .slice (some ⟨x.1, 0, none⟩) 1 1)]) (fun x d L => L = [bx x.1 x.2 [strV ks[i]]])
          (fun y => [(87, y.1)]) (fun y d L => GRow 1 RStr d y.1 (oks.take p) y.2 ∧ L = [y.2]) [] [] rfl
          (fun x d d' M hl h => h) (fun y d d' M hl h => ⟨GRow.mono (R := RStr) mono_str h.1 hl, h.2⟩) (fun x => rfl) (fun y => rfl) rfl ⟨rfl, rfl, rfl, rfl, rfl, rfl, rfl, trivial⟩ ?_ ?_ ?_
        · refine w_bs1 (v0 := strV ks[i]) rfl rfl (fun b92 T92 => ?_)
          refine w_done ?_
          exact ⟨_, rfl, (b92, T92), ⟨rfl, trivial⟩, rfl⟩
        · refine w_cat1 (R := RStr) (xs := oks.take p) mono_str cell1_str (by omega) r86 (fun _ => rfl) (by simp; omega) (by simp; omega) (fun v0 v1 g1 o1 => ?_)
          refine w_done ?_
          exact ⟨_, rfl, (v1, g1), ⟨rfl, trivial⟩, o1, rfl⟩
        rintro ⟨b92, T92⟩ ⟨v87, g87⟩ ρ d5 M1 M2 hl5 hM1 ⟨o87, hM2⟩
        subst hM1; subst hM2
        refine w_appL (R := RStr) 0 rfl rfl o87 rfl (GRow.lit1 (R := RStr) rfl ⟨rfl, hkl⟩) cell1_str (by omega) (by simp; omega) (by simp; omega) (fun v93 g93 o93 => ?_)
        refine w_appGF (R := RStr) (xs := oks.take p ++ [ks[i]]) (ys := oks.drop p) mono_str rfl o93 rfl (RSl.src (R := RStr) (RStrs.mono r97 hl5) cell1_str (by omega) _) (by omega) (by simp; omega) (by simp; omega) (fun a98 c98 d6 hl6 r98 => ?_)
        (apply w_fld; rfl; apply w_bar)
        refine w_stE 0 [.int .i64 6, .int .i64 0, .int .i64 0, strV [], .slice ra ol.length rc, .slice a98 (oks.take p ++ [ks[i]] ++ oks.drop p).length c98] rfl rfl rfl rfl (Nat.le_of_ble_eq_true rfl) rfl rfl ?_
        have hl46 := hl5.trans hl6
        have hol6 : RSl 6 RVal d6 (.slice ra ol.length rc) ol := RVals.mono hol4 hl46
        have hlv6 : RSl 6 RVal d6 (.slice la l.length lc) l := RVals.mono hlv4 hl46
        clear hks1 hlv1 hks4 hok4 hlv4 hol4 hks0 hl0 hok
        (apply w_done0)
        refine w_drawn ?_
        (apply w_fld; rfl; apply w_ld; rfl; exact hc_i 0 rfl rfl; apply w_mvi; rfl)
        refine w_slTo (n := p) rfl hol6 rfl rfl (by omega) (fun v104 r104 => ?_)
        (apply w_mvs; rfl; apply w_mvi; rfl; refine w_idxR (sz := 6) (R := RVal) (by rfl) (by assumption) (by rfl) rfl (by omega) ?_; rintro _ _ _ _ _ _; apply w_ldd; rfl; assumption; assumption; apply w_fld; rfl; apply w_ld; rfl; exact hc_i 0 rfl rfl; apply w_mvi; rfl)
        rename_i cs9 hcs9 hD9 hR9
        refine w_slFrom (n := p) rfl hol6 rfl rfl (by omega) (fun v115 r115 => ?_)
        refine w_par (α := Nat × TypeId) (β := Value × PHeap) [(0, .slice ka ks.length kc), (1, .slice la l.length lc), (4, .pointer (some ⟨b4, 0, none⟩)), (7, .pointer (some ⟨b7, 0, none⟩)), (8, .int .i64 i), (10, .int .i64 p), (115, v115)]
          (fun x => [(110, .slice (some ⟨x.1, 0, none⟩) 1 1)]) (fun x d L => L = [bx x.1 x.2 cs9])
          (fun y => [(105, y.1)]) (fun y d L => GRow 6 RVal d y.1 (ol.take p) y.2 ∧ L = [y.2]) [] [] rfl
          (fun x d d' M hl h => h) (fun y d d' M hl h => ⟨GRow.mono (R := RVal) mono_val h.1 hl, h.2⟩) (fun x => rfl) (fun y => rfl) rfl ⟨rfl, rfl, rfl, rfl, rfl, rfl, rfl, trivial⟩ ?_ ?_ ?_
        · refine w_bsV rfl hcs9 (fun b92 T92 => ?_)
          refine w_done ?_
          exact ⟨_, rfl, (b92, T92), ⟨rfl, trivial⟩, rfl⟩
        · refine w_cat1 (R := RVal) (xs := ol.take p) mono_val cell1_val (by omega) r104 (fun _ => rfl) (by simp; omega) (by simp; omega) (fun v0 v1 g1 o1 => ?_)
          refine w_done ?_
          exact ⟨_, rfl, (v1, g1), ⟨rfl, trivial⟩, o1, rfl⟩
        rintro ⟨b110, T110⟩ ⟨v105, g105⟩ ρ d7 M1 M2 hl7 hM1 ⟨o105, hM2⟩
        subst hM1; subst hM2
        refine w_appL (R := RVal) 0 rfl rfl o105 rfl (GRow.lit1 (R := RVal) hcs9 (RVal.mono hl7 hR9)) cell1_val (by omega) (by simp; omega) (by simp; omega) (fun v111 g111 o111 => ?_)
        refine w_appG (R := RVal) (xs := ol.take p ++ [l[i]]) (ys := ol.drop p) 0 rfl rfl o111 rfl (RSl.src (R := RVal) (RVals.mono r115 hl7) cell1_val (by omega) _) (by omega) (by simp; omega) (by simp; omega) (fun v116 g116 o116 => ?_)
        obtain ⟨a116, c116, rfl⟩ := o116.val
        (apply w_fld; rfl; apply w_bar)
        refine w_stE 0 [.int .i64 6, .int .i64 0, .int .i64 0, strV [], .slice a116 (ol.take p ++ [l[i]] ++ ol.drop p).length c116, .slice a98 (oks.take p ++ [ks[i]] ++ oks.drop p).length c98] rfl rfl rfl rfl (Nat.le_of_ble_eq_true rfl) rfl rfl ?_
        (apply w_done0)
        exact ⟨(hl4.trans hl46).trans hl7, ⟨rfl, rfl, rfl, rfl, rfl, rfl, trivial⟩, a116, c116, a98, c98, g116, _, RStrs.mono r98 hl7, o116, by simp; omega, rfl, rfl⟩
    rintro ρ d3 L' ⟨hl3, hsl, ra', rc', qa', qc', h', ol', hok', hol', hplt, hset, hL⟩
    subst hL
    refine gwp_slots _ hsl ?_
    clear hsl
    obtain ⟨b9, T9, l9, c9, hv9, rfl, hlen9, hw9⟩ := hol'.openV (by omega) hplt
    cases hv9
    have hks3 : RSl 1 RStr d3 (.slice ka ks.length kc) ks := RStrs.mono hks1 hl3
    have hlv3 : RSl 6 RVal d3 (.slice la l.length lc) l := RVals.mono hlv1 hl3
    refine w_drawn ?_
    (apply w_fld; rfl; apply w_ld; rfl; exact hc_i 0 rfl rfl; apply w_mvi; rfl; apply w_mvs; rfl; apply w_mvi; rfl; refine w_idxR (sz := 6) (R := RVal) (by rfl) (by assumption) (by rfl) rfl (by omega) ?_; rintro _ _ _ _ _ _; apply w_ldd; rfl; assumption; assumption)
    rename_i cs9 hcs9 hD9 hR9
    refine w_idx (lowK oks ks[i]) rfl rfl rfl hplt (SAd.some _ b9 0) ?_
    (apply w_bar)
    refine w_stE 2 (patch l9 (lowK oks ks[i] * 6) cs9) rfl rfl rfl hcs9 (by omega) (cell1_val _ _ _ hR9) (by rw [Nat.zero_add]; rfl) ?_
    (apply w_done0; apply w_reg; apply w_mvi; rfl; apply w_add; rfl; rfl; omega; omega; apply w_mvi; rfl; apply w_done0)
    refine ⟨i + 1, by omega, ⟨rfl, rfl, rfl, rfl, int_eq (by omega), trivial⟩, hl1.trans hl3, hc, fun j h1 h2 => if e : j = i then (by subst e; exact hr0) else hrt j (by omega) h2, ?_⟩
    rw [hM1, ← hset, List.length_set]
    exact ⟨some ⟨b9, 0, none⟩, _, qa', qc', _, hok', hw9 cs9 l[i] hcs9 hR9, rfl⟩
  · obtain rfl : i = ks.length := by omega
    have hrt' : ∀ x ∈ l, rightV x = 0 := fun x hx => by
      obtain ⟨j, hj, rfl⟩ := List.getElem_of_mem hx
      exact hrt j (by omega) hj
    have hmd := make_depth hu hlen hrt'
    rw [if_neg (by rw [first_zero.2 hrt']; simp)]
    have hmv : makeV ks l = .mk 6 0 0 [] ol oks := by rw [makeV, hM]
    rw [hmv] at hmd ⊢
    (apply w_sq; apply w_sq; apply w_reg; apply w_mvi; rfl; apply w_mvs; rfl; apply w_len; rfl; apply w_lss; rfl; rfl; apply w_done0; refine w_ifdF rfl (by omega) ?_; apply w_exit; apply w_sq; apply w_sq; apply w_reg; apply w_ldb 0; rfl; rfl; rfl)
    refine w_vs (join d1 h) [bx b7 T7 [.int .i64 6, .int .i64 0, .int .i64 0, strV [], .slice ra ol.length rc, .slice qa oks.length qc], bx b4 T4 zVal] ((Vs.pick [2, 0, 1] rfl).trans Vs.freeze) ?_
    have hR : RVal (join d1 h) [.int .i64 6, .int .i64 0, .int .i64 0, strV [], .slice ra ol.length rc, .slice qa oks.length qc] (.mk 6 0 0 [] ol oks) :=
      RVal.close (v := .mk 6 0 0 [] ol oks) i64_6 i64_0 i64_0 (by simp) (hol.rsl (R := RVal) mono_val (by omega) (Le.join_left _ _) (Le.join_right _ _)) (RStrs.mono hok (Le.join_left _ _))
    refine w_pure rfl (h3 _ hR (by omega)) ?_
    by_cases hdp : 48 < depthV (.mk 6 0 0 [] ol oks)
    · rw [if_pos hdp]
      (apply w_gtr; rfl; rfl; apply w_done0; refine w_ifdT rfl (by omega) ?_; apply w_sq; apply w_reg; apply w_bvZ)
      refine w_stE 1 zVal rfl rfl rfl rfl (Nat.le_of_ble_eq_true rfl) rfl rfl ?_
      (apply w_mvi; rfl; apply w_done0; apply w_ret)
      exact finVDE 1 rfl rfl rfl RVal.zero
    · rw [if_neg hdp]
      (apply w_gtr; rfl; rfl; apply w_done0; refine w_ifdF rfl (by omega) ?_; apply w_skip; apply w_sq; apply w_reg; apply w_ldb 0; rfl; rfl; rfl)
      refine w_stE 1 [.int .i64 6, .int .i64 0, .int .i64 0, strV [], .slice ra ol.length rc, .slice qa oks.length qc] rfl rfl rfl rfl (Nat.le_of_ble_eq_true rfl) (cell1_val _ _ _ hR) rfl ?_
      (apply w_mvi; rfl; apply w_done0; apply w_ret)
      exact finVDE 1 rfl rfl rfl hR
end Go.Gk.Val
end

section
/-
  The laws of values: marks over what is handed out; ValueSames, ValueMakes.
-/
namespace Go.Gk.Val
open Go Go.Gk Go.Gk.Utf
attribute [local irreducible] gwp gws

theorem orow_openP {sz n : Nat} {v : Value} {us : List Value} {h : PHeap} (o : ORow sz v n us h) {m : Nat} (hm : m < n) :
    ∃ b T l c, v = .slice (some ⟨b, 0, none⟩) n c ∧ h = bx b T l ∧ n * sz ≤ l.length ∧ l.take (n * sz) = us ∧ ∀ xs, xs.length = sz → ORow sz v n (patch us (m * sz) xs) (bx b T (patch l (m * sz) xs)) := by
  obtain ⟨h1, h2, ⟨rfl, rfl, rfl⟩ | ⟨b, T, l, c, rfl, rfl, h3, h4, h5, h6⟩⟩ := o
  · omega
  · have hmz : m * sz + sz ≤ n * sz := by have := Nat.mul_le_mul_right sz (show m + 1 ≤ n from hm); rwa [Nat.add_mul, Nat.one_mul] at this
    have hnc : n * sz ≤ c * sz := Nat.mul_le_mul_right sz h3
    refine ⟨b, T, l, c, rfl, rfl, by omega, by rw [← h1]; exact h6, fun xs hx => ?_⟩
    have hp : (patch us (m * sz) xs).length = us.length := patch_len (by omega)
    refine ⟨by rw [hp, h1], h2, .inr ⟨b, T, _, c, rfl, rfl, h3, h4, by rw [patch_len (by omega)]; exact h5, ?_⟩⟩
    rw [hp, take_patch (by omega) (by omega), h6]
abbrev spL : List Value := [.int .i64 (-5), .int .i64 0, .int .i64 0, strV [], .slice none 0 0, .slice none 0 0]
def Spoil3Ok (P : Program) (f : FuncId) : Prop := ∀ (v : V) {d : PHeap} {cs : List Value} {h : PHeap}, OVal cs v h → GCall P f [.agg cs.toArray] d [h] (Ret fun _ d' L' => d' = d ∧ L' = [])
def g_thimblelaw03_spoil (f_thimblelaw03_spoil : Nat) : GFun :=
 ⟨33, [],
 (.seq
 (.reg false (.op false ⟨(some 1), none, (.box (.tmp 0))⟩ .done))
 (.seq (.seq
 (.reg false (.op false ⟨(some 4), none, (.fld 5 (.tmp 1))⟩
  (.op false ⟨(some 5), none, (.ld none (.tmp 4))⟩
  (.op false ⟨(some 6), none, (.len (.tmp 5))⟩
  (.op false ⟨(some 7), none, (.mv (.const (.int .i64 0)))⟩ .done))))) (.block 0 (.loop
 (.seq
 (.reg false (.op false ⟨(some 8), none, (.bin .lss (.tmp 7) (.tmp 6))⟩ .done))
 (.seq (.cond (.tmp 8) .skip (.exit 0))
 (.seq (.block 1
 (.seq
 (.reg false (.op false ⟨(some 9), none, (.mv (.tmp 7))⟩
  (.op false ⟨(some 2), none, (.mv (.tmp 9))⟩ .done)))
 (.reg false (.op false ⟨(some 10), none, (.fld 5 (.tmp 1))⟩
  (.op false ⟨(some 11), none, (.ld none (.tmp 10))⟩
  (.op false ⟨(some 12), none, (.mv (.tmp 2))⟩
  (.op false ⟨(some 13), none, (.idx 1 (.tmp 11) (.tmp 12))⟩
  (.op false ⟨none, none, (.st 1 (.tmp 13) (.const (strV [115, 112, 111, 105, 108, 116])))⟩ .done))))))))
 (.reg false (.op false ⟨(some 14), none, (.bin .add (.tmp 7) (.const (.int .i64 1)))⟩
  (.op false ⟨(some 7), none, (.mv (.tmp 14))⟩ .done)))))))))
 (.seq
 (.reg false (.op false ⟨(some 15), none, (.fld 4 (.tmp 1))⟩
  (.op false ⟨(some 16), none, (.ld none (.tmp 15))⟩
  (.op false ⟨(some 17), none, (.len (.tmp 16))⟩
  (.op false ⟨(some 18), none, (.mv (.const (.int .i64 0)))⟩ .done))))) (.block 2 (.loop
 (.seq
 (.reg false (.op false ⟨(some 19), none, (.bin .lss (.tmp 18) (.tmp 17))⟩ .done))
 (.seq (.cond (.tmp 19) .skip (.exit 2))
 (.seq (.block 3
 (.seq
 (.reg false (.op false ⟨(some 20), none, (.mv (.tmp 18))⟩
  (.op false ⟨(some 3), none, (.mv (.tmp 20))⟩ .done)))
 (.seq
 (.reg false (.op false ⟨(some 21), none, (.fld 4 (.tmp 1))⟩
  (.op false ⟨(some 22), none, (.ld none (.tmp 21))⟩
  (.op false ⟨(some 23), none, (.mv (.tmp 3))⟩
  (.op false ⟨(some 24), none, (.idx 6 (.tmp 22) (.tmp 23))⟩
  (.op false ⟨(some 25), none, (.ld (some 6) (.tmp 24))⟩
  (.op false ⟨(some 26), none, (.call f_thimblelaw03_spoil [(.tmp 25)])⟩ .done)))))))
 (.reg false (.op false ⟨(some 27), none, (.fld 4 (.tmp 1))⟩
  (.op false ⟨(some 28), none, (.ld none (.tmp 27))⟩
  (.op false ⟨(some 29), none, (.mv (.tmp 3))⟩
  (.op false ⟨(some 30), none, (.bld [(0, 1), (1, 2), (3, 1), (4, 1), (5, 1)] [(.int .i64 0), (.int .i64 0), (.int .i64 0), (strV []), (.slice none 0 0), (.slice none 0 0)] [(0, (.const (.int .i64 (-5))))])⟩
  (.op false ⟨(some 31), none, (.idx 6 (.tmp 28) (.tmp 29))⟩
  (.op false ⟨none, none, (.st 6 (.tmp 31) (.tmp 30))⟩ .done))))))))))
 (.reg false (.op false ⟨(some 32), none, (.bin .add (.tmp 18) (.const (.int .i64 1)))⟩
  (.op false ⟨(some 18), none, (.mv (.tmp 32))⟩ .done)))))))))))⟩

set_option maxHeartbeats 2000000 in
theorem spoil3_ok {P : Program} {f : FuncId} (hd : dec P f = some (g_thimblelaw03_spoil f)) : Spoil3Ok P f := by
  intro v
  induction v using V.ind with
  | h v ih =>
  intro d cs h ho
  obtain ⟨lv, kv, hk, hl, ccs, hs, rfl, ik, im, ie, it, gk, gl, hsl, el, dj, rfl⟩ := ho.open
  obtain ⟨us, ok, _⟩ := gk
  obtain ⟨ka, _, kc, rfl, _⟩ := ok.slice
  obtain ⟨la, _, lc, rfl, _⟩ := gl.slice
  have n1 := ok.2.1
  have n2 := gl.2.1
  have hu1 := ok.1
  have hu2 := gl.1
  refine GCall.vs (d1 := d) (L1 := hk :: hl :: hs) (by have := Vs.openL (d := d) (L0 := []) dj; simpa using this) ?_
  refine GCall_of hd (Nat.le_of_ble_eq_true rfl) ?_
  show gwp P _ _ _ _ _
  apply w_sq; apply w_reg
  refine w_boxa (l := [.int .i64 v.kind, .int .i64 v.m, .int .i64 v.e, strV v.text, .slice la v.list.length lc, .slice ka v.keys.length kc]) rfl (fun b1 T1 => ?_)
  (apply w_done0; apply w_sq; apply w_sq; apply w_reg; apply w_fld; rfl; apply w_ld; rfl; exact hc_i 0 rfl rfl; apply w_len; rfl; apply w_mvi; rfl; apply w_done0; apply w_block)
  refine w_loopS (α := Nat × List Value × PHeap) (fun x => [(1, .pointer (some ⟨b1, 0, none⟩)), (6, .int .i64 v.keys.length), (7, .int .i64 x.1)])
    (fun x d' L' => d' = d ∧ x.1 ≤ v.keys.length ∧ ORow 1 (.slice ka v.keys.length kc) v.keys.length x.2.1 x.2.2 ∧ L' = bx b1 T1 [.int .i64 v.kind, .int .i64 v.m, .int .i64 v.e, strV v.text, .slice la v.list.length lc, .slice ka v.keys.length kc] :: x.2.2 :: hl :: hs)
    (fun x => v.keys.length - x.1) (0, us, hk) ⟨rfl, rfl, rfl, trivial⟩ ⟨rfl, Nat.zero_le _, ok, rfl⟩ ?_
  rintro ⟨i, us', hk'⟩ ρ d' L' ⟨hdd, hi, ok', hL⟩
  simp only at hi ok' hL
  subst hdd; subst hL
  by_cases hc : i < v.keys.length
  · obtain ⟨gb, gT, gl', gc, e1, rfl, hml, hmg, hset⟩ := ok'.open1 hc
    cases e1
    (apply w_sq; apply w_reg; apply w_lss; rfl; rfl; apply w_done0; apply w_sq; refine w_ifdT rfl (by omega) ?_; apply w_skip; apply w_sq; apply w_block; apply w_sq; apply w_reg; apply w_mvi; rfl; apply w_mvi; rfl; apply w_done0; apply w_reg; apply w_fld; rfl; apply w_ld; rfl; exact hc_i 0 rfl rfl; apply w_mvi; rfl)
    refine w_idx1 i rfl rfl rfl hc ?_
    refine w_st 1 rfl rfl rfl rfl (by first | omega | (simp [Value.cells, strV]; omega)) rfl ?_
    (apply w_done0; apply w_reg; apply w_add; rfl; rfl; omega; omega; apply w_mvi; rfl; apply w_done0)
    exact ⟨(i + 1, us'.set i (strV [115, 112, 111, 105, 108, 116]), _), by simp only; omega, ⟨rfl, rfl, int_eq (by simp), trivial⟩, rfl, hc, hset _, rfl⟩
  obtain rfl : i = v.keys.length := by omega
  (apply w_sq; apply w_reg; apply w_lss; rfl; rfl; apply w_done0; apply w_sq; refine w_ifdF rfl (by omega) ?_; apply w_exit; apply w_sq; apply w_reg; apply w_fld; rfl; apply w_ld; rfl; exact hc_i 0 rfl rfl; apply w_len; rfl; apply w_mvi; rfl; apply w_done0; apply w_block)
  refine w_loopS (α := Nat × List Value × PHeap) (fun x => [(1, .pointer (some ⟨b1, 0, none⟩)), (17, .int .i64 v.list.length), (18, .int .i64 x.1)])
    (fun x dd L' => dd = d' ∧ x.1 ≤ v.list.length ∧ ORow 6 (.slice la v.list.length lc) v.list.length x.2.1 x.2.2 ∧ (∀ m, x.1 * 6 ≤ m → x.2.1[m]? = ccs[m]?) ∧ L' = [bx b1 T1 [.int .i64 v.kind, .int .i64 v.m, .int .i64 v.e, strV v.text, .slice la v.list.length lc, .slice ka v.keys.length kc], hk', x.2.2] ++ hs.drop x.1)
    (fun x => v.list.length - x.1) (0, ccs, hl) ⟨rfl, rfl, rfl, trivial⟩ ⟨rfl, Nat.zero_le _, gl, fun _ _ => rfl, rfl⟩ ?_
  rintro ⟨i, us2, hl'⟩ ρ d2 L' ⟨hdd, hi, ol', hsame, hL⟩
  simp only at hi ol' hsame hL
  subst hdd
  by_cases hc : i < v.list.length
  · have hih : i < hs.length := by omega
    rw [List.drop_eq_getElem_cons hih] at hL
    subst hL
    have hu3 := ol'.1
    obtain ⟨gb, gT, gl', gc, e1, rfl, hml, hmg, hset⟩ := orow_openP ol' hc
    cases e1
    have hch : (gl'.drop (i * 6)).take 6 = chunk ccs i 6 := by
      apply List.ext_getElem?
      intro j
      by_cases hj : j < 6
      · rw [List.getElem?_take_of_lt hj, List.getElem?_drop, chunk, List.getElem?_take_of_lt hj, List.getElem?_drop, ← hsame (i * 6 + j) (by omega), ← hmg, List.getElem?_take_of_lt (by omega)]
      · rw [List.getElem?_eq_none (by simp; omega), List.getElem?_eq_none (by simp [chunk]; omega)]
    (apply w_sq; apply w_reg; apply w_lss; rfl; rfl; apply w_done0; apply w_sq; refine w_ifdT rfl (by omega) ?_; apply w_skip; apply w_sq; apply w_block; apply w_sq; apply w_reg; apply w_mvi; rfl; apply w_mvi; rfl; apply w_done0; apply w_sq; apply w_reg; apply w_fld; rfl; apply w_ld; rfl; exact hc_i 0 rfl rfl; apply w_mvi; rfl)
    refine w_idx (a := some ⟨gb, 0, none⟩) i rfl rfl rfl hc (SAd.some _ gb 0) ?_
    rw [Nat.zero_add (i * 6)]
    refine w_ldp 2 rfl rfl (Nat.ble_eq_true_of_le (by omega)) ?_
    rw [hch]
    refine w_vs _ (hs[i] :: ([bx b1 T1 [.int .i64 v.kind, .int .i64 v.m, .int .i64 v.e, strV v.text, .slice (some ⟨gb, 0, none⟩) v.list.length lc, .slice ka v.keys.length kc], hk', bx gb gT gl'] ++ hs.drop (i + 1)))
      (Vs.perm (List.perm_middle (l₁ := [bx b1 T1 [.int .i64 v.kind, .int .i64 v.m, .int .i64 v.e, strV v.text, .slice (some ⟨gb, 0, none⟩) v.list.length lc, .slice ka v.keys.length kc], hk', bx gb gT gl']))) ?_
    refine w_callA (A := [hs[i]]) (B := [bx b1 T1 [.int .i64 v.kind, .int .i64 v.m, .int .i64 v.e, strV v.text, .slice (some ⟨gb, 0, none⟩) v.list.length lc, .slice ka v.keys.length kc], hk', bx gb gT gl'] ++ hs.drop (i + 1)) rfl rfl (ih _ (List.getElem_mem hc) (by have := el i hc; rwa [show hs.getD i emp = hs[i] by simp [hih]] at this)) (fun r d3 L3 _ ⟨hdd, hL⟩ => ?_)
    subst hdd; subst hL
    (apply w_done0; apply w_reg; apply w_fld; rfl; apply w_ld; rfl; exact hc_i 0 rfl rfl; apply w_mvi; rfl; apply w_bvK; rfl)
    refine w_idx (a := some ⟨gb, 0, none⟩) i rfl rfl rfl hc (SAd.some _ gb 0) ?_
    rw [Nat.zero_add (i * 6)]
    refine w_stE 2 (patch gl' (i * 6) spL) rfl rfl rfl rfl (by first | omega | (simp [Value.cells]; omega)) rfl rfl ?_
    (apply w_done0; apply w_reg; apply w_add; rfl; rfl; omega; omega; apply w_mvi; rfl; apply w_done0)
    refine ⟨(i + 1, patch us2 (i * 6) spL, _), by simp only; omega, ⟨rfl, rfl, int_eq (by simp), trivial⟩, rfl, hc, hset spL rfl, fun m hm => ?_, rfl⟩
    simp only at hm ⊢
    have hsp : spL.length = 6 := rfl
    rw [get_patch (by omega), if_neg (by omega)]
    exact hsame m (by omega)
  · (apply w_sq; apply w_reg; apply w_lss; rfl; rfl; apply w_done0; apply w_sq; refine w_ifdF rfl (by omega) ?_; apply w_exit)
    exact finS [] trivial (List.nil_sublist _) ⟨rfl, rfl⟩
end Go.Gk.Val
end

section
/-
  The laws of values: ValueSames.
-/
namespace Go.Gk.Val
open Go Go.Gk Go.Gk.Utf
attribute [local irreducible] gwp gws

def g_thimblelaw03_ValueSames (f_thimbleref03_Bulk f_thimblelaw03_works f_thimbleref03_Copy f_value_Copy f_value_Same f_thimbleref03_Same f_value_Right f_thimblelaw03_spoil : Nat) : GFun :=
 ⟨54, [(.tmp 4)],
 (.seq
 (.reg false (.op false ⟨(some 2), none, (.box (.tmp 0))⟩
  (.op false ⟨(some 3), none, (.box (.tmp 1))⟩
  (.op false ⟨(some 4), none, (.mv (.const (.bool false)))⟩ .done))))
 (.seq (.seq
 (.reg false (.op false ⟨(some 7), none, (.ld (some 6) (.tmp 2))⟩
  (.op false ⟨(some 8), none, (.call f_thimbleref03_Bulk [(.tmp 7), (.const (.int .i64 3000))])⟩
  (.op false ⟨(some 9), none, (.bin .gtr (.tmp 8) (.const (.int .i64 3000)))⟩
  (.op false ⟨(some 10), none, (.mv (.tmp 9))⟩
  (.op false ⟨(some 11), (some (10, false)), (.ld (some 6) (.tmp 3))⟩
  (.op false ⟨(some 12), (some (10, false)), (.call f_thimbleref03_Bulk [(.tmp 11), (.const (.int .i64 3000))])⟩
  (.op false ⟨(some 13), (some (10, false)), (.bin .gtr (.tmp 12) (.const (.int .i64 3000)))⟩
  (.op false ⟨(some 14), none, (.pick (.tmp 10) (.const (.bool true)) (.tmp 13))⟩ .done))))))))) (.cond (.tmp 14)
 (.seq
 (.reg false (.op false ⟨(some 15), none, (.call f_thimblelaw03_works [])⟩
  (.op false ⟨(some 4), none, (.mv (.tmp 15))⟩ .done))) .ret) .skip))
 (.seq
 (.reg false (.op false ⟨(some 16), none, (.ld (some 6) (.tmp 2))⟩
  (.op false ⟨(some 17), none, (.call f_thimbleref03_Copy [(.tmp 16)])⟩
  (.op false ⟨(some 5), none, (.alo (.agg #[(.int .i64 0), (.int .i64 0), (.int .i64 0), (strV []), (.slice none 0 0), (.slice none 0 0)]))⟩
  (.op false ⟨none, none, (.st 6 (.tmp 5) (.tmp 17))⟩ .done)))))
 (.seq
 (.reg false (.op false ⟨(some 18), none, (.ld (some 6) (.tmp 5))⟩
  (.op false ⟨(some 19), none, (.call f_value_Copy [(.tmp 18)])⟩
  (.op false ⟨(some 6), none, (.alo (.agg #[(.int .i64 0), (.int .i64 0), (.int .i64 0), (strV []), (.slice none 0 0), (.slice none 0 0)]))⟩
  (.op false ⟨none, none, (.st 6 (.tmp 6) (.tmp 19))⟩ .done)))))
 (.seq (.seq
 (.reg true (.op true ⟨(some 20), none, (.ld (some 6) (.tmp 5))⟩
  (.op true ⟨(some 21), none, (.ld (some 6) (.tmp 3))⟩
  (.op true ⟨(some 23), none, (.ld (some 6) (.tmp 2))⟩
  (.op true ⟨(some 24), none, (.ld (some 6) (.tmp 3))⟩
  (.op false ⟨(some 22), none, (.call f_value_Same [(.tmp 20), (.tmp 21)])⟩
  (.op false ⟨(some 25), none, (.call f_thimbleref03_Same [(.tmp 23), (.tmp 24)])⟩
  (.op true ⟨(some 26), none, (.eqb true (.tmp 22) (.tmp 25))⟩
  (.op true ⟨(some 27), none, (.mv (.tmp 26))⟩
  (.op true ⟨(some 28), (some (27, false)), (.ld (some 6) (.tmp 5))⟩
  (.op true ⟨(some 29), (some (27, false)), (.ld (some 6) (.tmp 5))⟩
  (.op false ⟨(some 30), (some (27, false)), (.call f_value_Same [(.tmp 28), (.tmp 29)])⟩
  (.op true ⟨(some 31), (some (27, false)), (.un .not (.tmp 30))⟩
  (.op true ⟨(some 32), none, (.pick (.tmp 27) (.const (.bool true)) (.tmp 31))⟩
  (.op true ⟨(some 33), none, (.mv (.tmp 32))⟩
  (.op true ⟨(some 34), (some (33, false)), (.ld (some 6) (.tmp 6))⟩
  (.op true ⟨(some 35), (some (33, false)), (.ld (some 6) (.tmp 2))⟩
  (.op false ⟨(some 36), (some (33, false)), (.call f_thimbleref03_Same [(.tmp 34), (.tmp 35)])⟩
  (.op true ⟨(some 37), (some (33, false)), (.un .not (.tmp 36))⟩
  (.op true ⟨(some 38), none, (.pick (.tmp 33) (.const (.bool true)) (.tmp 37))⟩
  (.op true ⟨(some 39), none, (.mv (.tmp 38))⟩
  (.op true ⟨(some 40), (some (39, false)), (.ld (some 6) (.tmp 6))⟩
  (.op true ⟨(some 42), (some (39, false)), (.ld (some 6) (.tmp 5))⟩
  (.op false ⟨(some 41), (some (39, false)), (.call f_value_Right [(.tmp 40)])⟩
  (.op false ⟨(some 43), (some (39, false)), (.call f_value_Right [(.tmp 42)])⟩
  (.op true ⟨(some 44), (some (39, false)), (.bin .neq (.tmp 41) (.tmp 43))⟩
  (.op true ⟨(some 45), none, (.pick (.tmp 39) (.const (.bool true)) (.tmp 44))⟩ .done))))))))))))))))))))))))))) (.cond (.tmp 45)
 (.seq
 (.reg false (.op false ⟨(some 4), none, (.mv (.const (.bool false)))⟩ .done)) .ret) .skip))
 (.seq
 (.reg false (.op false ⟨(some 46), none, (.ld (some 6) (.tmp 6))⟩
  (.op false ⟨(some 47), none, (.call f_thimblelaw03_spoil [(.tmp 46)])⟩ .done)))
 (.seq
 (.reg false (.op false ⟨(some 48), none, (.ld (some 6) (.tmp 5))⟩
  (.op false ⟨(some 49), none, (.ld (some 6) (.tmp 2))⟩
  (.op false ⟨(some 50), none, (.call f_thimbleref03_Same [(.tmp 48), (.tmp 49)])⟩
  (.op false ⟨(some 51), none, (.mv (.tmp 50))⟩
  (.op false ⟨(some 52), (some (51, true)), (.call f_thimblelaw03_works [])⟩
  (.op false ⟨(some 53), none, (.pick (.tmp 51) (.tmp 52) (.const (.bool false)))⟩
  (.op false ⟨(some 4), none, (.mv (.tmp 53))⟩ .done)))))))) .ret)))))))⟩

set_option maxHeartbeats 2000000 in
theorem valueSames_ok {T : PHeap → Prop} {P : Program} {f f1 f2 f3 f4 f5 f6 f7 f8 : FuncId} (hT : ∀ {d d' : PHeap}, Le d d' → T d → T d') (hd : decp P f = some (g_thimblelaw03_ValueSames f1 f2 f3 f4 f5 f6 f7 f8)) (h1 : BulkOk P f1) (h2 : W3Ok T P f2) (h3 : RCopyOk P f3) (h4 : VCopyOk P f4) (h5 : SameOk P f5) (h6 : SameOk P f6) (h7 : RightOk T P f7) (h8 : Spoil3Ok P f8)
    {d : PHeap} {cs es : List Value} {v x : V} (ht : T d) (hv : RVal d cs v) (hx : RVal d es x) : GPure P f [.agg cs.toArray, .agg es.toArray] d (.bool true) := by
  obtain ⟨c0, c1, c2, c3, c4, c5, rfl⟩ := six hv.len
  obtain ⟨x0, x1, x2, x3, x4, x5, rfl⟩ := six hx.len
  refine GPure.of' hd (Nat.le_of_ble_eq_true rfl) ?_
  show gwp P _ _ _ _ _
  apply w_sq; apply w_reg
  refine w_boxa (l := [c0, c1, c2, c3, c4, c5]) rfl (fun b2 T2 => ?_)
  refine w_boxa (l := [x0, x1, x2, x3, x4, x5]) rfl (fun b3 T3 => ?_)
  (apply w_mvb; rfl; apply w_done0; apply w_sq; apply w_sq; apply w_reg; apply w_ldb 1; rfl; rfl; rfl)
  refine w_call0 rfl (h1 v (most := 3000) hv (by omega)) (fun r d3 L3 _ ⟨hdd, z, hr, hz1, hz2, hz3, hL⟩ => ?_)
  subst hdd; subst hr; subst hL
  by_cases q2 : 3000 < z
  · (apply w_gtr; rfl; rfl; apply w_mvb; rfl; refine w_gdT rfl (by omega) ?_; apply w_gF; rfl; apply w_gF; rfl; apply w_gF; rfl; apply w_pickTb; rfl; rfl; apply w_done0; apply w_ifT; rfl; apply w_sq; apply w_reg)
    refine w_pure rfl (h2 ht) ?_
    (apply w_mvb; rfl; apply w_done0; apply w_ret)
    exact finQ rfl
  (apply w_gtr; rfl; rfl; apply w_mvb; rfl; refine w_gdF rfl (by omega) ?_; apply w_gT; rfl; apply w_ldb 0; rfl; rfl; rfl; apply w_gT; rfl)
  refine w_call0 rfl (h1 x (most := 3000) hx (by omega)) (fun r d4 L4 _ ⟨hdd, z', hr, hz1', hz2', hz3', hL⟩ => ?_)
  subst hdd; subst hr; subst hL
  by_cases q3 : 3000 < z'
  · (apply w_gT; rfl; apply w_gtr; rfl; rfl; apply w_pickFb; rfl; rfl; apply w_done0; refine w_ifdT rfl (by omega) ?_; apply w_sq; apply w_reg)
    refine w_pure rfl (h2 ht) ?_
    (apply w_mvb; rfl; apply w_done0; apply w_ret)
    exact finQ rfl
  have hbv : bulkV v ≤ 3000 := by have := hz3 (by omega); omega
  have hbx : bulkV x ≤ 3000 := by have := hz3' (by omega); omega
  have hcb := cnt_bulk v
  have hcx := cnt_bulk x
  (apply w_gT; rfl; apply w_gtr; rfl; rfl; apply w_pickFb; rfl; rfl; apply w_done0; refine w_ifdF rfl (by omega) ?_; apply w_skip; apply w_sq; apply w_reg; apply w_ldb 1; rfl; rfl; rfl)
  refine w_call0 rfl (h3 v hv (by omega)) (fun r d2 L2 hl2 ⟨hL, cs2, hr, hR2⟩ => ?_)
  subst hL; subst hr
  obtain ⟨o0, o1, o2, o3, o4, o5, rfl⟩ := six hR2.len
  have hv2 := RVal.mono hl2 hv
  have hx2 := RVal.mono hl2 hx
  have ht2 := hT hl2 ht
  (apply w_alo; intro _ _)
  rename_i b5 T5
  refine w_stE 0 [o0, o1, o2, o3, o4, o5] rfl rfl rfl rfl (Nat.le_of_ble_eq_true rfl) (cell1_val _ _ _ hR2) rfl ?_
  (apply w_done0; apply w_sq; apply w_reg; apply w_ldb 0; rfl; rfl; rfl)
  refine w_call0 rfl (h4 v hR2 (by omega)) (fun r d5 L5 _ ⟨hdd, cs6, g, hr, hL, ho⟩ => ?_)
  subst hdd; subst hL; subst hr
  obtain ⟨g0, g1, g2, g3, g4, g5, rfl⟩ := six ho.cells.1
  (apply w_alo; intro _ _)
  rename_i b6 T6
  refine w_stE 0 [g0, g1, g2, g3, g4, g5] rfl rfl rfl rfl (Nat.le_of_ble_eq_true rfl) ho.cells.2 rfl ?_
  have hs2 : sameV v v = true := (sameV_iff _ _).2 rfl
  have hne : ¬ (rightV v ≠ rightV v) := by simp
  have hbb : (true ^^ (sameV v x == sameV v x)) = false := by simp
  (apply w_done0; apply w_sq; apply w_sq)
  refine w_drawnV (d1 := d5) [bx b6 T6 [g0, g1, g2, g3, g4, g5], bx b5 T5 [o0, o1, o2, o3, o4, o5], bx b3 T3 [x0, x1, x2, x3, x4, x5], bx b2 T2 [c0, c1, c2, c3, c4, c5]] [g] (Vs.pick [0, 2, 3, 4, 1] rfl) ?_
  (apply w_ldb 1; rfl; rfl; rfl; apply w_ldb 2; rfl; rfl; rfl; apply w_ldb 3; rfl; rfl; rfl; apply w_ldb 2; rfl; rfl; rfl)
  refine w_pure rfl (h5 v x hR2 hx2) ?_
  skip
  refine w_pure rfl (h6 v x hv2 hx2) ?_
  (apply w_eqb; rfl; rfl; apply w_mvb; rfl; apply w_gbF; rfl; (with_reducible assumption); apply w_gT; rfl; apply w_ldb 1; rfl; rfl; rfl; apply w_gT; rfl; apply w_ldb 1; rfl; rfl; rfl; apply w_gT; rfl)
  refine w_pure rfl (h5 v v hR2 hR2) ?_
  rw [hs2]
  (apply w_gT; rfl; apply w_not; rfl; apply w_pickFb; rfl; rfl; apply w_mvb; rfl; apply w_gT; rfl; apply w_ldb 0; rfl; rfl; rfl; apply w_gT; rfl; apply w_ldb 3; rfl; rfl; rfl; apply w_gT; rfl)
  refine w_pureB rfl (fun d6 hl6 hk6 => h6 _ _ (ho.rval (hk6 g (by simp))) (RVal.mono hl6 hv2)) ?_
  rw [hs2]
  (apply w_gT; rfl; apply w_not; rfl; apply w_pickFb; rfl; rfl; apply w_mvb; rfl; apply w_gT; rfl; apply w_ldb 0; rfl; rfl; rfl; apply w_gT; rfl; apply w_ldb 1; rfl; rfl; rfl; apply w_gT; rfl)
  refine w_pureB rfl (fun d6 hl6 hk6 => h7 (hT hl6 ht2) (ho.rval (hk6 g (by simp)))) ?_
  (apply w_gT; rfl)
  refine w_pure rfl (h7 ht2 hR2) ?_
  (apply w_gT; rfl; apply w_neq; rfl; rfl; apply w_pickFb; rfl; rfl; apply w_done; refine w_ifdF rfl (by omega) ?_; apply w_skip; apply w_sq; apply w_reg; apply w_ldb 0; rfl; rfl; rfl)
  refine w_vs _ [g, bx b6 T6 [g0, g1, g2, g3, g4, g5], bx b5 T5 [o0, o1, o2, o3, o4, o5], bx b3 T3 [x0, x1, x2, x3, x4, x5], bx b2 T2 [c0, c1, c2, c3, c4, c5]] (Vs.pick [4, 0, 1, 2, 3] rfl) ?_
  refine w_callA (A := [g]) (B := [bx b6 T6 [g0, g1, g2, g3, g4, g5], bx b5 T5 [o0, o1, o2, o3, o4, o5], bx b3 T3 [x0, x1, x2, x3, x4, x5], bx b2 T2 [c0, c1, c2, c3, c4, c5]]) rfl rfl (h8 _ ho) (fun r d6 L6 _ ⟨hdd, hL⟩ => ?_)
  subst hdd; subst hL
  (apply w_done0; apply w_sq; apply w_reg; apply w_ldb 1; rfl; rfl; rfl; apply w_ldb 3; rfl; rfl; rfl)
  refine w_pure rfl (h6 v v hR2 hv2) ?_
  rw [hs2]
  (apply w_mvb; rfl; apply w_gT; rfl)
  refine w_pure rfl (h2 ht2) ?_
  (apply w_pickTb; rfl; rfl; apply w_mvb; rfl; apply w_done0; apply w_ret)
  exact finQ rfl
end Go.Gk.Val
end

section
/-
  The laws of values: ValueMakes.
-/
namespace Go.Gk.Val
open Go Go.Gk Go.Gk.Utf
attribute [local irreducible] gwp gws

/-- Keys and values as one value. -/
def pairV (ks : List (List UInt8)) (l : List V) : V := .mk 0 0 0 [] l ks
theorem pair_rval {d : PHeap} {ka la : Option Addr} {kc lc : Nat} {ks : List (List UInt8)} {l : List V} (hk : RStrs d (.slice ka ks.length kc) ks) (hl : RVals d (.slice la l.length lc) l) :
    RVal d [.int .i64 0, .int .i64 0, .int .i64 0, strV [], .slice la l.length lc, .slice ka ks.length kc] (pairV ks l) := RVal.close (v := pairV ks l) i64_0 i64_0 i64_0 (by simp [pairV, V.text]) hl hk
theorem pair_bounds {ks : List (List UInt8)} {l : List V} {n : Nat} (h : bulkV (pairV ks l) ≤ n) : ks.length ≤ n ∧ (∀ x ∈ l, cntV x ≤ n ∧ depthV x ≤ n) ∧ cntV (pairV ks l) ≤ n := by
  have h1 := cnt_bulk (pairV ks l)
  have h2 := cntV_eq (pairV ks l)
  have h3 := depth_txt (pairV ks l)
  have h4 := txt_bulk (pairV ks l)
  have e1 : (pairV ks l).keys = ks := rfl
  have e2 : (pairV ks l).list = l := rfl
  rw [e1, e2] at h2
  refine ⟨by omega, fun x hx => ?_, by omega⟩
  have h5 : depthV x + 1 ≤ depthV (pairV ks l) := depth_mem (v := pairV ks l) hx
  have h6 : cntV x ≤ cntV (pairV ks l) := cnt_mem (v := pairV ks l) hx
  exact ⟨by omega, by omega⟩
def g_thimblelaw03_ValueMakes (f_thimbleref03_Bulk f_thimblelaw03_works f_thimbleref03_Copy f_value_Make f_thimbleref03_Make f_thimbleref03_Same f_thimblelaw03_spoil : Nat) : GFun :=
 ⟨67, [(.tmp 4)],
 (.seq
 (.reg false (.op false ⟨(some 4), none, (.mv (.const (.bool false)))⟩ .done))
 (.seq (.seq
 (.reg false (.op false ⟨(some 10), none, (.mv (.tmp 0))⟩
  (.op false ⟨(some 11), none, (.mv (.tmp 1))⟩
  (.op false ⟨(some 12), none, (.bld [(0, 1), (1, 2), (3, 1), (4, 1), (5, 1)] [(.int .i64 0), (.int .i64 0), (.int .i64 0), (strV []), (.slice none 0 0), (.slice none 0 0)] [(4, (.tmp 10)), (3, (.tmp 11))])⟩
  (.op false ⟨(some 13), none, (.call f_thimbleref03_Bulk [(.tmp 12), (.const (.int .i64 3000))])⟩
  (.op false ⟨(some 14), none, (.bin .gtr (.tmp 13) (.const (.int .i64 3000)))⟩ .done)))))) (.cond (.tmp 14)
 (.seq
 (.reg false (.op false ⟨(some 15), none, (.call f_thimblelaw03_works [])⟩
  (.op false ⟨(some 4), none, (.mv (.tmp 15))⟩ .done))) .ret) .skip))
 (.seq
 (.reg false (.op false ⟨(some 16), none, (.mv (.tmp 0))⟩
  (.op false ⟨(some 17), none, (.mv (.tmp 1))⟩
  (.op false ⟨(some 18), none, (.bld [(0, 1), (1, 2), (3, 1), (4, 1), (5, 1)] [(.int .i64 0), (.int .i64 0), (.int .i64 0), (strV []), (.slice none 0 0), (.slice none 0 0)] [(4, (.tmp 16)), (3, (.tmp 17))])⟩
  (.op false ⟨(some 19), none, (.call f_thimbleref03_Copy [(.tmp 18)])⟩
  (.op false ⟨(some 5), none, (.alo (.agg #[(.int .i64 0), (.int .i64 0), (.int .i64 0), (strV []), (.slice none 0 0), (.slice none 0 0)]))⟩
  (.op false ⟨none, none, (.st 6 (.tmp 5) (.tmp 19))⟩ .done)))))))
 (.seq
 (.reg false (.op false ⟨(some 21), none, (.fld 5 (.tmp 5))⟩
  (.op false ⟨(some 22), none, (.ld none (.tmp 21))⟩
  (.op false ⟨(some 23), none, (.fld 4 (.tmp 5))⟩
  (.op false ⟨(some 24), none, (.ld none (.tmp 23))⟩
  (.op false ⟨(some 25), none, (.call f_value_Make [(.tmp 22), (.tmp 24)])⟩
  (.op false ⟨(some 20), none, (.mv (.tmp 25))⟩
  (.op false ⟨(some 26), none, (.ext (.tmp 20) 0)⟩
  (.op false ⟨(some 27), none, (.ext (.tmp 20) 1)⟩
  (.op false ⟨(some 6), none, (.alo (.agg #[(.int .i64 0), (.int .i64 0), (.int .i64 0), (strV []), (.slice none 0 0), (.slice none 0 0)]))⟩
  (.op false ⟨none, none, (.st 6 (.tmp 6) (.tmp 26))⟩
  (.op false ⟨(some 7), none, (.mv (.tmp 27))⟩ .done))))))))))))
 (.seq
 (.reg false (.op false ⟨(some 29), none, (.mv (.tmp 0))⟩
  (.op false ⟨(some 30), none, (.mv (.tmp 1))⟩
  (.op false ⟨(some 31), none, (.call f_thimbleref03_Make [(.tmp 29), (.tmp 30)])⟩
  (.op false ⟨(some 28), none, (.mv (.tmp 31))⟩
  (.op false ⟨(some 32), none, (.ext (.tmp 28) 0)⟩
  (.op false ⟨(some 33), none, (.ext (.tmp 28) 1)⟩
  (.op false ⟨(some 8), none, (.alo (.agg #[(.int .i64 0), (.int .i64 0), (.int .i64 0), (strV []), (.slice none 0 0), (.slice none 0 0)]))⟩
  (.op false ⟨none, none, (.st 6 (.tmp 8) (.tmp 32))⟩
  (.op false ⟨(some 9), none, (.mv (.tmp 33))⟩ .done))))))))))
 (.seq (.seq
 (.reg false (.op false ⟨(some 34), none, (.ld (some 6) (.tmp 6))⟩
  (.op false ⟨(some 35), none, (.ld (some 6) (.tmp 8))⟩
  (.op false ⟨(some 36), none, (.call f_thimbleref03_Same [(.tmp 34), (.tmp 35)])⟩
  (.op false ⟨(some 37), none, (.un .not (.tmp 36))⟩
  (.op false ⟨(some 38), none, (.mv (.tmp 37))⟩
  (.op false ⟨(some 39), (some (38, false)), (.mv (.tmp 7))⟩
  (.op false ⟨(some 40), (some (38, false)), (.mv (.tmp 9))⟩
  (.op false ⟨(some 41), (some (38, false)), (.bin .neq (.tmp 39) (.tmp 40))⟩
  (.op false ⟨(some 42), none, (.pick (.tmp 38) (.const (.bool true)) (.tmp 41))⟩
  (.op false ⟨(some 43), none, (.mv (.tmp 42))⟩
  (.op false ⟨(some 44), (some (43, false)), (.ld (some 6) (.tmp 5))⟩
  (.op false ⟨(some 45), (some (43, false)), (.mv (.tmp 0))⟩
  (.op false ⟨(some 46), (some (43, false)), (.mv (.tmp 1))⟩
  (.op false ⟨(some 47), (some (43, false)), (.bld [(0, 1), (1, 2), (3, 1), (4, 1), (5, 1)] [(.int .i64 0), (.int .i64 0), (.int .i64 0), (strV []), (.slice none 0 0), (.slice none 0 0)] [(4, (.tmp 45)), (3, (.tmp 46))])⟩
  (.op false ⟨(some 48), (some (43, false)), (.call f_thimbleref03_Same [(.tmp 44), (.tmp 47)])⟩
  (.op false ⟨(some 49), (some (43, false)), (.un .not (.tmp 48))⟩
  (.op false ⟨(some 50), none, (.pick (.tmp 43) (.const (.bool true)) (.tmp 49))⟩ .done)))))))))))))))))) (.cond (.tmp 50)
 (.seq
 (.reg false (.op false ⟨(some 4), none, (.mv (.const (.bool false)))⟩ .done)) .ret) .skip))
 (.seq
 (.reg false (.op false ⟨(some 51), none, (.ld (some 6) (.tmp 6))⟩
  (.op false ⟨(some 52), none, (.call f_thimblelaw03_spoil [(.tmp 51)])⟩ .done)))
 (.seq
 (.reg false (.op false ⟨(some 53), none, (.ld (some 6) (.tmp 5))⟩
  (.op false ⟨(some 54), none, (.mv (.tmp 0))⟩
  (.op false ⟨(some 55), none, (.mv (.tmp 1))⟩
  (.op false ⟨(some 56), none, (.bld [(0, 1), (1, 2), (3, 1), (4, 1), (5, 1)] [(.int .i64 0), (.int .i64 0), (.int .i64 0), (strV []), (.slice none 0 0), (.slice none 0 0)] [(4, (.tmp 54)), (3, (.tmp 55))])⟩
  (.op false ⟨(some 57), none, (.call f_thimbleref03_Same [(.tmp 53), (.tmp 56)])⟩
  (.op false ⟨(some 58), none, (.mv (.tmp 57))⟩
  (.op false ⟨(some 59), none, (.pick (.tmp 58) (.const (.bool true)) (.const (.bool false)))⟩
  (.op false ⟨(some 60), none, (.mv (.tmp 59))⟩
  (.op false ⟨(some 61), none, (.pick (.tmp 60) (.const (.bool true)) (.const (.bool false)))⟩
  (.op false ⟨(some 62), none, (.mv (.tmp 61))⟩
  (.op false ⟨(some 63), none, (.pick (.tmp 62) (.const (.bool true)) (.const (.bool false)))⟩
  (.op false ⟨(some 64), none, (.mv (.tmp 63))⟩
  (.op false ⟨(some 65), (some (64, true)), (.call f_thimblelaw03_works [])⟩
  (.op false ⟨(some 66), none, (.pick (.tmp 64) (.tmp 65) (.const (.bool false)))⟩
  (.op false ⟨(some 4), none, (.mv (.tmp 66))⟩ .done)))))))))))))))) .ret))))))))⟩

set_option maxHeartbeats 2000000 in
theorem valueMakes_ok {T : PHeap → Prop} {P : Program} {f f1 f2 f3 f4 f5 f6 f7 : FuncId} (hT : ∀ {d d' : PHeap}, Le d d' → T d → T d') (hd : decp P f = some (g_thimblelaw03_ValueMakes f1 f2 f3 f4 f5 f6 f7)) (h1 : BulkOk P f1) (h2 : W3Ok T P f2) (h3 : RCopyOk P f3) (h4 : VMakeOk T P f4) (h5 : RMakeTopOk T P f5) (h6 : SameOk P f6) (h7 : Spoil3Ok P f7)
    {d : PHeap} {w1 w2 : Value} {ks : List (List UInt8)} {l : List V} (ht : T d) (hks : RStrs d w1 ks) (hl : RVals d w2 l) : GPure P f [w1, w2] d (.bool true) := by
  obtain ⟨ka, kc, rfl⟩ := RSl.val hks
  obtain ⟨la, lc, rfl⟩ := RSl.val hl
  have hp := pair_rval hks hl
  refine GPure.of' hd (Nat.le_of_ble_eq_true rfl) ?_
  show gwp P _ _ _ _ _
  (apply w_sq; apply w_reg; apply w_mvb; rfl; apply w_done0; apply w_sq; apply w_sq; apply w_reg; apply w_mvs; rfl; apply w_mvs; rfl; apply w_bvQ; rfl; rfl)
  refine w_call0 rfl (h1 (pairV ks l) (most := 3000) hp (by omega)) (fun r d3 L3 _ ⟨hdd, z, hr, hz1, hz2, hz3, hL⟩ => ?_)
  subst hdd; subst hr; subst hL
  by_cases q2 : 3000 < z
  · (apply w_gtr; rfl; rfl; apply w_done0; refine w_ifdT rfl (by omega) ?_; apply w_sq; apply w_reg)
    refine w_pure rfl (h2 ht) ?_
    (apply w_mvb; rfl; apply w_done0; apply w_ret)
    exact finQ rfl
  have hbv : bulkV (pairV ks l) ≤ 3000 := by have := hz3 (by omega); omega
  obtain ⟨hb1, hb2, hb3⟩ := pair_bounds hbv
  (apply w_gtr; rfl; rfl; apply w_done0; refine w_ifdF rfl (by omega) ?_; apply w_skip; apply w_sq; apply w_reg; apply w_mvs; rfl; apply w_mvs; rfl; apply w_bvQ; rfl; rfl)
  refine w_call0 rfl (h3 (pairV ks l) hp (by omega)) (fun r d2 L2 hl2 ⟨hL, cs2, hr, hR2⟩ => ?_)
  subst hL; subst hr
  obtain ⟨lv, kv, hcs, _, _, _, _, hll, hkk⟩ := hR2.open
  obtain ⟨la2, lc2, rfl⟩ := RSl.val hll
  obtain ⟨ka2, kc2, rfl⟩ := RSl.val hkk
  subst hcs
  have hR2 : RVal d2 [.int .i64 0, .int .i64 0, .int .i64 0, strV [], .slice la2 l.length lc2, .slice ka2 ks.length kc2] (pairV ks l) := hR2
  have hll2 : RVals d2 (.slice la2 l.length lc2) l := hll
  have hkk2 : RStrs d2 (.slice ka2 ks.length kc2) ks := hkk
  have hp2 := RVal.mono hl2 hp
  have ht2 := hT hl2 ht
  have hks2 := RStrs.mono hks hl2
  have hl22 := RVals.mono hl hl2
  (apply w_alo; intro _ _)
  rename_i b5 T5
  refine w_stE 0 [.int .i64 0, .int .i64 0, .int .i64 0, strV [], .slice la2 l.length lc2, .slice ka2 ks.length kc2] rfl rfl rfl rfl (Nat.le_of_ble_eq_true rfl) rfl rfl ?_
  (apply w_done0; apply w_sq; apply w_reg; apply w_fld; rfl; apply w_ld; rfl; exact hc_i 0 rfl rfl; apply w_fld; rfl; apply w_ld; rfl; exact hc_i 0 rfl rfl)
  refine w_call0 rfl (h4 ht2 hkk2 hll2 (by omega) (fun x hx => by have := (hb2 x hx).1; omega)) (fun r d4 L4 _ ⟨hdd, cs6, g, hr, hL, ho⟩ => ?_)
  subst hdd; subst hL; subst hr
  obtain ⟨g0, g1, g2, g3, g4, g5, rfl⟩ := six ho.cells.1
  (apply w_mvu; rfl; apply w_ext; rfl; rfl; apply w_ext; rfl; rfl; apply w_alo; intro _ _)
  rename_i b6 T6
  refine w_stE 0 [g0, g1, g2, g3, g4, g5] rfl rfl rfl rfl (Nat.le_of_ble_eq_true rfl) ho.cells.2 rfl ?_
  (apply w_mvi; rfl; apply w_done0; apply w_sq; apply w_reg; apply w_mvs; rfl; apply w_mvs; rfl)
  refine w_call0 rfl (h5 ht2 hks2 hl22 (by omega) (fun x hx => by have := (hb2 x hx).2; omega)) (fun r d5 L5 hl5 ⟨hL, cs8, hr, hR8⟩ => ?_)
  subst hL; subst hr
  obtain ⟨e0, e1, e2, e3, e4, e5, rfl⟩ := six hR8.len
  have hp5 := RVal.mono hl5 hp2
  have hR5 := RVal.mono hl5 hR2
  have ht5 := hT hl5 ht2
  (apply w_mvu; rfl; apply w_ext; rfl; rfl; apply w_ext; rfl; rfl; apply w_alo; intro _ _)
  rename_i b8 T8
  refine w_stE 0 [e0, e1, e2, e3, e4, e5] rfl rfl rfl rfl (Nat.le_of_ble_eq_true rfl) (cell1_val _ _ _ hR8) rfl ?_
  have hs1 : sameV (makeTop ks l).1 (makeTop ks l).1 = true := (sameV_iff _ _).2 rfl
  have hs2 : sameV (pairV ks l) (pairV ks l) = true := (sameV_iff _ _).2 rfl
  have hne : ¬ ((makeTop ks l).2 ≠ (makeTop ks l).2) := by simp
  (apply w_mvi; rfl; apply w_done0; apply w_sq; apply w_sq; apply w_reg; apply w_ldb 1; rfl; rfl; rfl; apply w_ldb 0; rfl; rfl; rfl)
  refine w_pureB rfl (fun d6 hl6 hk6 => h6 _ _ (ho.rval (hk6 g (by simp))) (RVal.mono hl6 hR8)) ?_
  rw [hs1]
  (apply w_not; rfl; apply w_mvb; rfl; apply w_gT; rfl; apply w_mvi; rfl; apply w_gT; rfl; apply w_mvi; rfl; apply w_gT; rfl; apply w_neq; rfl; rfl; apply w_pickFb; rfl; rfl; apply w_mvb; rfl; refine w_gdF rfl (by omega) ?_; apply w_gT; rfl; apply w_ldb 3; rfl; rfl; rfl; apply w_gT; rfl; apply w_mvs; rfl; apply w_gT; rfl; apply w_mvs; rfl; apply w_gT; rfl; apply w_bvQ; rfl; rfl; apply w_gT; rfl)
  refine w_pure rfl (h6 _ _ hR5 hp5) ?_
  rw [hs2]
  (apply w_gT; rfl; apply w_not; rfl; apply w_pickFb; rfl; rfl; apply w_done0; apply w_ifF; rfl; apply w_skip; apply w_sq; apply w_reg; apply w_ldb 1; rfl; rfl; rfl)
  refine w_vs _ [g, bx b8 T8 [e0, e1, e2, e3, e4, e5], bx b6 T6 [g0, g1, g2, g3, g4, g5], bx b5 T5 [.int .i64 0, .int .i64 0, .int .i64 0, strV [], .slice la2 l.length lc2, .slice ka2 ks.length kc2]] (Vs.pick [2, 0, 1, 3] rfl) ?_
  refine w_callA (A := [g]) (B := [bx b8 T8 [e0, e1, e2, e3, e4, e5], bx b6 T6 [g0, g1, g2, g3, g4, g5], bx b5 T5 [.int .i64 0, .int .i64 0, .int .i64 0, strV [], .slice la2 l.length lc2, .slice ka2 ks.length kc2]]) rfl rfl (h7 _ ho) (fun r d6 L6 _ ⟨hdd, hL⟩ => ?_)
  subst hdd; subst hL
  (apply w_done0; apply w_sq; apply w_reg; apply w_ldb 2; rfl; rfl; rfl; apply w_mvs; rfl; apply w_mvs; rfl; apply w_bvQ; rfl; rfl)
  refine w_pure rfl (h6 _ _ hR5 hp5) ?_
  rw [hs2]
  (apply w_mvb; rfl; apply w_pickTb; rfl; rfl; apply w_mvb; rfl; apply w_pickTb; rfl; rfl; apply w_mvb; rfl; apply w_pickTb; rfl; rfl; apply w_mvb; rfl; apply w_gT; rfl)
  refine w_pure rfl (h2 ht5) ?_
  (apply w_pickTb; rfl; rfl; apply w_mvb; rfl; apply w_done0; apply w_ret)
  exact finQ rfl
end Go.Gk.Val
end

section
/-
  The laws of values: ValueTurns.
-/
namespace Go.Gk.Val
open Go Go.Gk Go.Gk.Utf
attribute [local irreducible] gwp gws

theorem turn_top {a : List (List UInt8)} {b : List V} {k : List UInt8} {x : V} (hl : a.length = b.length) (hk : k ∉ a) :
    (makeTop (k :: a) (x :: b)).1 = (makeTop (a ++ [k]) (b ++ [x])).1 ∧ (decide ((makeTop (a ++ [k]) (b ++ [x])).2 = 0) == decide ((makeTop (k :: a) (x :: b)).2 = 0)) = true := by
  have e1 : (k :: a).length = (x :: b).length := by simp [hl]
  have e2 : (a ++ [k]).length = (b ++ [x]).length := by simp [hl]
  have e3 : (k :: a).all u8 = (a ++ [k]).all u8 := by simp [Bool.and_comm]
  have t1 : makeTop (k :: a) (x :: b) = if (a ++ [k]).all u8 = false then (V.zero, 30) else if firstW (x :: b) ≠ 0 then (V.zero, firstW (x :: b)) else if 48 < depthV (makeV (k :: a) (x :: b)) then (V.zero, 31) else (makeV (k :: a) (x :: b), 0) := by
    rw [makeTop, if_neg (fun h => h e1), e3]
  have t2 : makeTop (a ++ [k]) (b ++ [x]) = if (a ++ [k]).all u8 = false then (V.zero, 30) else if firstW (b ++ [x]) ≠ 0 then (V.zero, firstW (b ++ [x])) else if 48 < depthV (makeV (a ++ [k]) (b ++ [x])) then (V.zero, 31) else (makeV (a ++ [k]) (b ++ [x]), 0) := by
    rw [makeTop, if_neg (fun h => h e2)]
  rw [t1, t2]
  cases hu : (a ++ [k]).all u8 with
  | false => rw [if_pos rfl, if_pos rfl]; exact ⟨rfl, rfl⟩
  | true =>
    simp only [Bool.true_eq_false, if_false]
    have hu' : ∀ k' ∈ a ++ [k], u8 k' = true := List.all_eq_true.1 hu
    by_cases q : firstW (b ++ [x]) ≠ 0
    · have q2 : firstW (x :: b) ≠ 0 := fun e => q (first_zero.2 fun y hy => first_zero.1 e y (by simp at hy ⊢; exact hy.symm))
      rw [if_pos q, if_pos q2]
      exact ⟨rfl, by simp [q, q2]⟩
    · have q1 : firstW (b ++ [x]) = 0 := by omega
      have q2 : ¬ firstW (x :: b) ≠ 0 := fun e => e (first_zero.2 fun y hy => first_zero.1 q1 y (by simp at hy ⊢; exact hy.symm))
      rw [if_neg q, if_neg q2, make_turn hu' hl hk]
      exact ⟨rfl, by simp⟩
def g_thimblelaw03_ValueTurns (f_thimblelaw03_works f_thimbleref03_Bulk f_value_Make f_value_Same : Nat) : GFun :=
 ⟨90, [(.tmp 4)],
 (.seq
 (.reg false (.op false ⟨(some 4), none, (.mv (.const (.bool false)))⟩ .done))
 (.seq (.seq
 (.reg false (.op false ⟨(some 12), none, (.call f_thimblelaw03_works [])⟩
  (.op false ⟨(some 13), none, (.un .not (.tmp 12))⟩ .done))) (.cond (.tmp 13)
 (.seq
 (.reg false (.op false ⟨(some 4), none, (.mv (.const (.bool false)))⟩ .done)) .ret) .skip))
 (.seq
 (.reg false (.op false ⟨(some 14), none, (.mv (.tmp 0))⟩
  (.op false ⟨(some 15), none, (.len (.tmp 14))⟩
  (.op false ⟨(some 5), none, (.mv (.tmp 15))⟩ .done))))
 (.seq (.seq
 (.reg false (.op false ⟨(some 16), none, (.mv (.tmp 5))⟩
  (.op false ⟨(some 17), none, (.bin .eql (.tmp 16) (.const (.int .i64 0)))⟩
  (.op false ⟨(some 18), none, (.mv (.tmp 17))⟩
  (.op false ⟨(some 19), (some (18, false)), (.mv (.tmp 5))⟩
  (.op false ⟨(some 20), (some (18, false)), (.mv (.tmp 1))⟩
  (.op false ⟨(some 21), (some (18, false)), (.len (.tmp 20))⟩
  (.op false ⟨(some 22), (some (18, false)), (.bin .neq (.tmp 19) (.tmp 21))⟩
  (.op false ⟨(some 23), none, (.pick (.tmp 18) (.const (.bool true)) (.tmp 22))⟩
  (.op false ⟨(some 24), none, (.mv (.tmp 23))⟩
  (.op false ⟨(some 25), (some (24, false)), (.mv (.tmp 0))⟩
  (.op false ⟨(some 26), (some (24, false)), (.mv (.tmp 1))⟩
  (.op false ⟨(some 27), (some (24, false)), (.bld [(0, 1), (1, 2), (3, 1), (4, 1), (5, 1)] [(.int .i64 0), (.int .i64 0), (.int .i64 0), (strV []), (.slice none 0 0), (.slice none 0 0)] [(4, (.tmp 25)), (3, (.tmp 26))])⟩
  (.op false ⟨(some 28), (some (24, false)), (.call f_thimbleref03_Bulk [(.tmp 27), (.const (.int .i64 1000))])⟩
  (.op false ⟨(some 29), (some (24, false)), (.bin .gtr (.tmp 28) (.const (.int .i64 1000)))⟩
  (.op false ⟨(some 30), none, (.pick (.tmp 24) (.const (.bool true)) (.tmp 29))⟩ .done)))))))))))))))) (.cond (.tmp 30)
 (.seq
 (.reg false (.op false ⟨(some 4), none, (.mv (.const (.bool true)))⟩ .done)) .ret) .skip))
 (.seq (.seq
 (.reg false (.op false ⟨(some 31), none, (.mv (.tmp 0))⟩
  (.op false ⟨(some 32), none, (.mv (.tmp 5))⟩
  (.op false ⟨(some 33), none, (.bin .sub (.tmp 32) (.const (.int .i64 1)))⟩
  (.op false ⟨(some 34), none, (.sl 1 (.tmp 31) none (some (.tmp 33)) none)⟩
  (.op false ⟨(some 35), none, (.len (.tmp 34))⟩
  (.op false ⟨(some 36), none, (.mv (.const (.int .i64 0)))⟩ .done))))))) (.block 0 (.loop
 (.seq
 (.reg false (.op false ⟨(some 37), none, (.bin .lss (.tmp 36) (.tmp 35))⟩ .done))
 (.seq (.cond (.tmp 37) .skip (.exit 0))
 (.seq (.block 1
 (.seq
 (.reg false (.op false ⟨(some 38), none, (.idx 1 (.tmp 34) (.tmp 36))⟩
  (.op false ⟨(some 39), none, (.ld none (.tmp 38))⟩
  (.op false ⟨(some 7), none, (.mv (.tmp 39))⟩ .done))))
 (.seq
 (.reg false (.op false ⟨(some 40), none, (.mv (.tmp 7))⟩
  (.op false ⟨(some 41), none, (.mv (.tmp 0))⟩
  (.op false ⟨(some 42), none, (.mv (.tmp 5))⟩
  (.op false ⟨(some 43), none, (.bin .sub (.tmp 42) (.const (.int .i64 1)))⟩
  (.op false ⟨(some 44), none, (.idx 1 (.tmp 41) (.tmp 43))⟩
  (.op false ⟨(some 45), none, (.ld none (.tmp 44))⟩
  (.op false ⟨(some 46), none, (.bin .eql (.tmp 40) (.tmp 45))⟩ .done)))))))) (.cond (.tmp 46)
 (.seq
 (.reg false (.op false ⟨(some 4), none, (.mv (.const (.bool true)))⟩ .done)) .ret) .skip))))
 (.reg false (.op false ⟨(some 47), none, (.bin .add (.tmp 36) (.const (.int .i64 1)))⟩
  (.op false ⟨(some 36), none, (.mv (.tmp 47))⟩ .done)))))))))
 (.seq
 (.reg false (.op false ⟨(some 49), none, (.mv (.tmp 0))⟩
  (.op false ⟨(some 50), none, (.mv (.tmp 1))⟩
  (.op false ⟨(some 51), none, (.call f_value_Make [(.tmp 49), (.tmp 50)])⟩
  (.op false ⟨(some 48), none, (.mv (.tmp 51))⟩
  (.op false ⟨(some 52), none, (.ext (.tmp 48) 0)⟩
  (.op false ⟨(some 53), none, (.ext (.tmp 48) 1)⟩
  (.op false ⟨(some 8), none, (.alo (.agg #[(.int .i64 0), (.int .i64 0), (.int .i64 0), (strV []), (.slice none 0 0), (.slice none 0 0)]))⟩
  (.op false ⟨none, none, (.st 6 (.tmp 8) (.tmp 52))⟩
  (.op false ⟨(some 9), none, (.mv (.tmp 53))⟩ .done))))))))))
 (.seq
 (.reg true (.op true ⟨(some 55), none, (.mv (.tmp 0))⟩
  (.op true ⟨(some 56), none, (.mv (.tmp 5))⟩
  (.op true ⟨(some 57), none, (.bin .sub (.tmp 56) (.const (.int .i64 1)))⟩
  (.op true ⟨(some 58), none, (.idx 1 (.tmp 55) (.tmp 57))⟩
  (.op true ⟨(some 59), none, (.ld none (.tmp 58))⟩
  (.op true ⟨(some 61), none, (.mv (.tmp 0))⟩
  (.op true ⟨(some 62), none, (.mv (.tmp 5))⟩
  (.op true ⟨(some 63), none, (.bin .sub (.tmp 62) (.const (.int .i64 1)))⟩
  (.op true ⟨(some 64), none, (.sl 1 (.tmp 61) none (some (.tmp 63)) none)⟩
  (.op true ⟨(some 66), none, (.mv (.tmp 1))⟩
  (.op true ⟨(some 67), none, (.mv (.tmp 5))⟩
  (.op true ⟨(some 68), none, (.bin .sub (.tmp 67) (.const (.int .i64 1)))⟩
  (.op true ⟨(some 69), none, (.idx 6 (.tmp 66) (.tmp 68))⟩
  (.op true ⟨(some 70), none, (.ld (some 6) (.tmp 69))⟩
  (.op true ⟨(some 72), none, (.mv (.tmp 1))⟩
  (.op true ⟨(some 73), none, (.mv (.tmp 5))⟩
  (.op true ⟨(some 74), none, (.bin .sub (.tmp 73) (.const (.int .i64 1)))⟩
  (.op true ⟨(some 75), none, (.sl 6 (.tmp 72) none (some (.tmp 74)) none)⟩ (.par (.op false ⟨(some 10), none, (.alo (.agg #[(.int .i64 0), (.int .i64 0), (.int .i64 0), (strV []), (.slice none 0 0), (.slice none 0 0)]))⟩ .done) (.par (.op false ⟨(some 71), none, (.bsl 1 6 [(.int .i64 0), (.int .i64 0), (.int .i64 0), (strV []), (.slice none 0 0), (.slice none 0 0)] [(0, (.tmp 70))])⟩ .done) (.op false ⟨(some 60), none, (.bsl 1 1 [(strV [])] [(0, (.tmp 59))])⟩
  (.op false ⟨(some 65), none, (.app 1 16 [(strV [])] (.tmp 60) (.tmp 64))⟩ .done)) (.op false ⟨(some 76), none, (.app 6 88 [(.int .i64 0), (.int .i64 0), (.int .i64 0), (strV []), (.slice none 0 0), (.slice none 0 0)] (.tmp 71) (.tmp 75))⟩
  (.op false ⟨(some 77), none, (.call f_value_Make [(.tmp 65), (.tmp 76)])⟩
  (.op true ⟨(some 54), none, (.mv (.tmp 77))⟩
  (.op true ⟨(some 78), none, (.ext (.tmp 54) 0)⟩
  (.op true ⟨(some 79), none, (.ext (.tmp 54) 1)⟩ .done)))))) (.op false ⟨none, none, (.st 6 (.tmp 10) (.tmp 78))⟩
  (.op true ⟨(some 11), none, (.mv (.tmp 79))⟩ .done))))))))))))))))))))))
 (.seq
 (.reg false (.op false ⟨(some 80), none, (.mv (.tmp 9))⟩
  (.op false ⟨(some 81), none, (.bin .eql (.tmp 80) (.const (.int .i64 0)))⟩
  (.op false ⟨(some 82), none, (.mv (.tmp 11))⟩
  (.op false ⟨(some 83), none, (.bin .eql (.tmp 82) (.const (.int .i64 0)))⟩
  (.op false ⟨(some 84), none, (.eqb false (.tmp 81) (.tmp 83))⟩
  (.op false ⟨(some 85), none, (.mv (.tmp 84))⟩
  (.op false ⟨(some 86), (some (85, true)), (.ld (some 6) (.tmp 8))⟩
  (.op false ⟨(some 87), (some (85, true)), (.ld (some 6) (.tmp 10))⟩
  (.op false ⟨(some 88), (some (85, true)), (.call f_value_Same [(.tmp 86), (.tmp 87)])⟩
  (.op false ⟨(some 89), none, (.pick (.tmp 85) (.tmp 88) (.const (.bool false)))⟩
  (.op false ⟨(some 4), none, (.mv (.tmp 89))⟩ .done)))))))))))) .ret))))))))⟩

set_option maxHeartbeats 2000000 in
theorem valueTurns_ok {T : PHeap → Prop} {P : Program} {f f1 f2 f3 f4 : FuncId} (hT : ∀ {d d' : PHeap}, Le d d' → T d → T d') (hd : decp P f = some (g_thimblelaw03_ValueTurns f1 f2 f3 f4)) (h1 : W3Ok T P f1) (h2 : BulkOk P f2) (h3 : VMakeOk T P f3) (h4 : SameOk P f4)
    {d : PHeap} {w1 w2 : Value} {ks : List (List UInt8)} {l : List V} (ht : T d) (hks : RStrs d w1 ks) (hl : RVals d w2 l) : GPure P f [w1, w2] d (.bool true) := by
  obtain ⟨ka, kc, rfl⟩ := RSl.val hks
  obtain ⟨la, lc, rfl⟩ := RSl.val hl
  have hp := pair_rval hks hl
  have hks' : RSl 1 RStr d (.slice ka ks.length kc) ks := hks
  have hl' : RSl 6 RVal d (.slice la l.length lc) l := hl
  have hkl := RSl.len_le hks'
  refine GPure.of' hd (Nat.le_of_ble_eq_true rfl) ?_
  show gwp P _ _ _ _ _
  (apply w_sq; apply w_reg; apply w_mvb; rfl; apply w_done0; apply w_sq; apply w_sq; apply w_reg)
  refine w_pure rfl (h1 ht) ?_
  by_cases z0 : (ks.length : Int) = 0
  · (apply w_not; rfl; apply w_done0; apply w_ifF; rfl; apply w_skip; apply w_sq; apply w_reg; apply w_mvs; rfl; apply w_len; rfl; apply w_mvi; rfl; apply w_done0; apply w_sq; apply w_sq; apply w_reg; apply w_mvi; rfl; apply w_eql; rfl; rfl; apply w_mvb; rfl; refine w_gdT rfl (by omega) ?_; apply w_gF; rfl; apply w_gF; rfl; apply w_gF; rfl; apply w_gF; rfl; apply w_pickTb; rfl; rfl; apply w_mvb; rfl; apply w_gF; rfl; apply w_gF; rfl; apply w_gF; rfl; apply w_gF; rfl; apply w_gF; rfl; apply w_pickTb; rfl; rfl; apply w_done0; apply w_ifT; rfl; apply w_sq; apply w_reg; apply w_mvb; rfl; apply w_done0; apply w_ret)
    exact finQ rfl
  by_cases z1 : (ks.length : Int) ≠ l.length
  · (apply w_not; rfl; apply w_done0; apply w_ifF; rfl; apply w_skip; apply w_sq; apply w_reg; apply w_mvs; rfl; apply w_len; rfl; apply w_mvi; rfl; apply w_done0; apply w_sq; apply w_sq; apply w_reg; apply w_mvi; rfl; apply w_eql; rfl; rfl; apply w_mvb; rfl; refine w_gdF rfl (by omega) ?_; apply w_gT; rfl; apply w_mvi; rfl; apply w_gT; rfl; apply w_mvs; rfl; apply w_gT; rfl; apply w_len; rfl; apply w_gT; rfl; apply w_neq; rfl; rfl; apply w_pickFb; rfl; rfl; apply w_mvb; rfl; refine w_gdT rfl (by omega) ?_; apply w_gF; rfl; apply w_gF; rfl; apply w_gF; rfl; apply w_gF; rfl; apply w_gF; rfl; apply w_pickTb; rfl; rfl; apply w_done0; apply w_ifT; rfl; apply w_sq; apply w_reg; apply w_mvb; rfl; apply w_done0; apply w_ret)
    exact finQ rfl
  (apply w_not; rfl; apply w_done0; apply w_ifF; rfl; apply w_skip; apply w_sq; apply w_reg; apply w_mvs; rfl; apply w_len; rfl; apply w_mvi; rfl; apply w_done0; apply w_sq; apply w_sq; apply w_reg; apply w_mvi; rfl; apply w_eql; rfl; rfl; apply w_mvb; rfl; refine w_gdF rfl (by omega) ?_; apply w_gT; rfl; apply w_mvi; rfl; apply w_gT; rfl; apply w_mvs; rfl; apply w_gT; rfl; apply w_len; rfl; apply w_gT; rfl; apply w_neq; rfl; rfl; apply w_pickFb; rfl; rfl; apply w_mvb; rfl; refine w_gdF rfl (by omega) ?_; apply w_gT; rfl; apply w_mvs; rfl; apply w_gT; rfl; apply w_mvs; rfl; apply w_gT; rfl; apply w_bvQ; rfl; rfl; apply w_gT; rfl)
  refine w_call0 rfl (h2 (pairV ks l) (most := 1000) hp (by omega)) (fun r d3 L3 _ ⟨hdd, z, hr, hz1, hz2, hz3, hL⟩ => ?_)
  subst hdd; subst hr; subst hL
  by_cases q2 : 1000 < z
  · (apply w_gT; rfl; apply w_gtr; rfl; rfl; apply w_pickFb; rfl; rfl; apply w_done0; refine w_ifdT rfl (by omega) ?_; apply w_sq; apply w_reg; apply w_mvb; rfl; apply w_done0; apply w_ret)
    exact finQ rfl
  have hbv : bulkV (pairV ks l) ≤ 1000 := by have := hz3 (by omega); omega
  obtain ⟨hb1, hb2, hb3⟩ := pair_bounds hbv
  have hlen : ks.length = l.length := by omega
  obtain ⟨n, hn⟩ : ∃ n, ks.length = n + 1 := ⟨ks.length - 1, by omega⟩
  have hnl : n < l.length := by omega
  have hnk : n < ks.length := by omega
  have htl : (ks.take n).length = n := by simp; omega
  (apply w_gT; rfl; apply w_gtr; rfl; rfl; apply w_pickFb; rfl; rfl; apply w_done0; refine w_ifdF rfl (by omega) ?_; apply w_skip; apply w_sq; apply w_sq; apply w_reg; apply w_mvs; rfl; apply w_mvi; rfl; apply w_sub; rfl; rfl; omega; omega)
  refine w_slTo (n := n) rfl hks' rfl (by omega) (by omega) (fun v34 r34 => ?_)
  obtain ⟨a34, c34, rfl⟩ := RSl.val r34
  have r34' : RSl 1 RStr d3 (.slice a34 (ks.take n).length c34) (ks.take n) := r34
  (apply w_len; rfl; apply w_mvi; rfl; apply w_done0; apply w_block)
  refine w_loopN (α := Nat) (fun i => [(0, .slice ka ks.length kc), (1, .slice la l.length lc), (5, .int .i64 ks.length), (34, .slice a34 (ks.take n).length c34), (35, .int .i64 (ks.take n).length), (36, .int .i64 i)]) (fun _ => [])
    (fun i => i ≤ n ∧ ∀ j (h : j < n), j < i → ks[j] ≠ ks[n]) (fun i => n - i) 0 ⟨rfl, rfl, rfl, rfl, rfl, rfl, trivial⟩ rfl ⟨Nat.zero_le _, fun j _ h => absurd h (Nat.not_lt_zero j)⟩ ?_
  rintro i ρ ⟨hi, hno⟩
  by_cases hc : i < n
  · have hc2 : i < (ks.take n).length := by omega
    have hgt : (ks.take n)[i] = ks[i] := List.getElem_take ..
    (apply w_sq; apply w_reg; apply w_lss; rfl; rfl; apply w_done0; apply w_sq; refine w_ifdT rfl (by omega) ?_; apply w_skip; apply w_sq; apply w_block; apply w_sq; apply w_reg; refine w_idxR (sz := 1) (R := RStr) (by rfl) (by assumption) (by rfl) rfl (by omega) ?_; rintro _ _ _ _ _ ⟨rfl, _⟩; apply w_ld; rfl; exact hc_ds0 (by assumption) rfl; apply w_mvt; rfl; apply w_done0; apply w_sq; apply w_reg; apply w_mvt; rfl; apply w_mvs; rfl; apply w_mvi; rfl; apply w_sub; rfl; rfl; omega; omega)
    refine w_idxR (sz := 1) (R := RStr) (m := n) rfl hks' rfl (by omega) hnk ?_
    rintro b44 o44 _ _ hD44 ⟨rfl, _⟩
    by_cases he : (ks.take n)[i] = ks[n]
    · (apply w_ld; rfl; exact hc_ds0 (by assumption) rfl; apply w_seq; rfl; rfl; apply w_done0; refine w_ifdT rfl (by omega) ?_; apply w_sq; apply w_reg; apply w_mvb; rfl; apply w_done0; apply w_ret)
      exact finQ rfl
    · (apply w_ld; rfl; exact hc_ds0 (by assumption) rfl; apply w_seq; rfl; rfl; apply w_done0; refine w_ifdF rfl (by omega) ?_; apply w_skip; apply w_reg; apply w_add; rfl; rfl; omega; omega; apply w_mvi; rfl; apply w_done0)
      exact ⟨i + 1, by omega, ⟨rfl, rfl, rfl, rfl, rfl, int_eq (by omega), trivial⟩, rfl, rfl, hc, fun j h1 h2 => if e : j = i then (by subst e; rw [← hgt]; exact he) else hno j h1 (by omega)⟩
  obtain rfl : i = n := by omega
  have hkn : ks[i] ∉ ks.take i := fun h => by
    obtain ⟨j, hj, e⟩ := List.getElem_of_mem h
    rw [List.getElem_take] at e
    have hj2 : j < i := by simp at hj; omega
    exact hno j hj2 hj2 e
  have hks2 : ks = ks.take i ++ [ks[i]] := by rw [← List.take_succ_eq_append_getElem hnk, List.take_of_length_le (by omega)]
  have hl2 : l = l.take i ++ [l[i]] := by rw [← List.take_succ_eq_append_getElem hnl, List.take_of_length_le (by omega)]
  obtain ⟨ht1, ht2⟩ := turn_top (a := ks.take i) (b := l.take i) (x := l[i]) (by simp; omega) hkn
  rw [← hks2, ← hl2] at ht1 ht2
  have hr1 : ∀ x ∈ l, cntV x ≤ 1000000 := fun x hx => by have := (hb2 x hx).1; omega
  have hr2 : ∀ x ∈ l[i] :: l.take i, cntV x ≤ 1000000 := fun x hx => (List.mem_cons.1 hx).elim (fun e => e ▸ hr1 _ (List.getElem_mem hnl)) (fun h => hr1 x (List.mem_of_mem_take h))
  generalize hR1 : makeTop ks l = R1 at *
  generalize hR2 : makeTop (ks[i] :: ks.take i) (l[i] :: l.take i) = R2 at *
  have hb : (false ^^ (decide (R1.2 = 0) == decide (R2.2 = 0))) = true := by rw [ht2]; rfl
  (apply w_sq; apply w_reg; apply w_lss; rfl; rfl; apply w_done0; apply w_sq; refine w_ifdF rfl (by omega) ?_; apply w_exit; apply w_sq; apply w_reg; apply w_mvs; rfl; apply w_mvs; rfl)
  refine w_call0 rfl (h3 ht hks hl (by omega) hr1) (fun r d4 L4 _ ⟨hdd, cs6, g, hr, hL, ho⟩ => ?_)
  subst hdd; subst hL; subst hr
  rw [hR1] at *
  refine w_frz (fun d4 hl4 hg4 => ?_)
  have hRa := ho.rval hg4
  obtain ⟨g0, g1, g2, g3, g4, g5, rfl⟩ := six hRa.len
  have hks4 : RSl 1 RStr d4 (.slice ka ks.length kc) ks := RStrs.mono hks hl4
  have hl44 : RSl 6 RVal d4 (.slice la l.length lc) l := RVals.mono hl hl4
  have ht4 := hT hl4 ht
  clear hks' hl' r34 r34' hp
  (apply w_mvu; rfl; apply w_ext; rfl; rfl; apply w_ext; rfl; rfl; apply w_alo; intro _ _)
  rename_i b8 T8
  refine w_stE 0 [g0, g1, g2, g3, g4, g5] rfl rfl rfl rfl (Nat.le_of_ble_eq_true rfl) (cell1_val _ _ _ hRa) rfl ?_
  (apply w_mvi; rfl; apply w_done0; apply w_sq)
  refine w_drawn ?_
  (apply w_mvs; rfl; apply w_mvi; rfl; apply w_sub; rfl; rfl; omega; omega)
  refine w_idxR (sz := 1) (R := RStr) (m := i) rfl hks4 rfl (by omega) hnk ?_
  rintro b58 o58 _ _ hD58 ⟨rfl, hkl58⟩
  (apply w_ld; rfl; exact hc_ds0 (by assumption) rfl; apply w_mvs; rfl; apply w_mvi; rfl; apply w_sub; rfl; rfl; omega; omega)
  refine w_slTo (n := i) rfl hks4 rfl (by omega) (by omega) (fun v64 r64 => ?_)
  (apply w_mvs; rfl; apply w_mvi; rfl; apply w_sub; rfl; rfl; omega; omega)
  refine w_idxR (sz := 6) (R := RVal) (m := i) rfl hl44 rfl (by omega) hnl ?_
  rintro b69 o69 cs9 hcs9 hD69 hR9
  (apply w_ldd; rfl; assumption; assumption; apply w_mvs; rfl; apply w_mvi; rfl; apply w_sub; rfl; rfl; omega; omega)
  refine w_slTo (n := i) rfl hl44 rfl (by omega) (by omega) (fun v75 r75 => ?_)
  refine w_par (α := Nat × TypeId) (β := List Value × PHeap) [(9, .int .i64 R1.2), (8, .pointer (some ⟨b8, 0, none⟩))] (fun x => [(10, .pointer (some ⟨x.1, 0, none⟩))]) (fun x d L => L = [bx x.1 x.2 zVal])
    (fun y => [(78, .agg y.1.toArray), (79, .int .i64 R2.2)]) (fun y d L => OVal y.1 R2.1 y.2 ∧ L = [y.2]) [] [] rfl
    (fun x d d' M hl h => h) (fun y d d' M hl h => h) (fun x => rfl) (fun y => rfl) rfl ⟨rfl, rfl, trivial⟩ ?_ ?_ ?_
  · (apply w_alo; intro _ _; apply w_done)
    exact ⟨_, rfl, (_, _), ⟨rfl, trivial⟩, rfl⟩
  · refine w_par (α := Nat × TypeId) (β := Value × PHeap) [(75, v75)] (fun x => [(71, .slice (some ⟨x.1, 0, none⟩) 1 1)]) (fun x d L => L = [bx x.1 x.2 cs9])
      (fun y => [(65, y.1)]) (fun y d L => GRow 1 RStr d y.1 (ks[i] :: ks.take i) y.2 ∧ L = [y.2]) [] [] rfl
      (fun x d d' M hl h => h) (fun y d d' M hl h => ⟨GRow.mono (R := RStr) mono_str h.1 hl, h.2⟩) (fun x => rfl) (fun y => rfl) rfl ⟨rfl, trivial⟩ ?_ ?_ ?_
    · refine w_bsV rfl hcs9 (fun b71 T71 => ?_)
      refine w_done ?_
      exact ⟨_, rfl, (b71, T71), ⟨rfl, trivial⟩, rfl⟩
    · refine w_bs1 (v0 := strV ks[i]) rfl rfl (fun b60 T60 => ?_)
      refine w_appG (R := RStr) (xs := [ks[i]]) (ys := ks.take i) 0 rfl rfl (GRow.lit1 (R := RStr) rfl ⟨rfl, hkl58⟩) rfl (RSl.src (R := RStr) r64 cell1_str (by omega) _) (by omega) (by simp; omega) (by simp; omega) (fun v65 g65 o65 => ?_)
      refine w_done ?_
      exact ⟨_, rfl, (v65, g65), ⟨rfl, trivial⟩, o65, rfl⟩
    rintro ⟨b71, T71⟩ ⟨v65, g65⟩ ρ d5 M1 M2 hl5 hM1 ⟨o65, hM2⟩
    subst hM1; subst hM2
    refine w_appG (R := RVal) (xs := [l[i]]) (ys := l.take i) 0 rfl rfl (GRow.lit1 (R := RVal) hcs9 (RVal.mono hl5 hR9)) rfl (RSl.src (R := RVal) (RVals.mono r75 hl5) cell1_val (by omega) _) (by omega) (by simp; omega) (by simp; omega) (fun v76 g76 o76 => ?_)
    refine w_frz (fun d6 hl6 hg6 => ?_)
    refine w_frz (fun d7 hl7 hg7 => ?_)
    have hk7 : RStrs d7 v65 (ks[i] :: ks.take i) := GRow.rsl (R := RStr) o65 mono_str (by omega) (hl6.trans hl7) hg7
    have hl77 : RVals d7 v76 (l[i] :: l.take i) := GRow.rsl (R := RVal) o76 mono_val (by omega) (hl6.trans hl7) (hg6.trans hl7)
    have hmk := h3 (hT (hl5.trans (hl6.trans hl7)) ht4) hk7 hl77 (by simp; omega) hr2
    rw [hR2] at hmk
    refine w_call0 rfl hmk (fun r d8 L8 _ ⟨hdd, csb, gb, hr, hL, hob⟩ => ?_)
    subst hdd; subst hL; subst hr
    (apply w_mvu; rfl; apply w_ext; rfl; rfl; apply w_ext; rfl; rfl; apply w_done)
    exact ⟨_, rfl, (csb, gb), ⟨rfl, rfl, trivial⟩, hob, rfl⟩
  rintro ⟨b10, T10⟩ ⟨csb, gb⟩ ρ d5 M1 M2 hl5 hM1 ⟨hob, hM2⟩
  subst hM1; subst hM2
  obtain ⟨e0, e1, e2, e3, e4, e5, rfl⟩ := six hob.cells.1
  have hRa5 := RVal.mono hl5 hRa
  have hss : sameV R1.1 R2.1 = true := (sameV_iff _ _).2 ht1.symm
  refine w_stE 0 [e0, e1, e2, e3, e4, e5] rfl rfl rfl rfl (Nat.le_of_ble_eq_true rfl) hob.cells.2 rfl ?_
  (apply w_mvi; rfl; apply w_done; apply w_sq; apply w_reg; apply w_mvi; rfl; apply w_eql; rfl; rfl; apply w_mvi; rfl; apply w_eql; rfl; rfl; apply w_eqb; rfl; rfl; apply w_mvb; rfl; apply w_gbT; rfl; (with_reducible assumption); apply w_gT; rfl; apply w_ldb 0; rfl; rfl; rfl; apply w_gT; rfl; apply w_ldb 1; rfl; rfl; rfl; apply w_gT; rfl)
  refine w_pureB rfl (fun d6 hl6 hk6 => h4 _ _ (RVal.mono hl6 hRa5) (hob.rval (hk6 gb (by simp)))) ?_
  rw [hss]
  (apply w_pickTb; rfl; rfl; apply w_mvb; rfl; apply w_done0; apply w_ret)
  exact finQ rfl
end Go.Gk.Val
end
