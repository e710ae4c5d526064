/-
  Our own texts, one behind the other: GkM4 GkT0 GkM5 GkM6.
-/
import Derived.Test.YtdhggoahkbnmmaaDoorPkE
section
/-
  Maps that are made, as the program makes them.
-/
namespace Go.Gk.Val
open Go Go.Gk Go.Gk.Utf
attribute [local irreducible] gwp gws

abbrev intE (i : Int) : Value := .int .i64 i
def VMakeOk (T : PHeap → Prop) (P : Program) (f : FuncId) : Prop := ∀ {d : PHeap} {w1 w2 : Value} {ks : List (List UInt8)} {l : List V}, T d → RStrs d w1 ks → RVals d w2 l → ks.length ≤ 1000000 → (∀ x ∈ l, cntV x ≤ 1000000) →
  GCall P f [w1, w2] d [] (Ret fun r d' L' => d' = d ∧ ∃ cs' h, r = .tuple #[.agg cs'.toArray, .int .i64 (makeTop ks l).2] ∧ L' = [h] ∧ OVal cs' (makeTop ks l).1 h)
theorem make_pack {P : Program} {f : FuncId} {v : V} {e : Int} {d : PHeap} {args : List Value} (hk : I64 v.kind ∧ I64 v.m ∧ I64 v.e ∧ v.text.length ≤ 140737488355328) (h : GCall P f args d [] (Ret fun r d' L' => d' = d ∧ ∃ cs', r = .tuple #[.agg cs'.toArray, .int .i64 e] ∧ OParts v cs' L')) :
    GCall P f args d [] (Ret fun r d' L' => d' = d ∧ ∃ cs' h, r = .tuple #[.agg cs'.toArray, .int .i64 e] ∧ L' = [h] ∧ OVal cs' v h) := by
  refine (Ok.disj h).monoV (fun e d' L' _ r => ?_)
  cases e with
  | panicked c => exact r.elim
  | outgrown => exact r.elim
  | returned u =>
    obtain ⟨⟨hdd, cs', hr, lv, kv, hk', hl, ccs, hs, hcs, gk, gl, hsl, el, hL⟩, hp⟩ := r
    subst hL
    obtain ⟨k, m, e, t, l, ks⟩ := v
    obtain ⟨ik, im, ie, it⟩ := hk
    exact ⟨d', _, Vs.pack _, hdd, cs', _, hr, rfl, by rw [hcs]; exact OVal.mk ik im ie it gk gl hsl el (List.pairwise_cons.1 hp).2⟩
theorem make_i64 (ks : List (List UInt8)) (l : List V) : I64 (makeTop ks l).1.kind ∧ I64 (makeTop ks l).1.m ∧ I64 (makeTop ks l).1.e ∧ (makeTop ks l).1.text.length ≤ 140737488355328 := by
  have hz : I64 V.zero.kind ∧ I64 V.zero.m ∧ I64 V.zero.e ∧ V.zero.text.length ≤ 140737488355328 := ⟨⟨by decide, by decide⟩, ⟨by decide, by decide⟩, ⟨by decide, by decide⟩, by decide⟩
  have hv : I64 (makeV ks l).kind ∧ I64 (makeV ks l).m ∧ I64 (makeV ks l).e ∧ (makeV ks l).text.length ≤ 140737488355328 := ⟨i64_6, i64_0, i64_0, by show ([] : List UInt8).length ≤ _; simp⟩
  unfold makeTop
  repeat' split
  · exact hz
  · exact hz
  · exact hz
  · exact hz
  · exact hv
theorem OParts.zero : OParts V.zero zVal [emp, emp] := ⟨_, _, emp, emp, [], [], rfl, GRow.nil, ORow.nil 6, rfl, fun i h => absurd h (Nat.not_lt_zero i), rfl⟩
theorem nodup_of_map {α β : Type} (f : α → β) {l : List α} (h : (l.map f).Nodup) : l.Nodup := (List.pairwise_map.1 h).imp fun hne e => hne (by rw [e])
theorem seen_lt {ms qs : Ms} {p : List UInt8 × Int × Nat} (hn : qs.Nodup) (hs : qs ⊆ ms) (hp : p ∈ ms) (hq : p ∉ qs) : qs.length < ms.length := by
  have h1 : (p :: qs).Nodup := List.nodup_cons.2 ⟨hq, hn⟩
  have h2 : p :: qs ⊆ ms := fun x hx => (List.mem_cons.1 hx).elim (fun e => e ▸ hp) (fun h => hs h)
  have := h1.length_le_of_subset h2
  rw [List.length_cons] at this; exact this
theorem born_inj {ks : List (List UInt8)} {n : Nat} {p q : List UInt8 × Int × Nat} (hp : p ∈ msN ks n) (hq : q ∈ msN ks n) (h : p.2.2 = q.2.2) : p = q := by
  have hb := ms_born ks n
  obtain ⟨i, hi, rfl⟩ := List.getElem_of_mem hp
  obtain ⟨j, hj, rfl⟩ := List.getElem_of_mem hq
  have e1 : ((msN ks n).map (·.2.2))[i]'(by simpa using hi) = i := by simp [hb]
  have e2 : ((msN ks n).map (·.2.2))[j]'(by simpa using hj) = j := by simp [hb]
  rw [List.getElem_map] at e1 e2
  have : i = j := by rw [← e1, ← e2]; exact h
  subst this; rfl
theorem born_nodup (ks : List (List UInt8)) (n : Nat) : ((msN ks n).map (·.2.2)).Nodup := by rw [ms_born]; exact List.nodup_range
section
variable {P : Program} {pan : List PanicEntry → Post} {Qn : Env → Post} {Ls L : List PHeap} {ρ : Env} {d : PHeap} {s : GS} {t : Nat} {tk : Bool}
theorem w_ldo {x : Operand} {b o : Nat} {T : TypeId} {l : List Value} {u : Value} (i : Nat) (e : ev ρ x = .pointer (some ⟨b, o, none⟩)) (hi : (lk tk Ls L)[i]? = some (bx b T l)) (hu : l[o]? = some u) (h : gws P pan Qn s Ls (upd ρ t u) d L) :
    gws P pan Qn (.op tk ⟨some t, none, .ld none x⟩ s) Ls ρ d L := w_ld e (hc_i i hi hu) h
end
theorem row_openS {d : PHeap} {v : Value} {xs : List (List UInt8)} {h : PHeap} (o : GRow 1 RStr d v xs h) {m : Nat} (hm : m < xs.length) :
    ∃ b T l c, v = .slice (some ⟨b, 0, none⟩) xs.length c ∧ h = bx b T l ∧ l[m]? = some (strV xs[m]) := by
  obtain ⟨cs, ho, hr⟩ := o
  obtain ⟨b, T, l, c, h1, h2, _, h4, _⟩ := ho.open1 hm
  have hl := ho.1
  refine ⟨b, T, l, c, h1, h2, h4 _ ?_⟩
  have he := (hr m hm).1
  have hm2 : m < cs.length := by omega
  simp only [chunk, Nat.mul_one] at he
  rw [List.drop_eq_getElem_cons hm2, List.take_succ_cons, List.take_zero] at he
  rw [List.getElem?_eq_getElem hm2, (List.cons.inj he).1]
theorem finZ {ρ : Env} {d : PHeap} {L : List PHeap} {b t u : Nat} {T : TypeId} {e : Int} (i : Nat) (e4 : ρ t = .pointer (some ⟨b, 0, none⟩)) (hi : L[i]? = some (bx b T zVal)) (e5 : ρ u = .int .i64 e) :
    retPost [.cell t (some 6), .tmp u] (Ret fun r _ L' => ∃ cs', r = .tuple #[.agg cs'.toArray, .int .i64 e] ∧ OParts V.zero cs' L') ρ d L :=
  finV (L' := [emp, emp]) [.agg zVal.toArray, .int .i64 e] ⟨res_cell i e4 hi rfl, res_tmp e5, trivial⟩ ((Vs.emp.trans Vs.emp).trans (Vs.drop (((List.nil_sublist L).cons_cons _).cons_cons _))) ⟨zVal, rfl, OParts.zero⟩
def g_value_Make (f_value_every_string f_quote_Right f_value_Right f_slices_Sort_string_string f_value_Copy : Nat) : GFun :=
 ⟨91, [(.cell 4 (some 6)), (.tmp 5)],
 (.seq
 (.reg false (.op false ⟨(some 4), none, (.alo (.agg #[(.int .i64 0), (.int .i64 0), (.int .i64 0), (strV []), (.slice none 0 0), (.slice none 0 0)]))⟩
  (.op false ⟨(some 5), none, (.mv (.const (.int .i64 0)))⟩ .done)))
 (.seq (.block 0
 (.seq
 (.reg false (.op false ⟨(some 16), none, (.mv (.tmp 0))⟩
  (.op false ⟨(some 17), none, (.len (.tmp 16))⟩
  (.op false ⟨(some 18), none, (.mv (.tmp 1))⟩
  (.op false ⟨(some 19), none, (.len (.tmp 18))⟩
  (.op false ⟨(some 20), none, (.bin .neq (.tmp 17) (.tmp 19))⟩
  (.op false ⟨(some 15), none, (.mv (.tmp 20))⟩ .done))))))) (.cond (.tmp 15)
 (.seq
 (.reg false (.op false ⟨(some 21), none, (.bld [(0, 1), (1, 2), (3, 1), (4, 1), (5, 1)] [(.int .i64 0), (.int .i64 0), (.int .i64 0), (strV []), (.slice none 0 0), (.slice none 0 0)] [])⟩
  (.op false ⟨none, none, (.st 6 (.tmp 4) (.tmp 21))⟩
  (.op false ⟨(some 5), none, (.mv (.const (.int .i64 2)))⟩ .done)))) .ret)
 (.seq
 (.reg false (.op false ⟨(some 23), none, (.mv (.tmp 0))⟩
  (.op false ⟨(some 24), none, (.call f_value_every_string [(.tmp 23), (.func f_quote_Right)])⟩
  (.op false ⟨(some 25), none, (.un .not (.tmp 24))⟩
  (.op false ⟨(some 22), none, (.mv (.tmp 25))⟩ .done))))) (.cond (.tmp 22)
 (.seq
 (.reg false (.op false ⟨(some 26), none, (.bld [(0, 1), (1, 2), (3, 1), (4, 1), (5, 1)] [(.int .i64 0), (.int .i64 0), (.int .i64 0), (strV []), (.slice none 0 0), (.slice none 0 0)] [])⟩
  (.op false ⟨none, none, (.st 6 (.tmp 4) (.tmp 26))⟩
  (.op false ⟨(some 5), none, (.mv (.const (.int .i64 30)))⟩ .done)))) .ret) .skip)))))
 (.seq
 (.reg false (.op false ⟨(some 27), none, (.mop .mk)⟩
  (.op false ⟨(some 6), none, (.mv (.tmp 27))⟩ .done)))
 (.seq (.seq
 (.reg false (.op false ⟨(some 28), none, (.mv (.tmp 0))⟩
  (.op false ⟨(some 29), none, (.len (.tmp 28))⟩
  (.op false ⟨(some 30), none, (.mv (.const (.int .i64 0)))⟩ .done)))) (.block 1 (.loop
 (.seq
 (.reg false (.op false ⟨(some 31), none, (.bin .lss (.tmp 30) (.tmp 29))⟩ .done))
 (.seq (.cond (.tmp 31) .skip (.exit 1))
 (.seq (.block 2
 (.seq
 (.reg false (.op false ⟨(some 32), none, (.mv (.tmp 30))⟩
  (.op false ⟨(some 33), none, (.idx 1 (.tmp 28) (.tmp 30))⟩
  (.op false ⟨(some 34), none, (.ld none (.tmp 33))⟩
  (.op false ⟨(some 7), none, (.mv (.tmp 32))⟩
  (.op false ⟨(some 8), none, (.mv (.tmp 34))⟩ .done))))))
 (.seq (.seq
 (.reg false (.op false ⟨(some 35), none, (.mv (.tmp 1))⟩
  (.op false ⟨(some 36), none, (.mv (.tmp 7))⟩
  (.op false ⟨(some 37), none, (.idx 6 (.tmp 35) (.tmp 36))⟩
  (.op false ⟨(some 38), none, (.ld (some 6) (.tmp 37))⟩
  (.op false ⟨(some 39), none, (.call f_value_Right [(.tmp 38)])⟩
  (.op false ⟨(some 9), none, (.mv (.tmp 39))⟩ .done)))))))
 (.seq
 (.reg false (.op false ⟨(some 40), none, (.mv (.tmp 9))⟩
  (.op false ⟨(some 41), none, (.bin .neq (.tmp 40) (.const (.int .i64 0)))⟩ .done))) (.cond (.tmp 41)
 (.seq
 (.reg false (.op false ⟨(some 42), none, (.bld [(0, 1), (1, 2), (3, 1), (4, 1), (5, 1)] [(.int .i64 0), (.int .i64 0), (.int .i64 0), (strV []), (.slice none 0 0), (.slice none 0 0)] [])⟩
  (.op false ⟨(some 43), none, (.mv (.tmp 9))⟩
  (.op false ⟨none, none, (.st 6 (.tmp 4) (.tmp 42))⟩
  (.op false ⟨(some 5), none, (.mv (.tmp 43))⟩ .done))))) .ret) .skip)))
 (.reg false (.op false ⟨(some 44), none, (.mv (.tmp 6))⟩
  (.op false ⟨(some 45), none, (.mv (.tmp 8))⟩
  (.op false ⟨(some 46), none, (.mv (.tmp 7))⟩
  (.op false ⟨none, none, (.mop (.up 1 (.tmp 44) (.tmp 45) (.tmp 46)))⟩ .done))))))))
 (.reg false (.op false ⟨(some 47), none, (.bin .add (.tmp 30) (.const (.int .i64 1)))⟩
  (.op false ⟨(some 30), none, (.mv (.tmp 47))⟩ .done)))))))))
 (.seq
 (.reg false (.op false ⟨(some 48), none, (.bld [(0, 1), (1, 2), (3, 1), (4, 1), (5, 1)] [(.int .i64 0), (.int .i64 0), (.int .i64 0), (strV []), (.slice none 0 0), (.slice none 0 0)] [(0, (.const (.int .i64 6)))])⟩
  (.op false ⟨(some 10), none, (.alo (.agg #[(.int .i64 0), (.int .i64 0), (.int .i64 0), (strV []), (.slice none 0 0), (.slice none 0 0)]))⟩
  (.op false ⟨none, none, (.st 6 (.tmp 10) (.tmp 48))⟩ .done))))
 (.seq (.seq
 (.reg false (.op false ⟨(some 49), none, (.mv (.tmp 6))⟩
  (.op false ⟨(some 50), none, (.mop (.rng (.tmp 49)))⟩ .done))) (.block 3 (.loop
 (.seq
 (.reg false (.op false ⟨(some 51), none, (.mop (.nxt (.tmp 50)))⟩
  (.op false ⟨(some 52), none, (.ext (.tmp 51) 0)⟩ .done)))
 (.seq (.cond (.tmp 52) .skip (.exit 3)) (.block 4
 (.seq
 (.reg false (.op false ⟨(some 53), none, (.mop (.ent (.tmp 50)))⟩
  (.op false ⟨(some 54), none, (.ext (.tmp 53) 0)⟩
  (.op false ⟨(some 11), none, (.mv (.tmp 54))⟩ .done))))
 (.reg false (.op false ⟨(some 55), none, (.fld 5 (.tmp 10))⟩
  (.op false ⟨(some 56), none, (.ld none (.tmp 55))⟩
  (.op false ⟨(some 57), none, (.mv (.tmp 11))⟩
  (.op false ⟨(some 58), none, (.bsl 1 1 [(strV [])] [(0, (.tmp 57))])⟩
  (.op false ⟨(some 59), none, (.app 1 16 [(strV [])] (.tmp 56) (.tmp 58))⟩
  (.op false ⟨(some 60), none, (.fld 5 (.tmp 10))⟩
  (.op false ⟨none, none, (.st 1 (.tmp 60) (.tmp 59))⟩ .done)))))))))))))))
 (.seq
 (.reg false (.op false ⟨(some 61), none, (.fld 5 (.tmp 10))⟩
  (.op false ⟨(some 62), none, (.ld none (.tmp 61))⟩
  (.op false ⟨(some 63), none, (.call f_slices_Sort_string_string [(.tmp 62)])⟩ .done))))
 (.seq (.seq
 (.reg false (.op false ⟨(some 64), none, (.fld 5 (.tmp 10))⟩
  (.op false ⟨(some 65), none, (.ld none (.tmp 64))⟩
  (.op false ⟨(some 66), none, (.len (.tmp 65))⟩
  (.op false ⟨(some 67), none, (.mv (.const (.int .i64 0)))⟩ .done))))) (.block 5 (.loop
 (.seq
 (.reg false (.op false ⟨(some 68), none, (.bin .lss (.tmp 67) (.tmp 66))⟩ .done))
 (.seq (.cond (.tmp 68) .skip (.exit 5))
 (.seq (.block 6
 (.seq
 (.reg false (.op false ⟨(some 69), none, (.idx 1 (.tmp 65) (.tmp 67))⟩
  (.op false ⟨(some 70), none, (.ld none (.tmp 69))⟩
  (.op false ⟨(some 13), none, (.mv (.tmp 70))⟩ .done))))
 (.reg true (.op true ⟨(some 71), none, (.fld 4 (.tmp 10))⟩
  (.op true ⟨(some 72), none, (.ld none (.tmp 71))⟩
  (.op true ⟨(some 73), none, (.mv (.tmp 1))⟩
  (.op true ⟨(some 74), none, (.mv (.tmp 6))⟩
  (.op true ⟨(some 75), none, (.mv (.tmp 13))⟩
  (.op false ⟨(some 76), none, (.mop (.lk 1 (.int .i64 0) false (.tmp 74) (.tmp 75)))⟩
  (.op true ⟨(some 77), none, (.idx 6 (.tmp 73) (.tmp 76))⟩
  (.op true ⟨(some 78), none, (.ld (some 6) (.tmp 77))⟩
  (.op false ⟨(some 79), none, (.call f_value_Copy [(.tmp 78)])⟩
  (.op false ⟨(some 80), none, (.bsl 1 6 [(.int .i64 0), (.int .i64 0), (.int .i64 0), (strV []), (.slice none 0 0), (.slice none 0 0)] [(0, (.tmp 79))])⟩
  (.op false ⟨(some 81), none, (.app 6 88 [(.int .i64 0), (.int .i64 0), (.int .i64 0), (strV []), (.slice none 0 0), (.slice none 0 0)] (.tmp 72) (.tmp 80))⟩
  (.op true ⟨(some 82), none, (.fld 4 (.tmp 10))⟩
  (.bar (.op false ⟨none, none, (.st 1 (.tmp 82) (.tmp 81))⟩ .done)))))))))))))))))
 (.reg false (.op false ⟨(some 83), none, (.bin .add (.tmp 67) (.const (.int .i64 1)))⟩
  (.op false ⟨(some 67), none, (.mv (.tmp 83))⟩ .done)))))))))
 (.seq (.seq
 (.reg false (.op false ⟨(some 84), none, (.ld (some 6) (.tmp 10))⟩
  (.op false ⟨(some 85), none, (.call f_value_Right [(.tmp 84)])⟩
  (.op false ⟨(some 14), none, (.mv (.tmp 85))⟩ .done))))
 (.seq
 (.reg false (.op false ⟨(some 86), none, (.mv (.tmp 14))⟩
  (.op false ⟨(some 87), none, (.bin .neq (.tmp 86) (.const (.int .i64 0)))⟩ .done))) (.cond (.tmp 87)
 (.seq
 (.reg false (.op false ⟨(some 88), none, (.bld [(0, 1), (1, 2), (3, 1), (4, 1), (5, 1)] [(.int .i64 0), (.int .i64 0), (.int .i64 0), (strV []), (.slice none 0 0), (.slice none 0 0)] [])⟩
  (.op false ⟨(some 89), none, (.mv (.tmp 14))⟩
  (.op false ⟨none, none, (.st 6 (.tmp 4) (.tmp 88))⟩
  (.op false ⟨(some 5), none, (.mv (.tmp 89))⟩ .done))))) .ret) .skip)))
 (.seq
 (.reg false (.op false ⟨(some 90), none, (.ld (some 6) (.tmp 10))⟩
  (.op false ⟨none, none, (.st 6 (.tmp 4) (.tmp 90))⟩
  (.op false ⟨(some 5), none, (.mv (.const (.int .i64 0)))⟩ .done)))) .ret))))))))))⟩

set_option maxHeartbeats 4000000 in
theorem vmake_ok {T : PHeap → Prop} (hTm : ∀ {d d' : PHeap}, T d → Le d d' → T d') {P : Program} {f f1 f2 f3 f4 f5 : FuncId} (hd : decp P f = some (g_value_Make f1 f2 f3 f4 f5)) (h1 : EveryStrOk P f1) (h2 : QuoteOk T P f2) (h3 : RightOk T P f3) (h4 : SortStrOk P f4) (h5 : VCopyOk P f5) : VMakeOk T P f := by
  intro d w1 w2 ks l ht hks hl hb hcnt
  refine make_pack (make_i64 ks l) ?_
  refine GCall.forget (Q := fun r L' => ∃ cs', r = .tuple #[.agg cs'.toArray, .int .i64 (makeTop ks l).2] ∧ OParts (makeTop ks l).1 cs' L') ?_
  refine GCall_of hd (Nat.le_of_ble_eq_true rfl) ?_
  obtain ⟨ka, kc, rfl⟩ := RSl.val hks
  obtain ⟨la, lc, rfl⟩ := RSl.val hl
  have hks0 : RSl 1 RStr d (.slice ka ks.length kc) ks := hks
  have hl0 : RSl 6 RVal d (.slice la l.length lc) l := hl
  have hkl : ∀ k ∈ ks, k.length ≤ 140737488355328 := fun k hk => by
    obtain ⟨i, hi, rfl⟩ := List.getElem_of_mem hk
    obtain ⟨_, _, _, _, _, _, _, _, _, _, _, hg⟩ := hks0
    obtain ⟨_, _, _, _, hkl⟩ := hg i hi
    exact hkl
  show gwp P _ _ _ _ _
  by_cases hlen : ks.length ≠ l.length
  · have hk0 : (ks.length : Int) ≠ l.length := by omega
    rw [makeTop, if_pos hlen]
    (apply w_sq; apply w_reg; apply w_alo; intro _ _; apply w_mvi; rfl; apply w_done0; apply w_sq; apply w_block; apply w_sq; apply w_reg; apply w_mvs; rfl; apply w_len; rfl; apply w_mvs; rfl; apply w_len; rfl; apply w_neq; rfl; rfl; apply w_mvb; rfl; apply w_done0; refine w_ifdT rfl (by omega) ?_; apply w_sq; apply w_reg; apply w_bvZ)
    rename_i b4 T4
    refine w_stE 0 zVal rfl rfl rfl rfl (Nat.le_of_ble_eq_true rfl) rfl rfl ?_
    (apply w_mvi; rfl; apply w_done0; apply w_ret)
    exact finZ 0 rfl rfl rfl
  have hlen : ks.length = l.length := by omega
  have hk0 : (ks.length : Int) = l.length := by omega
  rw [makeTop, if_neg (by omega)]
  (apply w_sq; apply w_reg; apply w_alo; intro _ _; apply w_mvi; rfl; apply w_done0; apply w_sq; apply w_block; apply w_sq; apply w_reg; apply w_mvs; rfl; apply w_len; rfl; apply w_mvs; rfl; apply w_len; rfl; apply w_neq; rfl; rfl; apply w_mvb; rfl; apply w_done0; refine w_ifdF rfl (by omega) ?_; apply w_sq; apply w_reg; apply w_mvs; rfl)
  rename_i b4 T4
  refine w_pure rfl (h1 hks (p := u8) (fun k hk => h2 ht (hkl k hk))) ?_
  cases hall : ks.all u8 with
  | false =>
    rw [if_pos rfl]
    (apply w_not; rfl; apply w_mvb; rfl; apply w_done0; apply w_ifT; rfl; apply w_sq; apply w_reg; apply w_bvZ)
    refine w_stE 0 zVal rfl rfl rfl rfl (Nat.le_of_ble_eq_true rfl) rfl rfl ?_
    (apply w_mvi; rfl; apply w_done0; apply w_ret)
    exact finZ 0 rfl rfl rfl
  | true =>
  have hu : ∀ k ∈ ks, u8 k = true := List.all_eq_true.1 hall
  rw [if_neg (by simp)]
  (apply w_not; rfl; apply w_mvb; rfl; apply w_done0; apply w_ifF; rfl; apply w_skip; apply w_sq; apply w_reg)
  refine w_mmk strV intE (fun b6 => ?_)
  (apply w_mv; apply w_done0; apply w_sq; apply w_sq; apply w_reg; apply w_mvs; rfl; apply w_len; rfl; apply w_mvi; rfl; apply w_done0; apply w_block)
  refine w_loopN (α := Nat) (fun i => [(0, .slice ka ks.length kc), (1, .slice la l.length lc), (4, .pointer (some ⟨b4, 0, none⟩)), (6, .map (some b6)), (28, .slice ka ks.length kc), (29, .int .i64 ks.length), (30, .int .i64 i)])
    (fun i => [mp strV intE b6 (msN ks i) (msN ks i).length, bx b4 T4 zVal])
    (fun i => i ≤ ks.length ∧ ∀ j (h1 : j < i) (h2 : j < l.length), rightV l[j] = 0) (fun i => ks.length - i) 0 ⟨rfl, rfl, rfl, rfl, rfl, rfl, rfl, trivial⟩ rfl ⟨Nat.zero_le _, fun j h => absurd h (Nat.not_lt_zero j)⟩ ?_
  rintro i ρ ⟨hi, hrt⟩
  by_cases hc : i < ks.length
  · have hcl : i < l.length := by omega
    (apply w_sq; apply w_reg; apply w_lss; rfl; rfl; apply w_done0; apply w_sq; refine w_ifdT rfl (by omega) ?_; apply w_skip; apply w_sq; apply w_block; apply w_sq; apply w_reg; apply w_mvi; rfl; refine w_idxR (sz := 1) (R := RStr) (by rfl) (by assumption) (by rfl) rfl (by omega) ?_; rintro _ _ _ _ _ ⟨rfl, _⟩; apply w_ld; rfl; exact hc_ds0 (by assumption) rfl; apply w_mvi; rfl; apply w_mvt; rfl; apply w_done0; apply w_sq; apply w_sq; apply w_reg; apply w_mvs; rfl; apply w_mvi; rfl; refine w_idxR (sz := 6) (R := RVal) (by rfl) (by assumption) (by rfl) rfl (by omega) ?_; rintro _ _ _ _ _ _; apply w_ldd; rfl; assumption; assumption)
    rename_i hcs hD hR
    refine w_pure rfl (h3 ht hR) ?_
    by_cases hr0 : rightV l[i] ≠ 0
    · have hfw := first_at hcl (fun j hj => hrt j hj (by omega)) hr0
      rw [if_pos (by rw [hfw]; exact hr0), hfw]
      (apply w_mvi; rfl; apply w_done0; apply w_sq; apply w_reg; apply w_mvi; rfl; apply w_neq; rfl; rfl; apply w_done0; refine w_ifdT rfl (by omega) ?_; apply w_sq; apply w_reg; apply w_bvZ; apply w_mvi; rfl)
      refine w_stE 1 zVal rfl rfl rfl rfl (Nat.le_of_ble_eq_true rfl) rfl rfl ?_
      (apply w_mvi; rfl; apply w_done0; apply w_ret)
      exact finZ 1 rfl rfl rfl
    have hr0 : rightV l[i] = 0 := by omega
    rw [hr0]
    have hms : mPut ks[i] (i : Int) (msN ks i).length (msN ks i) = msN ks (i + 1) := by rw [msN]; simp [List.getD, hc]
    (apply w_mvi; rfl; apply w_done0; apply w_sq; apply w_reg; apply w_mvi; rfl; apply w_neq; rfl; rfl; apply w_done0; refine w_ifdF rfl (by omega) ?_; apply w_skip; apply w_reg; apply w_mv; apply w_mvt; rfl; apply w_mvi; rfl)
    refine w_mup (vE := intE) (v := (i : Int)) keyStr 0 rfl rfl rfl rfl ?_
    rw [clk_put _ (i : Int), hms]
    (apply w_done0; apply w_reg; apply w_add; rfl; rfl; omega; omega; apply w_mvi; rfl; apply w_done0)
    exact ⟨i + 1, by omega, ⟨rfl, rfl, rfl, rfl, rfl, rfl, int_eq (by omega), trivial⟩, rfl, rfl, hc, fun j h1 h2 => if e : j = i then (by subst e; exact hr0) else hrt j (by omega) h2⟩
  obtain rfl : i = ks.length := by omega
  have hrt' : ∀ x ∈ l, rightV x = 0 := fun x hx => by
    obtain ⟨j, hj, rfl⟩ := List.getElem_of_mem hx
    exact hrt j (by omega) hj
  rw [if_neg (by rw [first_zero.2 hrt']; simp)]
  have hmr := make_right hu hlen hrt'
  have hmd := make_depth hu hlen hrt'
  have hlt := ms_lt (ks := ks) (n := ks.length)
  have hbn := born_nodup ks ks.length
  have hbi := @born_inj ks ks.length
  have hgb := @ms_get ks ks.length
  have hmk : ∀ k, k ∈ mKeys (msN ks ks.length) → k ∈ ks := fun k hk => by have := (ms_mem ks k _ (Nat.le_refl _)).1 hk; rwa [List.take_length] at this
  have hsort := fun p => make_sort (ks := ks) (l := l) hu (p := p)
  have hmap := make_map (l := l) hu ks.length (Nat.le_refl _)
  have hget := fun k => last_get ks k ks.length
  have hlst : ∀ k n, n = ks.length → lastI ks k n < ks.length := fun k n e => by subst e; exact last_lt ks k _
  (apply w_sq; apply w_reg; apply w_lss; rfl; rfl; apply w_done0; apply w_sq; refine w_ifdF rfl (by omega) ?_; apply w_exit; apply w_sq; apply w_reg; apply w_bvK; rfl; apply w_alo; intro _ _)
  rename_i b10 T10
  refine w_stE 0 [.int .i64 6, .int .i64 0, .int .i64 0, strV [], .slice none 0 0, .slice none 0 0] rfl rfl rfl rfl (Nat.le_of_ble_eq_true rfl) rfl rfl ?_
  (apply w_done0; apply w_sq; apply w_sq; apply w_reg; apply w_mv)
  refine w_rng strV intE 1 rfl rfl (fun q => ?_)
  generalize hmsd : msN ks ks.length = ms at *
  refine w_doneE ⟨d, [mit q b6 ms.length [], bx b10 T10 [.int .i64 6, .int .i64 0, .int .i64 0, strV [], .slice none 0 0, .slice none 0 0], mp strV intE b6 ms ms.length, bx b4 T4 zVal, emp], Vs.emp.trans (Vs.pick [1, 2, 3, 4, 0] rfl), ?_⟩
  (apply w_block)
  refine w_loopS (α := Ms) (fun qs => [(1, .slice la l.length lc), (4, .pointer (some ⟨b4, 0, none⟩)), (6, .map (some b6)), (10, .pointer (some ⟨b10, 0, none⟩)), (50, .pointer (some ⟨q, 0, none⟩))])
    (fun qs d' L' => d' = d ∧ qs.Nodup ∧ qs ⊆ ms ∧ ∃ qa qc h, GRow 1 RStr emp (.slice qa (mKeys qs).length qc) (mKeys qs) h ∧
      L' = [mit q b6 ms.length (qs.map (·.2.2)), bx b10 T10 [.int .i64 6, .int .i64 0, .int .i64 0, strV [], .slice none 0 0, .slice qa (mKeys qs).length qc], mp strV intE b6 ms ms.length, bx b4 T4 zVal, h])
    (fun qs => ms.length - qs.length) [] ⟨rfl, rfl, rfl, rfl, rfl, trivial⟩ ⟨rfl, List.nodup_nil, List.nil_subset _, none, 0, emp, GRow.nil, rfl⟩ ?_
  rintro qs ρ d' L' ⟨hdd, hn, hsub, qa, qc, h, hrow, hL⟩
  subst hdd; subst hL
  have hqn : (mKeys qs).length = qs.length := mKeys_len qs
  have hml : ms.length ≤ 1000000 := by
    have h1 := (make_len ks l ks.length).2
    have h2 := (List.perm_ext_iff_of_nodup (by rw [← hmsd]; exact ms_nodup ks _) (rise_nodup (rising_iff.1 hmap.1).2)).2 (fun k => (hmap.2.1 k).symm)
    have h3 := h2.length_eq
    rw [mKeys_len] at h3
    omega
  (apply w_sq; apply w_reg)
  refine w_nxt strV intE 0 rfl 2 rfl rfl hlt (fun h0 e => h0 (by subst e; rw [List.eq_nil_of_subset_nil hsub]; rfl)) (fun p hp hq => ?_) (fun hall2 => ?_)
  · have hpq : p ∉ qs := fun e => hq (List.mem_map_of_mem e)
    have hql := seen_lt hn hsub hp hpq
    have hpl : p.1.length ≤ 140737488355328 := hkl _ (hmk _ (List.mem_map_of_mem hp))
    (apply w_ext; rfl; rfl; apply w_done0; apply w_sq; apply w_ifT; rfl; apply w_skip; apply w_block; apply w_sq; apply w_reg)
    refine w_ent strV intE 0 rfl 2 rfl rfl hp hbn ?_
    (apply w_ext; rfl; rfl; apply w_mvt; rfl; apply w_done0; apply w_reg; apply w_fld; rfl; apply w_ld; rfl; exact hc_i 1 rfl rfl; apply w_mvt; rfl)
    refine w_bs1 (v0 := strV p.1) rfl rfl (fun b58 T58 => ?_)
    refine w_appL (R := RStr) 4 rfl rfl hrow rfl (GRow.lit1 (R := RStr) rfl ⟨rfl, hpl⟩) cell1_str (by omega) (by simp; omega) (by simp; omega) (fun v59 h59 o59 => ?_)
    obtain ⟨qa2, qc2, rfl⟩ := o59.val
    (apply w_fld; rfl)
    refine w_stE 1 [.int .i64 6, .int .i64 0, .int .i64 0, strV [], .slice none 0 0, .slice qa2 (mKeys qs ++ [p.1]).length qc2] rfl rfl rfl rfl (Nat.le_of_ble_eq_true rfl) rfl rfl ?_
    (apply w_done0)
    have e1 : mKeys (qs ++ [p]) = mKeys qs ++ [p.1] := by simp [mKeys]
    have e2 : (qs ++ [p]).map (·.2.2) = qs.map (·.2.2) ++ [p.2.2] := by simp
    refine ⟨qs ++ [p], by simp; omega, ⟨rfl, rfl, rfl, rfl, rfl, trivial⟩, rfl, ?_, ?_, qa2, qc2, h59, by rw [e1]; exact o59, by rw [e1, e2]; rfl⟩
    · rw [List.nodup_append]
      exact ⟨hn, by simp, fun a ha b hb => by simp at hb; subst hb; intro e; subst e; exact hpq ha⟩
    · intro x hx
      rcases List.mem_append.1 hx with hx | hx
      · exact hsub hx
      · rw [List.mem_singleton.1 hx]; exact hp
  have hperm : (mKeys qs).Perm (mKeys ms) := by
    refine ((List.perm_ext_iff_of_nodup hn (nodup_of_map _ hbn)).2 fun p => ⟨fun h => hsub h, fun hp => ?_⟩).map _
    obtain ⟨p2, h1, h2⟩ := List.mem_map.1 (hall2 p hp)
    rw [← hbi (hsub h1) hp h2]; exact h1
  clear hall2 hlt
  generalize (qs.map fun x => x.2.2) = seen
  (apply w_ext; rfl; rfl; apply w_done0; apply w_sq; apply w_ifF; rfl; apply w_exit; apply w_sq; apply w_reg; apply w_fld; rfl; apply w_ld; rfl; exact hc_i 1 rfl rfl)
  refine w_vs d' [h, mit q b6 ms.length seen, bx b10 T10 [.int .i64 6, .int .i64 0, .int .i64 0, strV [], .slice none 0 0, .slice qa (mKeys qs).length qc], mp strV intE b6 ms ms.length, bx b4 T4 zVal] (Vs.pick [4, 0, 1, 2, 3] rfl) ?_
  refine w_callA (A := [h]) (B := [mit q b6 ms.length seen, bx b10 T10 [.int .i64 6, .int .i64 0, .int .i64 0, strV [], .slice none 0 0, .slice qa (mKeys qs).length qc], mp strV intE b6 ms ms.length, bx b4 T4 zVal]) rfl rfl (h4 hrow) (fun r d6 L6 _ ⟨hdd, hr, h', hL, hrow'⟩ => ?_)
  subst hdd; subst hL; subst hr
  have hKl : (mKeys qs).length = (makeL ks l ks.length).1.length := by rw [← hsort _ hperm]; exact (List.mergeSort_perm _ _).length_eq.symm
  rw [hsort _ hperm, hKl] at hrow'
  rw [hKl]
  have hln := (make_len ks l ks.length).1
  have hln3 := (make_len ks l ks.length).2
  have hmv : makeV ks l = .mk 6 0 0 [] (makeL ks l ks.length).2 (makeL ks l ks.length).1 := rfl
  rw [hmv] at hmr hmd ⊢
  generalize makeL ks l ks.length = o at *
  obtain ⟨oks, ol⟩ := o
  simp only at hrow' hln hln3 hmr hmd hmap ⊢
  obtain ⟨hm1, hm2, hm3⟩ := hmap
  refine w_doneE ⟨d6, [bx b10 T10 [.int .i64 6, .int .i64 0, .int .i64 0, strV [], .slice none 0 0, .slice qa oks.length qc], mp strV intE b6 ms ms.length, bx b4 T4 zVal, h', emp], Vs.emp.trans ((Vs.pick [3, 4, 5, 1, 0, 2] rfl).trans (Vs.drop (List.sublist_append_left [bx b10 T10 [.int .i64 6, .int .i64 0, .int .i64 0, strV [], .slice none 0 0, .slice qa oks.length qc], mp strV intE b6 ms ms.length, bx b4 T4 zVal, h', emp] [mit q b6 ms.length seen]))), ?_⟩
  have hdn := hrow'.len_le
  (apply w_sq; apply w_sq; apply w_reg; apply w_fld; rfl; apply w_ld; rfl; exact hc_i 0 rfl rfl; apply w_len; rfl; apply w_mvi; rfl; apply w_done0; apply w_block)
  refine w_loopS (α := Nat) (fun i => [(1, .slice la l.length lc), (4, .pointer (some ⟨b4, 0, none⟩)), (6, .map (some b6)), (10, .pointer (some ⟨b10, 0, none⟩)), (65, .slice qa oks.length qc), (66, .int .i64 oks.length), (67, .int .i64 i)])
    (fun i d3 L' => d3 = d6 ∧ i ≤ ol.length ∧ ∃ ra rc hl ccs hs, ORow 6 (.slice ra i rc) i ccs hl ∧ hs.length = i ∧ (∀ j (hj : j < ol.length), j < i → OVal (chunk ccs j 6) ol[j] (hs.getD j emp)) ∧
      L' = bx b10 T10 [.int .i64 6, .int .i64 0, .int .i64 0, strV [], .slice ra i rc, .slice qa oks.length qc] :: mp strV intE b6 ms ms.length :: bx b4 T4 zVal :: h' :: hl :: hs)
    (fun i => ol.length - i) 0 ⟨rfl, rfl, rfl, rfl, rfl, rfl, rfl, trivial⟩ ⟨rfl, Nat.zero_le _, none, 0, emp, [], [], ORow.nil 6, rfl, fun j _ h => absurd h (Nat.not_lt_zero j), rfl⟩ ?_
  rintro i ρ d3 L' ⟨hdd, hi, ra, rc, hrw, ccs, hs, horow, hhs, hel, hL⟩
  subst hdd; subst hL
  by_cases hc : i < ol.length
  · have hco : i < oks.length := by omega
    obtain ⟨z, hz⟩ := Option.isSome_iff_exists.1 ((get_some oks[i] ms).2 ((hm2 _).1 (List.getElem_mem hco)))
    obtain ⟨hz0, hz1⟩ := hgb hz
    obtain ⟨n, rfl⟩ : ∃ n : Nat, z = n := ⟨z.toNat, by omega⟩
    have hnl : n < l.length := by omega
    have hln2 : l[n] = ol[i] := by
      simp only [hm3, List.getElem_map, plK, hz, Option.getD_some, Int.toNat_natCast]
      simp [List.getD, hnl]
    have hoi : (oks.length : Int) = ol.length := by omega
    obtain ⟨b5, T5, l5, c5, e5, rfl, hu5⟩ := row_openS hrow' hco
    cases e5
    (apply w_sq; apply w_reg; apply w_lss; rfl; rfl; apply w_done0; apply w_sq; refine w_ifdT rfl (by omega) ?_; apply w_skip; apply w_sq; apply w_block; apply w_sq; apply w_reg)
    refine w_idx1 i rfl rfl rfl hco ?_
    refine w_ldo 3 rfl rfl hu5 ?_
    (apply w_mvt; rfl; apply w_done0)
    refine w_drawnA [bx b10 T10 [.int .i64 6, .int .i64 0, .int .i64 0, strV [], .slice ra i rc, .slice (some ⟨b5, 0, none⟩) oks.length qc], mp strV intE b6 ms ms.length, bx b4 T4 zVal, bx b5 T5 l5] (hrw :: hs) rfl ?_
    (apply w_fld; rfl; apply w_ld; rfl; exact hc_i 0 rfl rfl; apply w_mvs; rfl; apply w_mv; apply w_mvt; rfl)
    refine w_mlk (vE := intE) keyStr 1 rfl rfl rfl hz ?_
    (refine w_idxR (sz := 6) (R := RVal) (by rfl) (by assumption) (by rfl) rfl (by omega) ?_; rintro _ _ _ _ _ _; apply w_ldd; rfl; assumption; assumption)
    rename_i csx hcsx hDx hRx
    refine w_call0 rfl (h5 _ hRx (by have := hcnt _ (List.getElem_mem hnl); omega)) (fun r d4 L4 _ ⟨hdd, cs', g, hr, hL, ho⟩ => ?_)
    subst hdd; subst hr; subst hL
    obtain ⟨hc6, hc1'⟩ := ho.cells
    refine w_bsV rfl hc6 (fun b27 T27 => ?_)
    refine w_appLO 1 rfl rfl horow rfl (by rw [hc6]) hc1' (by omega) (by omega) (by omega) (fun v5 h5' o5 => ?_)
    obtain ⟨a5, _, c5', rfl, _⟩ := o5.slice
    (apply w_fld; rfl; apply w_bar)
    refine w_vs _ (bx b10 T10 [.int .i64 6, .int .i64 0, .int .i64 0, strV [], .slice ra i rc, .slice (some ⟨b5, 0, none⟩) oks.length qc] :: mp strV intE b6 ms ms.length :: bx b4 T4 zVal :: bx b5 T5 l5 :: h5' :: (hs ++ [g]))
      (Vs.perm (List.Perm.append_left [bx b10 T10 [.int .i64 6, .int .i64 0, .int .i64 0, strV [], .slice ra i rc, .slice (some ⟨b5, 0, none⟩) oks.length qc], mp strV intE b6 ms ms.length, bx b4 T4 zVal, bx b5 T5 l5] ((List.Perm.swap _ _ _).trans ((List.perm_append_singleton g hs).symm.cons _)))) ?_
    refine w_stE 0 [.int .i64 6, .int .i64 0, .int .i64 0, strV [], .slice a5 (i + 1) c5', .slice (some ⟨b5, 0, none⟩) oks.length qc] rfl rfl rfl rfl (Nat.le_of_ble_eq_true rfl) rfl rfl ?_
    (apply w_done0; apply w_reg; apply w_add; rfl; rfl; omega; omega; apply w_mvi; rfl; apply w_done0)
    rw [hln2] at ho
    refine ⟨i + 1, by omega, ⟨rfl, rfl, rfl, rfl, rfl, rfl, int_eq (by omega), trivial⟩, rfl, hc, a5, c5', h5', _, hs ++ [g], o5, by simp [hhs], fun j hj hji => ?_, rfl⟩
    have h6 : ccs.length = i * 6 := horow.1
    by_cases e : j < i
    · rw [chunk_app_left h6 e, show (hs ++ [g]).getD j emp = hs.getD j emp by simp [List.getD, List.getElem?_append_left (show j < hs.length by omega)]]
      exact hel j hj e
    · obtain rfl : j = i := by omega
      rw [chunk_app_right h6 (Nat.le_refl _), Nat.sub_self, show chunk cs' 0 6 = cs' by simp only [chunk, Nat.zero_mul, List.drop_zero]; exact List.take_of_length_le (by omega), show (hs ++ [g]).getD j emp = g by simp [List.getD, List.getElem?_append_right (show hs.length ≤ j by omega), hhs]]
      exact ho
  obtain rfl : i = ol.length := by omega
  have hoi : (oks.length : Int) = ol.length := by omega
  have hrv : ∀ d9 : PHeap, Le h' d9 → Le hrw d9 → (∀ g ∈ hs, Le g d9) → RVal d9 [.int .i64 6, .int .i64 0, .int .i64 0, strV [], .slice ra ol.length rc, .slice qa oks.length qc] (.mk 6 0 0 [] ol oks) := fun d9 k1 k2 k3 =>
    RVal.close (v := .mk 6 0 0 [] ol oks) i64_6 i64_0 i64_0 (by simp)
      (horow.rsl (R := RVal) k2 rfl (by omega) (fun j hj => OVal.rval (hel j hj hj) (k3 _ (by
        have e : hs.getD j emp = hs[j]'(by rw [hhs]; exact hj) := by simp [List.getD, show j < hs.length by rw [hhs]; exact hj]
        rw [e]; exact List.getElem_mem _))))
      (GRow.rsl (R := RStr) hrow' mono_str (by omega) (d' := d9) (fun _ _ e => e.elim) k1)
  (apply w_sq; apply w_reg; apply w_lss; rfl; rfl; apply w_done0; apply w_sq; refine w_ifdF rfl (by omega) ?_; apply w_exit; apply w_sq; apply w_sq; apply w_reg; apply w_ldb 0; rfl; rfl; rfl)
  refine w_pureB rfl (fun d9 hl9 hk9 => h3 (hTm ht hl9) (hrv d9 (hk9 _ (by simp)) (hk9 _ (by simp)) (fun g hg => hk9 _ (by simp [hg])))) ?_
  rw [hmr]
  by_cases hdp : 48 < depthV (.mk 6 0 0 [] ol oks)
  · rw [if_pos hdp, if_pos hdp]
    (apply w_mvi; rfl; apply w_done0; apply w_sq; apply w_reg; apply w_mvi; rfl; apply w_neq; rfl; rfl; apply w_done0; refine w_ifdT rfl (by omega) ?_; apply w_sq; apply w_reg; apply w_bvZ; apply w_mvi; rfl)
    refine w_stE 2 zVal rfl rfl rfl rfl (Nat.le_of_ble_eq_true rfl) rfl rfl ?_
    (apply w_mvi; rfl; apply w_done0; apply w_ret)
    exact finZ 2 rfl rfl rfl
  · rw [if_neg hdp, if_neg hdp]
    (apply w_mvi; rfl; apply w_done0; apply w_sq; apply w_reg; apply w_mvi; rfl; apply w_neq; rfl; rfl; apply w_done0; refine w_ifdF rfl (by omega) ?_; apply w_skip; apply w_sq; apply w_reg; apply w_ldb 0; rfl; rfl; rfl)
    refine w_stE 2 [.int .i64 6, .int .i64 0, .int .i64 0, strV [], .slice ra ol.length rc, .slice qa oks.length qc] rfl rfl rfl rfl (Nat.le_of_ble_eq_true rfl) rfl rfl ?_
    (apply w_mvi; rfl; apply w_done0; apply w_ret)
    exact finV (L' := h' :: hrw :: hs) [.agg [.int .i64 6, .int .i64 0, .int .i64 0, strV [], .slice ra ol.length rc, .slice qa oks.length qc].toArray, .int .i64 0] ⟨res_cell 2 rfl rfl rfl, res_tmp rfl, trivial⟩
      (Vs.drop ((((List.Sublist.refl _).cons _).cons _).cons _)) ⟨_, rfl, _, _, h', hrw, ccs, hs, rfl, hrow', horow, hhs, fun j hj => hel j hj hj, rfl⟩
end Go.Gk.Val
end

section
/-
  Two and three values as a literal.
-/
namespace Go.Gk.Val
open Go Go.Gk
section
variable {P : Program} {pan : List PanicEntry → Post} {Qn : Env → Post} {Ls L : List PHeap} {ρ : Env} {d : PHeap} {s : GS} {t : Nat} {tk : Bool}
theorem w_bsV2 {x y : Operand} {a b : List Value} (ex : ev ρ x = .agg a.toArray) (ha : a.length = 6) (ey : ev ρ y = .agg b.toArray) (hb : b.length = 6) (h : ∀ q T, gws P pan Qn s Ls (upd ρ t (.slice (some ⟨q, 0, none⟩) 2 2)) d (bx q T (a ++ b) :: L)) :
    gws P pan Qn (.op false ⟨some t, none, .bsl 2 6 [.int .i64 0, .int .i64 0, .int .i64 0, strV [], .slice none 0 0, .slice none 0 0] [(0, x), (1, y)]⟩ s) Ls ρ d L := by
  obtain ⟨a0, a1, a2, a3, a4, a5, rfl⟩ := six ha
  obtain ⟨b0, b1, b2, b3, b4, b5, rfl⟩ := six hb
  refine w_bsl (by omega) ?_ h
  simp [Instr.fill, zrow, List.range, List.range.loop, ex, ey, Value.cells]
theorem w_bsV3 {x y z : Operand} {a b c : List Value} (ex : ev ρ x = .agg a.toArray) (ha : a.length = 6) (ey : ev ρ y = .agg b.toArray) (hb : b.length = 6) (ez : ev ρ z = .agg c.toArray) (hc : c.length = 6)
    (h : ∀ q T, gws P pan Qn s Ls (upd ρ t (.slice (some ⟨q, 0, none⟩) 3 3)) d (bx q T (a ++ b ++ c) :: L)) :
    gws P pan Qn (.op false ⟨some t, none, .bsl 3 6 [.int .i64 0, .int .i64 0, .int .i64 0, strV [], .slice none 0 0, .slice none 0 0] [(0, x), (1, y), (2, z)]⟩ s) Ls ρ d L := by
  obtain ⟨a0, a1, a2, a3, a4, a5, rfl⟩ := six ha
  obtain ⟨b0, b1, b2, b3, b4, b5, rfl⟩ := six hb
  obtain ⟨c0, c1, c2, c3, c4, c5, rfl⟩ := six hc
  refine w_bsl (by omega) ?_ h
  simp [Instr.fill, zrow, List.range, List.range.loop, ex, ey, ez, Value.cells]
end
theorem rvals2 {d d' : PHeap} {q : Nat} {T : TypeId} {a b : List Value} {x y : V} (hx : RVal d a x) (hy : RVal d b y) (hl : Le d d') (h : Le (bx q T (a ++ b)) d') : RVals d' (.slice (some ⟨q, 0, none⟩) 2 2) [x, y] := by
  obtain ⟨a0, a1, a2, a3, a4, a5, rfl⟩ := six hx.len
  obtain ⟨b0, b1, b2, b3, b4, b5, rfl⟩ := six hy.len
  have o := ORow.lit (sz := 6) (b := q) (T := T) (n := 2) (l := [a0, a1, a2, a3, a4, a5] ++ [b0, b1, b2, b3, b4, b5]) rfl (by omega)
  refine o.rsl (R := RVal) h rfl (by omega) (fun i hi => ?_)
  have hi2 : i < 2 := hi
  obtain rfl | rfl : i = 0 ∨ i = 1 := by omega
  · exact RVal.mono hl hx
  · exact RVal.mono hl hy
theorem rvals3 {d d' : PHeap} {q : Nat} {T : TypeId} {a b c : List Value} {x y z : V} (hx : RVal d a x) (hy : RVal d b y) (hz : RVal d c z) (hl : Le d d') (h : Le (bx q T (a ++ b ++ c)) d') : RVals d' (.slice (some ⟨q, 0, none⟩) 3 3) [x, y, z] := by
  obtain ⟨a0, a1, a2, a3, a4, a5, rfl⟩ := six hx.len
  obtain ⟨b0, b1, b2, b3, b4, b5, rfl⟩ := six hy.len
  obtain ⟨c0, c1, c2, c3, c4, c5, rfl⟩ := six hz.len
  have o := ORow.lit (sz := 6) (b := q) (T := T) (n := 3) (l := [a0, a1, a2, a3, a4, a5] ++ [b0, b1, b2, b3, b4, b5] ++ [c0, c1, c2, c3, c4, c5]) rfl (by omega)
  refine o.rsl (R := RVal) h rfl (by omega) (fun i hi => ?_)
  have hi2 : i < 3 := hi
  obtain rfl | rfl | rfl : i = 0 ∨ i = 1 ∨ i = 2 := by omega
  · exact RVal.mono hl hx
  · exact RVal.mono hl hy
  · exact RVal.mono hl hz
end Go.Gk.Val
end

section
/-
  The laws of values: the example, marks over what is handed out.
-/
namespace Go.Gk.Val
open Go Go.Gk Go.Gk.Utf
attribute [local irreducible] gwp gws

section
variable {P : Program} {pan : List PanicEntry → Post} {Qn : Env → Post} {Ls L : List PHeap} {ρ : Env} {d : PHeap} {s : GS} {t : Nat} {tk : Bool}
theorem w_bnum {x : Operand} {a : Int} (ex : ev ρ x = .int .i64 a) (h : gws P pan Qn s Ls (upd ρ t (.agg [.int .i64 a, .int .i64 0].toArray)) d L) :
    gws P pan Qn (.op tk ⟨some t, none, .bld [(0, 1), (1, 1)] [.int .i64 0, .int .i64 0] [(0, x)]⟩ s) Ls ρ d L :=
  w_bld (cs := [.int .i64 a, .int .i64 0]) (by simp [Instr.fill, ex, Value.cells]) h
theorem w_bvD {x y : Operand} {k : IntKind} {a m e : Int} (ex : ev ρ x = .int k a) (ey : ev ρ y = .agg [.int .i64 m, .int .i64 e].toArray) (h : gws P pan Qn s Ls (upd ρ t (.agg [.int k a, .int .i64 m, .int .i64 e, strV [], .slice none 0 0, .slice none 0 0].toArray)) d L) :
    gws P pan Qn (.op tk ⟨some t, none, .bld [(0, 1), (1, 2), (3, 1), (4, 1), (5, 1)] [.int .i64 0, .int .i64 0, .int .i64 0, strV [], .slice none 0 0, .slice none 0 0] [(0, x), (1, y)]⟩ s) Ls ρ d L :=
  w_bld (cs := [.int k a, .int .i64 m, .int .i64 e, strV [], .slice none 0 0, .slice none 0 0]) (by simp [Instr.fill, ex, ey, Value.cells, strV]) h
/-- Keys and a list. -/
theorem w_bvQ {y z : Operand} {b b' : Option Addr} {n c n' c' : Nat} (ey : ev ρ y = .slice b' n' c') (ez : ev ρ z = .slice b n c)
    (h : gws P pan Qn s Ls (upd ρ t (.agg [.int .i64 0, .int .i64 0, .int .i64 0, strV [], .slice b n c, .slice b' n' c'].toArray)) d L) :
    gws P pan Qn (.op tk ⟨some t, none, .bld [(0, 1), (1, 2), (3, 1), (4, 1), (5, 1)] [.int .i64 0, .int .i64 0, .int .i64 0, strV [], .slice none 0 0, .slice none 0 0] [(4, y), (3, z)]⟩ s) Ls ρ d L :=
  w_bld (cs := [.int .i64 0, .int .i64 0, .int .i64 0, strV [], .slice b n c, .slice b' n' c']) (by simp [Instr.fill, ey, ez, Value.cells, strV]) h
theorem w_bs3 {z : Value} {x0 x1 x2 : Operand} {v0 v1 v2 : Value} (e0 : ev ρ x0 = v0) (c0 : v0.cells = #[v0]) (e1 : ev ρ x1 = v1) (c1 : v1.cells = #[v1]) (e2 : ev ρ x2 = v2) (c2 : v2.cells = #[v2]) (h : ∀ b T, gws P pan Qn s Ls (upd ρ t (.slice (some ⟨b, 0, none⟩) 3 3)) d (bx b T [v0, v1, v2] :: L)) :
    gws P pan Qn (.op false ⟨some t, none, .bsl 3 1 [z] [(0, x0), (1, x1), (2, x2)]⟩ s) Ls ρ d L := by
  refine w_bsl (by omega) ?_ h
  simp [Instr.fill, zrow, List.range, List.range.loop, e0, c0, e1, c1, e2, c2]
end
theorem rstrs_lit {d : PHeap} {q : Nat} {T : TypeId} {ks : List (List UInt8)} (hk : ∀ k ∈ ks, k.length ≤ 140737488355328) (hl : ks.length ≤ 140737488355328) (h : Le (bx q T (ks.map strV)) d) : RStrs d (.slice (some ⟨q, 0, none⟩) ks.length ks.length) ks :=
  (ORow.lit (sz := 1) (b := q) (T := T) (n := ks.length) (l := ks.map strV) (by simp) hl).rsl (R := RStr) h rfl (by omega) (row_str hk)
def digV (n : Int) : V := .mk 3 n 0 [] [] []
abbrev digL (n : Int) : List Value := [.int .i64 3, .int .i64 n, .int .i64 0, strV [], .slice none 0 0, .slice none 0 0]
theorem i64_3 : I64 3 := ⟨by decide, by decide⟩
theorem dig_rval {d : PHeap} {n : Int} (h : I64 n) : RVal d (digL n) (digV n) := RVal.close (v := digV n) i64_3 h i64_0 (by simp [digV, V.text]) RSl.nil RSl.nil
def DigitOk (P : Program) (f : FuncId) : Prop := ∀ {d : PHeap} {n : Int}, GPure P f [.int .i64 n] d (.agg (digL n).toArray)
def g_thimblelaw03_digit : GFun :=
 ⟨6, [(.cell 2 (some 6))],
 (.seq
 (.reg false (.op false ⟨(some 2), none, (.alo (.agg #[(.int .i64 0), (.int .i64 0), (.int .i64 0), (strV []), (.slice none 0 0), (.slice none 0 0)]))⟩ .done))
 (.seq
 (.reg false (.op false ⟨(some 3), none, (.mv (.tmp 0))⟩
  (.op false ⟨(some 4), none, (.bld [(0, 1), (1, 1)] [(.int .i64 0), (.int .i64 0)] [(0, (.tmp 3))])⟩
  (.op false ⟨(some 5), none, (.bld [(0, 1), (1, 2), (3, 1), (4, 1), (5, 1)] [(.int .i64 0), (.int .i64 0), (.int .i64 0), (strV []), (.slice none 0 0), (.slice none 0 0)] [(0, (.const (.int .i64 3))), (1, (.tmp 4))])⟩
  (.op false ⟨none, none, (.st 6 (.tmp 2) (.tmp 5))⟩ .done))))) .ret))⟩

theorem digit_ok {P : Program} {f : FuncId} (hd : dec P f = some g_thimblelaw03_digit) : DigitOk P f := by
  intro d n
  refine GPure.of' hd (Nat.le_of_ble_eq_true rfl) ?_
  show gwp P _ _ _ _ _
  (apply w_sq; apply w_reg; apply w_alo; intro _ _; apply w_done0; apply w_sq; apply w_reg; apply w_mvi; rfl; apply w_bld; rfl; apply w_bld; rfl)
  rename_i b2 T2
  refine w_stE 0 (digL n) rfl rfl rfl rfl (Nat.le_of_ble_eq_true rfl) rfl rfl ?_
  (apply w_done0; apply w_ret)
  exact finS (L' := []) [.agg (digL n).toArray] ⟨res_cell 0 rfl rfl rfl, trivial⟩ (List.nil_sublist _) ⟨rfl, rfl⟩
def worksV : V := .mk 6 0 0 [] [digV 2, digV 3] [[97], [98]]
theorem works_make : makeTop [[98], [97], [98]] [digV 1, digV 2, digV 3] = (worksV, 0) := by rfl
def W3Ok (T : PHeap → Prop) (P : Program) (f : FuncId) : Prop := ∀ {d : PHeap}, T d → GPure P f [] d (.bool true)
def g_thimblelaw03_works (f_thimblelaw03_digit f_value_Make f_value_Right f_value_Size f_value_Copy f_value_Same : Nat) : GFun :=
 ⟨63, [(.tmp 0)],
 (.seq
 (.reg false (.op false ⟨(some 0), none, (.mv (.const (.bool false)))⟩ .done))
 (.seq
 (.reg false (.op false ⟨(some 4), none, (.bsl 3 1 [(strV [])] [(0, (.const (strV [98]))), (1, (.const (strV [97]))), (2, (.const (strV [98])))])⟩
  (.op false ⟨(some 5), none, (.call f_thimblelaw03_digit [(.const (.int .i64 1))])⟩
  (.op false ⟨(some 6), none, (.call f_thimblelaw03_digit [(.const (.int .i64 2))])⟩
  (.op false ⟨(some 7), none, (.call f_thimblelaw03_digit [(.const (.int .i64 3))])⟩
  (.op false ⟨(some 8), none, (.bsl 3 6 [(.int .i64 0), (.int .i64 0), (.int .i64 0), (strV []), (.slice none 0 0), (.slice none 0 0)] [(0, (.tmp 5)), (1, (.tmp 6)), (2, (.tmp 7))])⟩
  (.op false ⟨(some 9), none, (.call f_value_Make [(.tmp 4), (.tmp 8)])⟩
  (.op false ⟨(some 3), none, (.mv (.tmp 9))⟩
  (.op false ⟨(some 10), none, (.ext (.tmp 3) 0)⟩
  (.op false ⟨(some 11), none, (.ext (.tmp 3) 1)⟩
  (.op false ⟨(some 1), none, (.alo (.agg #[(.int .i64 0), (.int .i64 0), (.int .i64 0), (strV []), (.slice none 0 0), (.slice none 0 0)]))⟩
  (.op false ⟨none, none, (.st 6 (.tmp 1) (.tmp 10))⟩
  (.op false ⟨(some 2), none, (.mv (.tmp 11))⟩ .done)))))))))))))
 (.seq
 (.reg true (.op true ⟨(some 12), none, (.mv (.tmp 2))⟩
  (.op true ⟨(some 13), none, (.bin .eql (.tmp 12) (.const (.int .i64 0)))⟩
  (.op true ⟨(some 14), none, (.mv (.tmp 13))⟩
  (.op true ⟨(some 15), (some (14, true)), (.fld 0 (.tmp 1))⟩
  (.op true ⟨(some 16), (some (14, true)), (.ld none (.tmp 15))⟩
  (.op true ⟨(some 17), (some (14, true)), (.bin .eql (.tmp 16) (.const (.int .i64 6)))⟩
  (.op true ⟨(some 18), none, (.pick (.tmp 14) (.tmp 17) (.const (.bool false)))⟩
  (.op true ⟨(some 19), none, (.mv (.tmp 18))⟩
  (.op true ⟨(some 20), (some (19, true)), (.fld 5 (.tmp 1))⟩
  (.op true ⟨(some 21), (some (19, true)), (.ld none (.tmp 20))⟩
  (.op true ⟨(some 22), (some (19, true)), (.len (.tmp 21))⟩
  (.op true ⟨(some 23), (some (19, true)), (.bin .eql (.tmp 22) (.const (.int .i64 2)))⟩
  (.op true ⟨(some 24), none, (.pick (.tmp 19) (.tmp 23) (.const (.bool false)))⟩
  (.op true ⟨(some 25), none, (.mv (.tmp 24))⟩
  (.op true ⟨(some 26), (some (25, true)), (.fld 5 (.tmp 1))⟩
  (.op true ⟨(some 27), (some (25, true)), (.ld none (.tmp 26))⟩
  (.op true ⟨(some 28), (some (25, true)), (.idx 1 (.tmp 27) (.const (.int .i64 0)))⟩
  (.op true ⟨(some 29), (some (25, true)), (.ld none (.tmp 28))⟩
  (.op true ⟨(some 30), (some (25, true)), (.bin .eql (.tmp 29) (.const (strV [97])))⟩
  (.op true ⟨(some 31), none, (.pick (.tmp 25) (.tmp 30) (.const (.bool false)))⟩
  (.op true ⟨(some 32), none, (.mv (.tmp 31))⟩
  (.op true ⟨(some 33), (some (32, true)), (.fld 4 (.tmp 1))⟩
  (.op true ⟨(some 34), (some (32, true)), (.ld none (.tmp 33))⟩
  (.op true ⟨(some 35), (some (32, true)), (.len (.tmp 34))⟩
  (.op true ⟨(some 36), (some (32, true)), (.bin .eql (.tmp 35) (.const (.int .i64 2)))⟩
  (.op true ⟨(some 37), none, (.pick (.tmp 32) (.tmp 36) (.const (.bool false)))⟩
  (.op true ⟨(some 38), none, (.mv (.tmp 37))⟩
  (.op true ⟨(some 39), (some (38, true)), (.fld 4 (.tmp 1))⟩
  (.op true ⟨(some 40), (some (38, true)), (.ld none (.tmp 39))⟩
  (.op true ⟨(some 41), (some (38, true)), (.idx 6 (.tmp 40) (.const (.int .i64 1)))⟩
  (.op true ⟨(some 42), (some (38, true)), (.fld 1 (.tmp 41))⟩
  (.op true ⟨(some 43), (some (38, true)), (.fld 0 (.tmp 42))⟩
  (.op true ⟨(some 44), (some (38, true)), (.ld none (.tmp 43))⟩
  (.op true ⟨(some 45), (some (38, true)), (.bin .eql (.tmp 44) (.const (.int .i64 3)))⟩
  (.op true ⟨(some 46), none, (.pick (.tmp 38) (.tmp 45) (.const (.bool false)))⟩
  (.op true ⟨(some 47), none, (.mv (.tmp 46))⟩
  (.op true ⟨(some 48), (some (47, true)), (.bld [(0, 1), (1, 2), (3, 1), (4, 1), (5, 1)] [(.int .i64 0), (.int .i64 0), (.int .i64 0), (strV []), (.slice none 0 0), (.slice none 0 0)] [(0, (.const (.int .i64 4))), (2, (.const (strV [255])))])⟩
  (.op false ⟨(some 49), (some (47, true)), (.call f_value_Right [(.tmp 48)])⟩
  (.op true ⟨(some 50), (some (47, true)), (.bin .eql (.tmp 49) (.const (.int .i64 30)))⟩
  (.op true ⟨(some 51), none, (.pick (.tmp 47) (.tmp 50) (.const (.bool false)))⟩
  (.op true ⟨(some 52), none, (.mv (.tmp 51))⟩
  (.op true ⟨(some 53), (some (52, true)), (.ld (some 6) (.tmp 1))⟩
  (.op false ⟨(some 54), (some (52, true)), (.call f_value_Size [(.tmp 53)])⟩
  (.op true ⟨(some 55), (some (52, true)), (.bin .eql (.tmp 54) (.const (.int .i64 3)))⟩
  (.op true ⟨(some 56), none, (.pick (.tmp 52) (.tmp 55) (.const (.bool false)))⟩
  (.op true ⟨(some 57), none, (.mv (.tmp 56))⟩
  (.op true ⟨(some 58), (some (57, true)), (.ld (some 6) (.tmp 1))⟩
  (.op true ⟨(some 59), (some (57, true)), (.ld (some 6) (.tmp 1))⟩
  (.op false ⟨(some 60), (some (57, true)), (.call f_value_Copy [(.tmp 59)])⟩
  (.op false ⟨(some 61), (some (57, true)), (.call f_value_Same [(.tmp 58), (.tmp 60)])⟩
  (.op true ⟨(some 62), none, (.pick (.tmp 57) (.tmp 61) (.const (.bool false)))⟩
  (.bar (.op true ⟨(some 0), none, (.mv (.tmp 62))⟩ .done)))))))))))))))))))))))))))))))))))))))))))))))))))))) .ret)))⟩

set_option maxHeartbeats 2000000 in
theorem works3_ok {T : PHeap → Prop} (hTm : ∀ {d d' : PHeap}, T d → Le d d' → T d') {P : Program} {f f1 f2 f3 f4 f5 f6 : FuncId} (hd : decp P f = some (g_thimblelaw03_works f1 f2 f3 f4 f5 f6)) (h1 : DigitOk P f1) (h2 : VMakeOk T P f2) (h3 : RightOk T P f3) (h4 : VSizeOk P f4) (h5 : VCopyOk P f5) (h6 : SameOk P f6) : W3Ok T P f := by
  intro d ht
  refine GPure.of' hd (Nat.le_of_ble_eq_true rfl) ?_
  show gwp P _ _ _ _ _
  (apply w_sq; apply w_reg; apply w_mvb; rfl; apply w_done0; apply w_sq; apply w_reg)
  refine w_bs3 (v0 := strV [98]) (v1 := strV [97]) (v2 := strV [98]) rfl rfl rfl rfl rfl rfl (fun b4 T4 => ?_)
  refine w_pure rfl h1 ?_
  refine w_pure rfl h1 ?_
  refine w_pure rfl h1 ?_
  refine w_bsV3 (a := digL 1) (b := digL 2) (c := digL 3) rfl rfl rfl rfl rfl rfl (fun b8 T8 => ?_)
  refine w_frz (fun d1 hl1 hg1 => ?_)
  refine w_frz (fun d2 hl2 hg2 => ?_)
  have hks : RStrs d2 (.slice (some ⟨b4, 0, none⟩) 3 3) [[98], [97], [98]] := rstrs_lit (ks := [[98], [97], [98]]) (by decide) (by decide) hg2
  have hvs : RVals d2 (.slice (some ⟨b8, 0, none⟩) 3 3) [digV 1, digV 2, digV 3] := rvals3 (d := d2) (dig_rval ⟨by decide, by decide⟩) (dig_rval ⟨by decide, by decide⟩) (dig_rval ⟨by decide, by decide⟩) (Le.refl _) (hg1.trans hl2)
  have hmk := h2 (hTm ht (hl1.trans hl2)) hks hvs (by decide) (by decide)
  rw [works_make] at hmk
  refine w_call0 rfl hmk (fun r d3 L3 _ ⟨hdd, cs', h, hr, hL, ho⟩ => ?_)
  subst hdd; subst hr; subst hL
  refine w_frz (fun d4 hl4 hg4 => ?_)
  have ht4 := hTm ht ((hl1.trans hl2).trans hl4)
  have hR := ho.rval hg4
  have hR0 := hR
  obtain ⟨lv, kv, hcs, _, _, _, _, hll, hkk⟩ := hR.open
  obtain ⟨la, lc, rfl⟩ := RSl.val hll
  obtain ⟨ka, kc, rfl⟩ := RSl.val hkk
  subst hcs
  have hll' : RSl 6 RVal d4 (.slice la 2 lc) [digV 2, digV 3] := hll
  have hkk' : RSl 1 RStr d4 (.slice ka 2 kc) [[97], [98]] := hkk
  have hR1 : RVal d4 [.int .i64 6, .int .i64 0, .int .i64 0, strV [], .slice la 2 lc, .slice ka 2 kc] worksV := hR0
  (apply w_mvu; rfl; apply w_ext; rfl; rfl; apply w_ext; rfl; rfl; apply w_alo; intro _ _)
  rename_i b1 T1
  refine w_stE 0 [.int .i64 6, .int .i64 0, .int .i64 0, strV [], .slice la 2 lc, .slice ka 2 kc] rfl rfl rfl rfl (Nat.le_of_ble_eq_true rfl) rfl rfl ?_
  (apply w_mvi; rfl; apply w_done0; apply w_sq; apply w_drawn; apply w_mvi; rfl; apply w_eql; rfl; rfl; apply w_mvb; rfl; refine w_gdT rfl (by omega) ?_; apply w_gT; rfl; apply w_fld; rfl; apply w_gT; rfl; apply w_ld; rfl; exact hc_i 0 rfl rfl; apply w_gT; rfl; apply w_eql; rfl; rfl; apply w_pickTb; rfl; rfl; apply w_mvb; rfl; refine w_gdT rfl (by omega) ?_; apply w_gT; rfl; apply w_fld; rfl; apply w_gT; rfl; apply w_ld; rfl; exact hc_i 0 rfl rfl; apply w_gT; rfl; apply w_len; rfl; apply w_gT; rfl; apply w_eql; rfl; rfl; apply w_pickTb; rfl; rfl; apply w_mvb; rfl; refine w_gdT rfl (by omega) ?_; apply w_gT; rfl; apply w_fld; rfl; apply w_gT; rfl; apply w_ld; rfl; exact hc_i 0 rfl rfl; apply w_gT; rfl)
  refine w_idxR (sz := 1) (R := RStr) (m := 0) rfl hkk' rfl rfl (by decide) ?_
  rintro b28 o28 _ _ hD28 ⟨rfl, _⟩
  have e0 : ([[97], [98]] : List (List UInt8))[0] = [97] := rfl
  (apply w_gT; rfl; apply w_ld; rfl; exact hc_ds0 (by assumption) rfl; apply w_gT; rfl; apply w_seq; rfl; rfl; apply w_pickTb; rfl; rfl; apply w_mvb; rfl; refine w_gdT rfl (by omega) ?_; apply w_gT; rfl; apply w_fld; rfl; apply w_gT; rfl; apply w_ld; rfl; exact hc_i 0 rfl rfl; apply w_gT; rfl; apply w_len; rfl; apply w_gT; rfl; apply w_eql; rfl; rfl; apply w_pickTb; rfl; rfl; apply w_mvb; rfl; refine w_gdT rfl (by omega) ?_; apply w_gT; rfl; apply w_fld; rfl; apply w_gT; rfl; apply w_ld; rfl; exact hc_i 0 rfl rfl; apply w_gT; rfl)
  refine w_idxR (sz := 6) (R := RVal) (m := 1) rfl hll' rfl rfl (by decide) ?_
  rintro b41 o41 cs41 h41 hD41 hR41
  obtain ⟨lv2, kv2, hcs2, _, _, _, _, _, _⟩ := hR41.open
  subst hcs2
  (apply w_gT; rfl; apply w_fld; rfl; apply w_gT; rfl; apply w_fld; rfl; apply w_gT; rfl)
  refine w_ld rfl (hc_ds (i := 1) hD41 (show _ = some (Value.int .i64 3) from rfl)) ?_
  have hx : RVal d4 [.int .i64 4, .int .i64 0, .int .i64 0, strV [255], .slice none 0 0, .slice none 0 0] (.mk 4 0 0 [255] [] []) := RVal.close (v := .mk 4 0 0 [255] [] []) i64_4 i64_0 i64_0 (by simp [V.text]) RSl.nil RSl.nil
  have hx30 : rightV (.mk 4 0 0 [255] [] []) = 30 := by rfl
  have hs3 : ((sizeV worksV : Nat) : Int) = 3 := by rfl
  (apply w_gT; rfl; apply w_eql; rfl; rfl; apply w_pickTb; rfl; rfl; apply w_mvb; rfl; refine w_gdT rfl (by omega) ?_; apply w_gT; rfl; apply w_bvKT; rfl; rfl; apply w_gT; rfl)
  refine w_pure rfl (h3 ht4 hx) ?_
  rw [hx30]
  (apply w_gT; rfl; apply w_eql; rfl; rfl; apply w_pickTb; rfl; rfl; apply w_mvb; rfl; refine w_gdT rfl (by omega) ?_; apply w_gT; rfl; apply w_ldb 0; rfl; rfl; rfl; apply w_gT; rfl)
  refine w_pure rfl (h4 _ hR1 (by decide)) ?_
  rw [hs3]
  (apply w_gT; rfl; apply w_eql; rfl; rfl; apply w_pickTb; rfl; rfl; apply w_mvb; rfl; refine w_gdT rfl (by omega) ?_; apply w_gT; rfl; apply w_ldb 0; rfl; rfl; rfl; apply w_gT; rfl; apply w_ldb 0; rfl; rfl; rfl; apply w_gT; rfl)
  refine w_call0 rfl (h5 _ hR1 (by decide)) (fun r d5 L5 _ ⟨hdd, cs5, g5, hr, hL, ho5⟩ => ?_)
  subst hdd; subst hr; subst hL
  have hs1 : sameV worksV worksV = true := (sameV_iff _ _).2 rfl
  (apply w_gT; rfl)
  refine w_pureB rfl (fun d6 hl6 hk6 => h6 _ _ (RVal.mono hl6 hR1) (ho5.rval (hk6 g5 (by simp)))) ?_
  rw [hs1]
  (apply w_pickTb; rfl; rfl; apply w_bar; apply w_mvb; rfl; apply w_done0; apply w_ret)
  exact finQ rfl
end Go.Gk.Val
end

section
/-
  The laws of values: ValueRights.
-/
namespace Go.Gk.Val
open Go Go.Gk Go.Gk.Utf
attribute [local irreducible] gwp gws

def g_thimblelaw03_ValueRights (f_thimbleref03_Bulk f_thimblelaw03_works f_thimbleref03_Copy f_value_Right f_thimbleref03_Right f_value_Depth f_thimbleref03_Depth f_value_Size f_thimbleref03_Size f_thimbleref03_Same : Nat) : GFun :=
 ⟨37, [(.tmp 2)],
 (.seq
 (.reg false (.op false ⟨(some 1), none, (.box (.tmp 0))⟩
  (.op false ⟨(some 2), none, (.mv (.const (.bool false)))⟩ .done)))
 (.seq (.seq
 (.reg false (.op false ⟨(some 4), none, (.ld (some 6) (.tmp 1))⟩
  (.op false ⟨(some 5), none, (.call f_thimbleref03_Bulk [(.tmp 4), (.const (.int .i64 3000))])⟩
  (.op false ⟨(some 6), none, (.bin .gtr (.tmp 5) (.const (.int .i64 3000)))⟩ .done)))) (.cond (.tmp 6)
 (.seq
 (.reg false (.op false ⟨(some 7), none, (.call f_thimblelaw03_works [])⟩
  (.op false ⟨(some 2), none, (.mv (.tmp 7))⟩ .done))) .ret) .skip))
 (.seq
 (.reg false (.op false ⟨(some 8), none, (.ld (some 6) (.tmp 1))⟩
  (.op false ⟨(some 9), none, (.call f_thimbleref03_Copy [(.tmp 8)])⟩
  (.op false ⟨(some 3), none, (.alo (.agg #[(.int .i64 0), (.int .i64 0), (.int .i64 0), (strV []), (.slice none 0 0), (.slice none 0 0)]))⟩
  (.op false ⟨none, none, (.st 6 (.tmp 3) (.tmp 9))⟩ .done)))))
 (.seq
 (.reg true (.op true ⟨(some 10), none, (.ld (some 6) (.tmp 3))⟩
  (.op true ⟨(some 12), none, (.ld (some 6) (.tmp 1))⟩
  (.op false ⟨(some 11), none, (.call f_value_Right [(.tmp 10)])⟩
  (.op false ⟨(some 13), none, (.call f_thimbleref03_Right [(.tmp 12)])⟩
  (.op true ⟨(some 14), none, (.bin .eql (.tmp 11) (.tmp 13))⟩
  (.op true ⟨(some 15), none, (.mv (.tmp 14))⟩
  (.op true ⟨(some 16), (some (15, true)), (.ld (some 6) (.tmp 3))⟩
  (.op true ⟨(some 18), (some (15, true)), (.ld (some 6) (.tmp 1))⟩
  (.op false ⟨(some 17), (some (15, true)), (.call f_value_Depth [(.tmp 16)])⟩
  (.op false ⟨(some 19), (some (15, true)), (.call f_thimbleref03_Depth [(.tmp 18)])⟩
  (.op true ⟨(some 20), (some (15, true)), (.bin .eql (.tmp 17) (.tmp 19))⟩
  (.op true ⟨(some 21), none, (.pick (.tmp 15) (.tmp 20) (.const (.bool false)))⟩
  (.op true ⟨(some 22), none, (.mv (.tmp 21))⟩
  (.op true ⟨(some 23), (some (22, true)), (.ld (some 6) (.tmp 3))⟩
  (.op true ⟨(some 25), (some (22, true)), (.ld (some 6) (.tmp 1))⟩
  (.op false ⟨(some 24), (some (22, true)), (.call f_value_Size [(.tmp 23)])⟩
  (.op false ⟨(some 26), (some (22, true)), (.call f_thimbleref03_Size [(.tmp 25)])⟩
  (.op true ⟨(some 27), (some (22, true)), (.bin .eql (.tmp 24) (.tmp 26))⟩
  (.op true ⟨(some 28), none, (.pick (.tmp 22) (.tmp 27) (.const (.bool false)))⟩
  (.op true ⟨(some 29), none, (.mv (.tmp 28))⟩
  (.op true ⟨(some 30), (some (29, true)), (.ld (some 6) (.tmp 3))⟩
  (.op true ⟨(some 31), (some (29, true)), (.ld (some 6) (.tmp 1))⟩
  (.op false ⟨(some 32), (some (29, true)), (.call f_thimbleref03_Same [(.tmp 30), (.tmp 31)])⟩
  (.op true ⟨(some 33), none, (.pick (.tmp 29) (.tmp 32) (.const (.bool false)))⟩
  (.op true ⟨(some 34), none, (.mv (.tmp 33))⟩
  (.op false ⟨(some 35), (some (34, true)), (.call f_thimblelaw03_works [])⟩
  (.op true ⟨(some 36), none, (.pick (.tmp 34) (.tmp 35) (.const (.bool false)))⟩
  (.bar (.op true ⟨(some 2), none, (.mv (.tmp 36))⟩ .done)))))))))))))))))))))))))))))) .ret))))⟩

set_option maxHeartbeats 2000000 in
theorem valueRights_ok {T : PHeap → Prop} {P : Program} {f f1 f2 f3 f4 f5 f6 f7 f8 f9 f10 : FuncId} (hT : ∀ {d d' : PHeap}, Le d d' → T d → T d') (hd : decp P f = some (g_thimblelaw03_ValueRights f1 f2 f3 f4 f5 f6 f7 f8 f9 f10)) (h1 : BulkOk P f1) (h2 : W3Ok T P f2) (h3 : RCopyOk P f3) (h4 : RightOk T P f4) (h5 : RRightOk T P f5)
    (h6 : VDepthOk P f6) (h7 : RDepthOk P f7) (h8 : VSizeOk P f8) (h9 : VSizeOk P f9) (h10 : SameOk P f10)
    {d : PHeap} {cs : List Value} {v : V} (ht : T d) (hv : RVal d cs v) : GPure P f [.agg cs.toArray] d (.bool true) := by
  obtain ⟨c0, c1, c2, c3, c4, c5, rfl⟩ := six hv.len
  refine GPure.of' hd (Nat.le_of_ble_eq_true rfl) ?_
  show gwp P _ _ _ _ _
  apply w_sq; apply w_reg
  refine w_boxa (l := [c0, c1, c2, c3, c4, c5]) rfl (fun b1 T1 => ?_)
  (apply w_mvb; rfl; apply w_done0; apply w_sq; apply w_sq; apply w_reg; apply w_ldb 0; rfl; rfl; rfl)
  refine w_call0 rfl (h1 v (most := 3000) hv (by omega)) (fun r d3 L3 _ ⟨hdd, z, hr, hz1, hz2, hz3, hL⟩ => ?_)
  subst hdd; subst hr; subst hL
  by_cases q2 : 3000 < z
  · (apply w_gtr; rfl; rfl; apply w_done0; refine w_ifdT rfl (by omega) ?_; apply w_sq; apply w_reg)
    refine w_pure rfl (h2 ht) ?_
    (apply w_mvb; rfl; apply w_done0; apply w_ret)
    exact finQ rfl
  have hbv : bulkV v ≤ 3000 := by have := hz3 (by omega); omega
  have hcb := cnt_bulk v
  have htx := txt_bulk v
  have hdx := depth_txt v
  have hsx := size_bulk v
  (apply w_gtr; rfl; rfl; apply w_done0; refine w_ifdF rfl (by omega) ?_; apply w_skip; apply w_sq; apply w_reg; apply w_ldb 0; rfl; rfl; rfl)
  refine w_call0 rfl (h3 v hv (by omega)) (fun r d2 L2 hl2 ⟨hL, cs2, hr, hR2⟩ => ?_)
  subst hL; subst hr
  obtain ⟨o0, o1, o2, o3, o4, o5, rfl⟩ := six hR2.len
  have hv2 := RVal.mono hl2 hv
  have ht2 := hT hl2 ht
  (apply w_alo; intro _ _)
  rename_i b3 T3
  refine w_stE 0 [o0, o1, o2, o3, o4, o5] rfl rfl rfl rfl (Nat.le_of_ble_eq_true rfl) (cell1_val _ _ _ hR2) rfl ?_
  have hs2 : sameV v v = true := (sameV_iff _ _).2 rfl
  (apply w_done0; apply w_sq; apply w_drawn; apply w_ldb 0; rfl; rfl; rfl; apply w_ldb 1; rfl; rfl; rfl)
  refine w_pure rfl (h4 ht2 hR2) ?_
  skip
  refine w_pure rfl (h5 ht2 hv2 (by omega)) ?_
  (apply w_eql; rfl; rfl; apply w_mvb; rfl; refine w_gdT rfl (by omega) ?_; apply w_gT; rfl; apply w_ldb 0; rfl; rfl; rfl; apply w_gT; rfl; apply w_ldb 1; rfl; rfl; rfl; apply w_gT; rfl)
  refine w_pure rfl (h6 v hR2 (by omega)) ?_
  (apply w_gT; rfl)
  refine w_pure rfl (h7 v hv2 (by omega)) ?_
  (apply w_gT; rfl; apply w_eql; rfl; rfl; apply w_pickTb; rfl; rfl; apply w_mvb; rfl; refine w_gdT rfl (by omega) ?_; apply w_gT; rfl; apply w_ldb 0; rfl; rfl; rfl; apply w_gT; rfl; apply w_ldb 1; rfl; rfl; rfl; apply w_gT; rfl)
  refine w_pure rfl (h8 v hR2 (by omega)) ?_
  (apply w_gT; rfl)
  refine w_pure rfl (h9 v hv2 (by omega)) ?_
  (apply w_gT; rfl; apply w_eql; rfl; rfl; apply w_pickTb; rfl; rfl; apply w_mvb; rfl; refine w_gdT rfl (by omega) ?_; apply w_gT; rfl; apply w_ldb 0; rfl; rfl; rfl; apply w_gT; rfl; apply w_ldb 1; rfl; rfl; rfl; apply w_gT; rfl)
  refine w_pure rfl (h10 v v hR2 hv2) ?_
  rw [hs2]
  (apply w_pickTb; rfl; rfl; apply w_mvb; rfl; apply w_gT; rfl)
  refine w_pure rfl (h2 ht2) ?_
  (apply w_pickTb; rfl; rfl; apply w_bar; apply w_mvb; rfl; apply w_done0; apply w_ret)
  exact finQ rfl
end Go.Gk.Val
end
