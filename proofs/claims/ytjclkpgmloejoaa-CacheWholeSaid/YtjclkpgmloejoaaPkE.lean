/-
  Our own texts, one behind the other: GkC7 GkC9.
-/
import Derived.Test.YtjclkpgmloejoaaPkD
section
namespace Go.Gk.Cch
open Go Go.Gk Go.Gk.Dev
attribute [local irreducible] gwp gws xwp

section
variable {P : Program} {pan : List PanicEntry → Post} {Qn : Env → Post} {Ls L : List PHeap} {ρ : Env} {d : PHeap} {s : GS} {t : Nat} {tk : Bool}
theorem w_remK {x y : Operand} {kk : IntKind} {a b : Int} (k : Nat) (ex : ev ρ x = .int kk a) (ey : ev ρ y = .int kk b) (h1 : 0 ≤ a) (h2 : 0 < b) (hk : a % b = (k : Int)) (h : gws P pan Qn s Ls (upd ρ t (.int kk (k : Nat))) d L) :
    gws P pan Qn (.op tk ⟨some t, none, .bin .rem x y⟩ s) Ls ρ d L := w_rem ex ey h1 h2 (by rw [hk]; exact h)
end
theorem nat_rem (a : Int) (m : Nat) (h : 0 < m) : ∃ k : Nat, (a % 18446744073709551616) % (m : Int) = (k : Int) ∧ k < m := by
  refine ⟨((a % 18446744073709551616) % (m : Int)).toNat, ?_, ?_⟩ <;> have := Int.emod_nonneg (a % 18446744073709551616) (show (m : Int) ≠ 0 by omega) <;> have := Int.emod_lt_of_pos (a % 18446744073709551616) (show (0 : Int) < m by omega) <;> omega
structure Tl (c : CD) (i n : Nat) : Prop where
  inv : Inv curK 12 c
  pin : ∀ s, pinOf c s ≤ i
  sum : c.hits + c.miss = n
  le : n ≤ i
theorem Tl.pinB {c : CD} {i n : Nat} (h : Tl c i n) (hi : i ≤ 1000) : PinB c 4611686018427387904 := fun f hf => by
  have := pinB_of h.inv h.pin f hf; omega
theorem Tl.get {c c' : CD} {i n k : Nat} {b : Sec} (h : Tl c i n) (hk : k < 12) (hg : getF (curK k) c k = (c', some b)) : Tl c' (i + 1) (n + 1) ∧ b = curK k ∧ pinOf c' k ≠ 0 := by
  obtain ⟨g1, g2, g3, g4, g5, g6, g7⟩ := get_some h.inv hk hg
  refine ⟨⟨g1, fun s => ?_, ?_, by have := h.le; omega⟩, g2, ?_⟩
  · rw [g3]; have := h.pin s; split <;> omega
  · have := h.sum
    split at g6 <;> omega
  · rw [g3, if_pos rfl]; omega
theorem Tl.leave {c : CD} {i n k : Nat} (h : Tl c i n) (hp : pinOf c k ≠ 0) : Tl (leaveF c k).1 i n ∧ (leaveF c k).2 = 0 := by
  obtain ⟨g1, g2, g3, g4, g5, g6, g7⟩ := leave_inv h.inv hp
  refine ⟨⟨g1, fun s => ?_, by rw [g5, g6]; exact h.sum, h.le⟩, g2⟩
  rw [g3]; have := h.pin s; split <;> omega
theorem Tl.next {c : CD} {i n : Nat} (h : Tl c i n) : Tl c (i + 1) n := ⟨h.inv, fun s => by have := h.pin s; omega, h.sum, by have := h.le; omega⟩

theorem GotB.form {d : PHeap} {r : Value} {o : Option Sec} (h : GotB d r o) : ∃ a n cp e, r = .tuple #[.slice a n cp, .int .i64 e] ∧ (match o with | some b => e = 0 ∧ n = b.length ∧ RBytes d (.slice a n cp) b | none => e = 180 ∧ n = 0) := by
  cases o with
  | none => obtain rfl := h; exact ⟨none, 0, 0, 180, rfl, rfl, rfl⟩
  | some b =>
    obtain ⟨u, rfl, hu⟩ := h
    obtain ⟨a, c, rfl⟩ := RSl.val hu
    exact ⟨a, _, c, 0, rfl, rfl, rfl, hu⟩
def Seen (l : List Int) (j : Nat) (bs : List Bool) : Prop := bs.length = 12 ∧ ∀ s (hs : s < bs.length), bs[s] = true → ∃ j', j' < j ∧ l[j']? = some (s : Int)
theorem seen_step {l : List Int} {j : Nat} {bs : List Bool} (h : Seen l j bs) (hj : j < l.length) {s : Nat} (hs : s < 12) (e : l[j] = (s : Int)) : Seen l (j + 1) (bs.set s true) := by
  refine ⟨by rw [List.length_set]; exact h.1, fun t ht hb => ?_⟩
  rw [List.length_set] at ht
  by_cases q : s = t
  · subst q; exact ⟨j, by omega, by rw [List.getElem?_eq_getElem hj, e]⟩
  · rw [List.getElem_set_ne q] at hb
    obtain ⟨j', h1, h2⟩ := h.2 t ht hb
    exact ⟨j', by omega, h2⟩
theorem seen_next {l : List Int} {j : Nat} {bs : List Bool} (h : Seen l j bs) : Seen l (j + 1) bs := ⟨h.1, fun t ht hb => let ⟨j', h1, h2⟩ := h.2 t ht hb; ⟨j', by omega, h2⟩⟩
def g_thimblelaw18_CacheTells (f_thimblelaw18_works f_thimblelaw18_over f_cache_Cache_Get f_cache_Cache_Leave f_cache_Cache_Hits f_cache_Cache_Misses f_cache_Cache_Held : Nat) : GFun :=
 ⟨125, [(.tmp 6)],
 (.seq
 (.reg false (.op false ⟨(some 6), none, (.mv (.const (.bool false)))⟩ .done))
 (.seq (.seq
 (.reg false (.op false ⟨(some 16), none, (.call f_thimblelaw18_works [])⟩
  (.op false ⟨(some 17), none, (.un .not (.tmp 16))⟩ .done))) (.cond (.tmp 17)
 (.seq
 (.reg false (.op false ⟨(some 6), none, (.mv (.const (.bool false)))⟩ .done)) .ret) .skip))
 (.seq
 (.reg false (.op false ⟨(some 18), none, (.mv (.tmp 0))⟩
  (.op false ⟨(some 19), none, (.cvi .u64 (.tmp 18))⟩
  (.op false ⟨(some 20), none, (.bin .rem (.tmp 19) (.const (.int .u64 8)))⟩
  (.op false ⟨(some 21), none, (.cvi .i64 (.tmp 20))⟩
  (.op false ⟨(some 22), none, (.bin .add (.const (.int .i64 1)) (.tmp 21))⟩
  (.op false ⟨(some 23), none, (.call f_thimblelaw18_over [(.tmp 22)])⟩
  (.op false ⟨(some 7), none, (.mv (.tmp 23))⟩ .done))))))))
 (.seq (.seq
 (.reg false (.op false ⟨(some 24), none, (.mv (.tmp 7))⟩
  (.op false ⟨(some 25), none, (.eqp false (.tmp 24) (.const (.pointer none)))⟩ .done))) (.cond (.tmp 25)
 (.seq
 (.reg false (.op false ⟨(some 6), none, (.mv (.const (.bool false)))⟩ .done)) .ret) .skip))
 (.seq
 (.reg false (.op false ⟨(some 8), none, (.mv (.const (.int .i64 0)))⟩ .done))
 (.seq (.seq
 (.reg false (.op false ⟨(some 9), none, (.mv (.const (.int .i64 0)))⟩ .done)) (.block 0 (.loop
 (.seq (.seq
 (.reg false (.op false ⟨(some 26), none, (.mv (.tmp 9))⟩
  (.op false ⟨(some 27), none, (.mv (.tmp 1))⟩
  (.op false ⟨(some 28), none, (.len (.tmp 27))⟩
  (.op false ⟨(some 29), none, (.bin .lss (.tmp 26) (.tmp 28))⟩
  (.op false ⟨(some 30), none, (.mv (.tmp 29))⟩
  (.op false ⟨(some 31), (some (30, true)), (.mv (.tmp 9))⟩
  (.op false ⟨(some 32), (some (30, true)), (.bin .lss (.tmp 31) (.const (.int .i64 100)))⟩
  (.op false ⟨(some 33), none, (.pick (.tmp 30) (.tmp 32) (.const (.bool false)))⟩ .done))))))))) (.cond (.tmp 33) .skip (.exit 0)))
 (.seq (.block 1
 (.seq
 (.reg false (.op false ⟨(some 36), none, (.mv (.tmp 1))⟩
  (.op false ⟨(some 37), none, (.mv (.tmp 9))⟩
  (.op false ⟨(some 38), none, (.idx 1 (.tmp 36) (.tmp 37))⟩
  (.op false ⟨(some 39), none, (.ld none (.tmp 38))⟩
  (.op false ⟨(some 40), none, (.cvi .u64 (.tmp 39))⟩
  (.op false ⟨(some 41), none, (.bin .rem (.tmp 40) (.const (.int .u64 12)))⟩
  (.op false ⟨(some 42), none, (.cvi .i64 (.tmp 41))⟩
  (.op false ⟨(some 10), none, (.mv (.tmp 42))⟩ .done)))))))))
 (.seq
 (.reg false (.op false ⟨(some 44), none, (.mv (.tmp 7))⟩
  (.op false ⟨(some 45), none, (.mv (.tmp 10))⟩
  (.op false ⟨(some 46), none, (.call f_cache_Cache_Get [(.tmp 44), (.tmp 45)])⟩
  (.op false ⟨(some 43), none, (.mv (.tmp 46))⟩
  (.op false ⟨(some 47), none, (.ext (.tmp 43) 0)⟩
  (.op false ⟨(some 48), none, (.ext (.tmp 43) 1)⟩
  (.op false ⟨(some 11), none, (.mv (.tmp 47))⟩
  (.op false ⟨(some 12), none, (.mv (.tmp 48))⟩ .done)))))))))
 (.seq (.seq
 (.reg false (.op false ⟨(some 49), none, (.mv (.tmp 12))⟩
  (.op false ⟨(some 50), none, (.bin .eql (.tmp 49) (.const (.int .i64 0)))⟩ .done))) (.cond (.tmp 50)
 (.seq
 (.reg false (.op false ⟨(some 51), none, (.mv (.tmp 8))⟩
  (.op false ⟨(some 52), none, (.bin .add (.tmp 51) (.const (.int .i64 1)))⟩
  (.op false ⟨(some 8), none, (.mv (.tmp 52))⟩ .done))))
 (.seq (.seq
 (.reg false (.op false ⟨(some 53), none, (.mv (.tmp 11))⟩
  (.op false ⟨(some 54), none, (.len (.tmp 53))⟩
  (.op false ⟨(some 55), none, (.bin .neq (.tmp 54) (.const (.int .i64 256)))⟩
  (.op false ⟨(some 56), none, (.mv (.tmp 55))⟩
  (.op false ⟨(some 57), (some (56, false)), (.mv (.tmp 11))⟩
  (.op false ⟨(some 58), (some (56, false)), (.idx 1 (.tmp 57) (.const (.int .i64 0)))⟩
  (.op false ⟨(some 59), (some (56, false)), (.ld none (.tmp 58))⟩
  (.op false ⟨(some 60), (some (56, false)), (.mv (.tmp 10))⟩
  (.op false ⟨(some 61), (some (56, false)), (.cvi .u8 (.tmp 60))⟩
  (.op false ⟨(some 62), (some (56, false)), (.bin .neq (.tmp 59) (.tmp 61))⟩
  (.op false ⟨(some 63), none, (.pick (.tmp 56) (.const (.bool true)) (.tmp 62))⟩
  (.op false ⟨(some 64), none, (.mv (.tmp 63))⟩
  (.op false ⟨(some 65), (some (64, false)), (.mv (.tmp 11))⟩
  (.op false ⟨(some 66), (some (64, false)), (.idx 1 (.tmp 65) (.const (.int .i64 255)))⟩
  (.op false ⟨(some 67), (some (64, false)), (.ld none (.tmp 66))⟩
  (.op false ⟨(some 68), (some (64, false)), (.mv (.tmp 10))⟩
  (.op false ⟨(some 69), (some (64, false)), (.cvi .u8 (.tmp 68))⟩
  (.op false ⟨(some 70), (some (64, false)), (.bin .neq (.tmp 67) (.tmp 69))⟩
  (.op false ⟨(some 71), none, (.pick (.tmp 64) (.const (.bool true)) (.tmp 70))⟩ .done)))))))))))))))))))) (.cond (.tmp 71)
 (.seq
 (.reg false (.op false ⟨(some 6), none, (.mv (.const (.bool false)))⟩ .done)) .ret) .skip))
 (.seq
 (.reg false (.op false ⟨(some 72), none, (.mv (.tmp 9))⟩
  (.op false ⟨(some 73), none, (.mv (.tmp 2))⟩
  (.op false ⟨(some 74), none, (.len (.tmp 73))⟩
  (.op false ⟨(some 75), none, (.bin .lss (.tmp 72) (.tmp 74))⟩
  (.op false ⟨(some 76), none, (.mv (.tmp 75))⟩
  (.op false ⟨(some 77), (some (76, true)), (.mv (.tmp 2))⟩
  (.op false ⟨(some 78), (some (76, true)), (.mv (.tmp 9))⟩
  (.op false ⟨(some 79), (some (76, true)), (.idx 1 (.tmp 77) (.tmp 78))⟩
  (.op false ⟨(some 80), (some (76, true)), (.ld none (.tmp 79))⟩
  (.op false ⟨(some 81), none, (.pick (.tmp 76) (.tmp 80) (.const (.bool false)))⟩
  (.op false ⟨(some 82), none, (.mv (.tmp 81))⟩
  (.op false ⟨(some 83), (some (82, true)), (.mv (.tmp 7))⟩
  (.op false ⟨(some 84), (some (82, true)), (.mv (.tmp 10))⟩
  (.op false ⟨(some 85), (some (82, true)), (.call f_cache_Cache_Leave [(.tmp 83), (.tmp 84)])⟩
  (.op false ⟨(some 86), (some (82, true)), (.bin .neq (.tmp 85) (.const (.int .i64 0)))⟩
  (.op false ⟨(some 87), none, (.pick (.tmp 82) (.tmp 86) (.const (.bool false)))⟩ .done))))))))))))))))) (.cond (.tmp 87)
 (.seq
 (.reg false (.op false ⟨(some 6), none, (.mv (.const (.bool false)))⟩ .done)) .ret) .skip))))
 (.seq
 (.reg false (.op false ⟨(some 88), none, (.mv (.tmp 12))⟩
  (.op false ⟨(some 89), none, (.bin .neq (.tmp 88) (.const (.int .i64 180)))⟩
  (.op false ⟨(some 90), none, (.mv (.tmp 89))⟩
  (.op false ⟨(some 91), (some (90, false)), (.mv (.tmp 11))⟩
  (.op false ⟨(some 92), (some (90, false)), (.len (.tmp 91))⟩
  (.op false ⟨(some 93), (some (90, false)), (.bin .neq (.tmp 92) (.const (.int .i64 0)))⟩
  (.op false ⟨(some 94), none, (.pick (.tmp 90) (.const (.bool true)) (.tmp 93))⟩ .done)))))))) (.cond (.tmp 94)
 (.seq
 (.reg false (.op false ⟨(some 6), none, (.mv (.const (.bool false)))⟩ .done)) .ret) .skip))))
 (.seq (.seq
 (.reg false (.op false ⟨(some 95), none, (.mv (.tmp 7))⟩
  (.op false ⟨(some 96), none, (.call f_cache_Cache_Hits [(.tmp 95)])⟩
  (.op false ⟨(some 97), none, (.mv (.tmp 7))⟩
  (.op false ⟨(some 98), none, (.call f_cache_Cache_Misses [(.tmp 97)])⟩
  (.op false ⟨(some 99), none, (.bin .add (.tmp 96) (.tmp 98))⟩
  (.op false ⟨(some 100), none, (.mv (.tmp 8))⟩
  (.op false ⟨(some 101), none, (.bin .neq (.tmp 99) (.tmp 100))⟩ .done)))))))) (.cond (.tmp 101)
 (.seq
 (.reg false (.op false ⟨(some 6), none, (.mv (.const (.bool false)))⟩ .done)) .ret) .skip))
 (.seq
 (.reg false (.op false ⟨(some 13), none, (.alo (.agg #[(.bool false), (.bool false), (.bool false), (.bool false), (.bool false), (.bool false), (.bool false), (.bool false), (.bool false), (.bool false), (.bool false), (.bool false)]))⟩ .done))
 (.seq
 (.reg false (.op false ⟨(some 102), none, (.mv (.tmp 7))⟩
  (.op false ⟨(some 103), none, (.call f_cache_Cache_Held [(.tmp 102)])⟩
  (.op false ⟨(some 104), none, (.len (.tmp 103))⟩
  (.op false ⟨(some 105), none, (.mv (.const (.int .i64 0)))⟩ .done))))) (.block 2 (.loop
 (.seq
 (.reg false (.op false ⟨(some 106), none, (.bin .lss (.tmp 105) (.tmp 104))⟩ .done))
 (.seq (.cond (.tmp 106) .skip (.exit 2))
 (.seq (.block 3
 (.seq
 (.reg false (.op false ⟨(some 107), none, (.idx 1 (.tmp 103) (.tmp 105))⟩
  (.op false ⟨(some 108), none, (.ld none (.tmp 107))⟩
  (.op false ⟨(some 15), none, (.mv (.tmp 108))⟩ .done))))
 (.seq (.seq
 (.reg false (.op false ⟨(some 109), none, (.mv (.tmp 15))⟩
  (.op false ⟨(some 110), none, (.bin .geq (.tmp 109) (.const (.int .i64 12)))⟩
  (.op false ⟨(some 111), none, (.mv (.tmp 110))⟩
  (.op false ⟨(some 112), (some (111, false)), (.mv (.tmp 15))⟩
  (.op false ⟨(some 113), (some (111, false)), (.bin .geq (.tmp 112) (.const (.int .i64 0)))⟩
  (.op false ⟨(some 114), (some (111, false)), (.mv (.tmp 113))⟩
  (.op false ⟨(some 115), (some (114, true)), (.mv (.tmp 15))⟩
  (.op false ⟨(some 116), (some (114, true)), (.idxa 12 1 (.tmp 13) (.tmp 115))⟩
  (.op false ⟨(some 117), (some (114, true)), (.ld none (.tmp 116))⟩
  (.op false ⟨(some 118), (some (111, false)), (.pick (.tmp 114) (.tmp 117) (.const (.bool false)))⟩
  (.op false ⟨(some 119), none, (.pick (.tmp 111) (.const (.bool true)) (.tmp 118))⟩ .done)))))))))))) (.cond (.tmp 119)
 (.seq
 (.reg false (.op false ⟨(some 6), none, (.mv (.const (.bool false)))⟩ .done)) .ret) .skip))
 (.seq
 (.reg false (.op false ⟨(some 120), none, (.mv (.tmp 15))⟩
  (.op false ⟨(some 121), none, (.bin .geq (.tmp 120) (.const (.int .i64 0)))⟩ .done))) (.cond (.tmp 121)
 (.reg false (.op false ⟨(some 122), none, (.mv (.tmp 15))⟩
  (.op false ⟨(some 123), none, (.idxa 12 1 (.tmp 13) (.tmp 122))⟩
  (.op false ⟨none, none, (.st 1 (.tmp 123) (.const (.bool true)))⟩ .done)))) .skip)))))
 (.reg false (.op false ⟨(some 124), none, (.bin .add (.tmp 105) (.const (.int .i64 1)))⟩
  (.op false ⟨(some 105), none, (.mv (.tmp 124))⟩ .done)))))))))))))))
 (.reg false (.op false ⟨(some 34), none, (.mv (.tmp 9))⟩
  (.op false ⟨(some 35), none, (.bin .add (.tmp 34) (.const (.int .i64 1)))⟩
  (.op false ⟨(some 9), none, (.mv (.tmp 35))⟩ .done)))))))))
 (.seq
 (.reg false (.op false ⟨(some 6), none, (.mv (.const (.bool true)))⟩ .done)) .ret)))))))⟩

set_option maxRecDepth 4000 in
set_option maxHeartbeats 1000000 in
theorem cacheTells {P : Program} {f f1 f2 f3 f4 f5 f6 f7 : FuncId} (hd : dec P f = some (g_thimblelaw18_CacheTells f1 f2 f3 f4 f5 f6 f7)) (h1 : CWorksOk P f1) (h2 : OverOk P f2) (h3 : CGetOk P f3) (h4 : CLeaveOk P f4) (h5 : HitsOk P f5) (h6 : MissesOk P f6) (h7 : CHeldOk P f7)
    {d : PHeap} {fr : Int} {gv lv : Value} {gs : List Int} {ls : List Bool} (hgs : RInts d gv gs) (hls : RSl 1 RBool d lv ls) : GCall P f [.int .i64 fr, gv, lv] d [] (Ret fun r _ _ => r = .bool true) := by
  have hz : devK.syn.length = 12 := List.length_replicate
  have hgl := hgs.len_le
  have hll := hls.len_le
  refine GCall_of hd (Nat.le_of_ble_eq_true rfl) ?_
  show gwp P _ _ _ _ _
  (apply w_sq; apply w_reg; apply w_mvb; rfl; apply w_done0; apply w_sq; apply w_sq; apply w_reg)
  refine w_callA (A := []) (B := []) rfl rfl h1 (fun u d1 L1 hl1 ⟨e1, e2⟩ => ?_)
  subst e1; subst e2
  obtain ⟨m, hm, hm12⟩ := nat_rem fr 8 (by omega)
  replace hm : fr % 18446744073709551616 % 8 = (m : Int) := hm
  (apply w_not; rfl; apply w_done0; apply w_ifF; rfl; apply w_skip; apply w_sq; apply w_reg; apply w_mvi; rfl; apply w_cviu; rfl; apply w_rem; rfl; rfl; omega; omega; apply w_cvi64; rfl; omega; omega; apply w_add; rfl; rfl; omega; omega)
  refine w_callA (A := []) (B := []) rfl (vs := [.int .i64 (1 + m : Nat)]) (congrArg (fun z => [Value.int .i64 z]) (show 1 + fr % 18446744073709551616 % 8 = ((1 + m : Nat) : Int) by omega)) (h2 (n := 1 + m) (by omega) (by omega)) (fun cv d2 L2 hl2 hc => ?_)
  obtain ⟨b, rfl⟩ := hc.ptr
  rw [List.append_nil]
  have hgs2 : RSl 1 RInt d2 gv gs := (hgs.mono hl1).mono hl2
  have hls2 : RSl 1 RBool d2 lv ls := RSl.mono (fun _ h => h) hls (hl1.trans hl2)
  (apply w_mvp; rfl; apply w_done0; apply w_sq; apply w_sq; apply w_reg; apply w_mvp; rfl; apply w_eqpS; rfl; rfl; apply w_done0; apply w_ifF; rfl; apply w_skip; apply w_sq; apply w_reg; apply w_mvi; rfl; apply w_done0; apply w_sq; apply w_sq; apply w_reg; apply w_mvi; rfl; apply w_done0; apply w_block)
  have hT0 : Tl (newC (1 + m)) 0 0 := ⟨inv_new curK 12 _ (by omega) (by omega), fun s => by rw [show pinOf (newC (1 + m)) s = 0 from pin_new _ s]; omega, rfl, by omega⟩
  refine w_loopS (α := Nat × Nat × CD) (fun x => [(1, gv), (2, lv), (7, .pointer (some ⟨b, 0, none⟩)), (8, .int .i64 x.2.1), (9, .int .i64 x.1)])
    (fun x d' L' => Le d2 d' ∧ x.1 ≤ 100 ∧ x.1 ≤ gs.length ∧ Cov d' x.2.2 devK (.pointer (some ⟨b, 0, none⟩)) L' ∧ Tl x.2.2 x.1 x.2.1) (fun x => 100 - x.1) (0, 0, newC (1 + m)) ⟨rfl, rfl, rfl, rfl, rfl, trivial⟩ ⟨Le.refl _, by omega, by omega, hc, hT0⟩ ?_
  rintro ⟨i, n, c⟩ ρ d3 L3 ⟨hl3, hi, hig, hc3, hT⟩
  simp only at hi hig hc3 hT ⊢
  have hgs3 : RSl 1 RInt d3 gv gs := RInts.mono hgs2 hl3
  by_cases e1 : i < gs.length
  · by_cases e2 : i < 100
    · obtain ⟨k, hk, hk12⟩ := nat_rem gs[i] 12 (by omega)
      replace hk : gs[i] % 18446744073709551616 % 12 = (k : Int) := hk
      (apply w_sq; apply w_sq; apply w_reg; apply w_mvi; rfl; apply w_mv; apply w_lenR; rfl; assumption; apply w_lss; rfl; rfl; apply w_mvb; rfl; refine w_gdT rfl (by omega) ?_; apply w_gT; rfl; apply w_mvi; rfl; apply w_gT; rfl; apply w_lss; rfl; rfl; apply w_pickTb; rfl; rfl; apply w_done0; refine w_ifdT rfl (by omega) ?_; apply w_skip; apply w_sq; apply w_block; apply w_sq; apply w_reg; apply w_mv; apply w_mvi; rfl; refine w_idxR (sz := 1) (R := RInt) (by rfl) (by assumption) (by rfl) rfl (by omega) ?_; rintro _ _ _ _ _ ⟨rfl, _, _⟩; apply w_ld; rfl; exact hc_ds0 (by assumption) rfl; apply w_cviu; rfl; apply w_rem; rfl; rfl; omega; omega; apply w_cvi64; rfl; omega; omega; apply w_mvi; rfl; apply w_done0; apply w_sq; apply w_reg; apply w_mvp; rfl; apply w_mvi; rfl)
      refine gws_env (g := 10) (congrArg (Value.int .i64) hk) ?_
      refine gws_env (g := 45) (congrArg (Value.int .i64) hk) ?_
      refine w_callO (h3.cov (k := k) hc3 (hT.pinB (by omega)) (by omega)) rfl (fun u d4 L4 hl4 ⟨hc4, hg⟩ => ?_)
      rw [devK_cur hk12] at hc4 hg
      cases hr : getF (curK k) c k with
      | mk c' o =>
      rw [hr] at hc4 hg
      simp only at hc4 hg
      have hls4 : RSl 1 RBool d4 lv ls := RSl.mono (fun _ h => h) hls2 (hl3.trans hl4)
      obtain ⟨wa, wn, wc, we, rfl, hw⟩ := hg.form
      (apply w_mvu; rfl; apply w_ext; rfl; rfl; apply w_ext; rfl; rfl; apply w_mvs; rfl; apply w_mvi; rfl; apply w_done0)
      refine w_mid (fun ρ d' L' => ∃ c' n', SlotsAre ρ [(1, gv), (2, lv), (7, .pointer (some ⟨b, 0, none⟩)), (8, .int .i64 (n' : Nat)), (9, .int .i64 (i : Nat))] ∧ Le d2 d' ∧ Cov d' c' devK (.pointer (some ⟨b, 0, none⟩)) L' ∧ Tl c' (i + 1) n') ?_ ?_
      · cases o with
        | none =>
          obtain ⟨rfl, rfl⟩ := hw
          obtain ⟨rfl, -⟩ := get_none hT.inv hr
          (apply w_sq; apply w_reg; apply w_mvi; rfl; apply w_eql; rfl; rfl; apply w_done0; refine w_ifdF rfl (by omega) ?_; apply w_sq; apply w_reg; apply w_mvi; rfl; apply w_neq; rfl; rfl; apply w_mvb; rfl; refine w_gdF rfl (by omega) ?_; apply w_gT; rfl; apply w_mvs; rfl; apply w_gT; rfl; apply w_len; rfl; apply w_gT; rfl; apply w_neq; rfl; rfl; apply w_pickFb; rfl; rfl; apply w_done0; refine w_ifdF rfl (by omega) ?_; apply w_skip)
          exact ⟨c', n, ⟨rfl, rfl, rfl, rfl, rfl, trivial⟩, hl3.trans hl4, hc4, hT.next⟩
        | some bb =>
          obtain ⟨rfl, hwn, hw⟩ := hw
          obtain ⟨hT4, rfl, hp4⟩ := hT.get hk12 hr
          have hbl := curK_len k
          have hw' : RSl 1 RByte d4 (.slice wa wn wc) (curK k) := hw
          have hnle := hT.le
          have hb0 : ((curK k)[0]'(by omega)).toNat = (UInt8.ofNat ((k : Int) % 256).toNat).toNat := congrArg UInt8.toNat (List.getElem_replicate ..)
          have hb1 : ((curK k)[255]'(by omega)).toNat = (UInt8.ofNat ((k : Int) % 256).toNat).toNat := congrArg UInt8.toNat (List.getElem_replicate ..)
          (apply w_sq; apply w_reg; apply w_mvi; rfl; apply w_eql; rfl; rfl; apply w_done0; refine w_ifdT rfl (by omega) ?_; apply w_sq; apply w_reg; apply w_mvi; rfl; apply w_add; rfl; rfl; omega; omega; apply w_mvi; rfl; apply w_done0; apply w_sq; apply w_sq; apply w_reg; apply w_mvs; rfl; apply w_len; rfl; apply w_neq; rfl; rfl; apply w_mvb; rfl; refine w_gdF rfl (by omega) ?_; apply w_gT; rfl; apply w_mvs; rfl; apply w_gT; rfl; refine w_idxR (m := 0) (sz := 1) (R := RByte) (by rfl) (by assumption) (by rfl) rfl (by omega) ?_; rintro _ _ _ _ _ rfl; apply w_gT; rfl; apply w_ld; rfl; exact hc_ds0 (by assumption) rfl; apply w_gT; rfl; apply w_mvi; rfl; apply w_gT; rfl; apply w_cvb; rfl; apply w_gT; rfl; apply w_neq; rfl; rfl; apply w_pickFb; rfl; rfl; apply w_mvb; rfl; refine w_gdF rfl (by omega) ?_; apply w_gT; rfl; apply w_mvs; rfl; apply w_gT; rfl; refine w_idxR (sz := 1) (R := RByte) (by rfl) (by assumption) (by rfl) (Int.natCast_add _ 1).symm (by omega) ?_; rintro _ _ _ _ _ rfl; apply w_gT; rfl; apply w_ld; rfl; exact hc_ds0 (by assumption) rfl; apply w_gT; rfl; apply w_mvi; rfl; apply w_gT; rfl; apply w_cvb; rfl; apply w_gT; rfl; apply w_neq; rfl; rfl; apply w_pickFb; rfl; rfl; apply w_done0)
          refine w_ifdF rfl (fun h => h (congrArg (Nat.cast (R := Int)) hb1)) ?_
          (apply w_skip; apply w_sq; apply w_reg; apply w_mvi; rfl; apply w_mv; apply w_lenR; rfl; assumption; apply w_lss; rfl; rfl; apply w_mvb; rfl)
          by_cases el : i < ls.length
          · cases hli : ls[i] with
            | false =>
              (refine w_gdT rfl (by omega) ?_; apply w_gT; rfl; apply w_mv; apply w_gT; rfl; apply w_mvi; rfl; apply w_gT; rfl; refine w_idxR (sz := 1) (R := RBool) (by rfl) (by assumption) (by rfl) rfl (by omega) ?_; rintro _ _ _ _ _ rfl; apply w_gT; rfl; apply w_ld; rfl; exact hc_ds0 (by assumption) rfl; apply w_pickTb; rfl; rfl; apply w_mvb; rfl; apply w_gbF; rfl; (with_reducible assumption); apply w_gF; rfl; apply w_gF; rfl; apply w_gF; rfl; apply w_gF; rfl; apply w_pickFb; rfl; rfl; apply w_done0; apply w_ifF; rfl; apply w_skip)
              exact ⟨c', n + 1, ⟨rfl, rfl, rfl, rfl, rfl, trivial⟩, hl3.trans hl4, hc4, hT4⟩
            | true =>
              (refine w_gdT rfl (by omega) ?_; apply w_gT; rfl; apply w_mv; apply w_gT; rfl; apply w_mvi; rfl; apply w_gT; rfl; refine w_idxR (sz := 1) (R := RBool) (by rfl) (by assumption) (by rfl) rfl (by omega) ?_; rintro _ _ _ _ _ rfl; apply w_gT; rfl; apply w_ld; rfl; exact hc_ds0 (by assumption) rfl; apply w_pickTb; rfl; rfl; apply w_mvb; rfl; apply w_gbT; rfl; (with_reducible assumption); apply w_gT; rfl; apply w_mvp; rfl; apply w_gT; rfl; apply w_mvi; rfl; apply w_gT; rfl)
              obtain ⟨hT5, e5⟩ := hT4.leave hp4
              refine w_callO (h4.cov (k := k) hc4 (hT4.pinB (by omega))) rfl (fun u d5 L5 hl5 ⟨g1, g2⟩ => ?_)
              rw [e5] at g1
              subst g1
              (apply w_gT; rfl; apply w_neq; rfl; rfl; apply w_pickTb; rfl; rfl; apply w_done0; refine w_ifdF rfl (by omega) ?_; apply w_skip)
              exact ⟨_, n + 1, ⟨rfl, rfl, rfl, rfl, rfl, trivial⟩, (hl3.trans hl4).trans hl5, g2, hT5⟩
          · (refine w_gdF rfl (by omega) ?_; apply w_gF; rfl; apply w_gF; rfl; apply w_gF; rfl; apply w_gF; rfl; apply w_pickFb; rfl; rfl; apply w_mvb; rfl; apply w_gF; rfl; apply w_gF; rfl; apply w_gF; rfl; apply w_gF; rfl; apply w_pickFb; rfl; rfl; apply w_done0; apply w_ifF; rfl; apply w_skip)
            exact ⟨c', n + 1, ⟨rfl, rfl, rfl, rfl, rfl, trivial⟩, hl3.trans hl4, hc4, hT4⟩
      · rintro ρ d5 L5 ⟨c5, n5, hs5, hl5, hc5, hT5⟩
        refine gwp_slots _ hs5 ?_
        have hle := hT5.le
        have hsum := hT5.sum
        (apply w_sq; apply w_sq; apply w_reg; apply w_mvp; rfl)
        refine w_readP (A := L5) (B := []) (by rw [List.append_nil]) rfl (h5.cov hc5) ?_
        rw [wr_eq (by omega)]
        (apply w_mvp; rfl)
        refine w_readP (A := L5) (B := []) (by rw [List.append_nil]) rfl (h6.cov hc5) ?_
        rw [wr_eq (by omega)]
        (apply w_add; rfl; rfl; omega; omega; apply w_mvi; rfl; apply w_neq; rfl; rfl; apply w_done0; refine w_ifdF rfl (by omega) ?_; apply w_skip; apply w_sq; apply w_reg; apply w_aloL; intro _ _; apply w_done0; apply w_sq; apply w_reg; apply w_mvp; rfl)
        rename_i sb Ts
        refine w_callP (A := L5) (B := [bx sb Ts [.bool false, .bool false, .bool false, .bool false, .bool false, .bool false, .bool false, .bool false, .bool false, .bool false, .bool false, .bool false]]) (List.perm_append_comm (l₁ := [_])) rfl
          (h7.cov hc5 (hT5.inv.sec_le (by omega))) (fun hv d6 L6 hl6 ⟨e6, hw6⟩ => ⟨d6, bx sb Ts ((List.replicate 12 false).map Value.bool) :: L5, by subst e6; exact Vs.perm (List.perm_append_comm (l₂ := [_])), ?_⟩)
        subst e6
        have hhl : (heldF c5).length = c5.fr.length := by simp [heldF]
        have hfl := hT5.inv.n2
        have hw6' : RSl 1 RInt d6 hv (heldF c5) := hw6
        obtain ⟨ha, hcp, rfl⟩ := hw6'.val
        (apply w_len; rfl; apply w_mvi; rfl; apply w_done0; apply w_block)
        refine w_loopS (α := Nat × List Bool) (fun x => [(1, gv), (2, lv), (7, .pointer (some ⟨b, 0, none⟩)), (8, .int .i64 n5), (9, .int .i64 i), (13, .pointer (some ⟨sb, 0, none⟩)), (103, .slice ha (heldF c5).length hcp), (104, .int .i64 (heldF c5).length), (105, .int .i64 x.1)])
          (fun x d' L' => d' = d6 ∧ L' = bx sb Ts (x.2.map Value.bool) :: L6 ∧ x.1 ≤ (heldF c5).length ∧ Seen (heldF c5) x.1 x.2) (fun x => (heldF c5).length - x.1) (0, List.replicate 12 false) ⟨rfl, rfl, rfl, rfl, rfl, rfl, rfl, rfl, rfl, trivial⟩
          ⟨rfl, rfl, by omega, List.length_replicate, fun s hs hb => by rw [List.getElem_replicate] at hb; cases hb⟩ ?_
        rintro ⟨j, bs⟩ ρ d' L' ⟨rfl, rfl, hj, hseen⟩
        simp only at hj hseen ⊢
        by_cases ej : j < (heldF c5).length
        · obtain ⟨g1, g2⟩ := hT5.inv.held j ej
          by_cases e0 : 0 ≤ (heldF c5)[j]
          · obtain ⟨s, hs⟩ : ∃ s : Nat, (heldF c5)[j] = (s : Int) := ⟨(heldF c5)[j].toNat, by omega⟩
            have hs12 : s < 12 := by omega
            have hbl := hseen.1
            have hbs : bs[s]'(by omega) = false := by
              cases q : bs[s]'(by omega) with
              | false => rfl
              | true =>
                obtain ⟨j', k1, k2⟩ := hseen.2 s (by omega) q
                obtain ⟨k3, k4⟩ := List.getElem?_eq_some_iff.1 k2
                exact absurd (k4.trans hs.symm) (g2 j' k1 e0)
            have hcell : (bs.map Value.bool)[s]? = some (.bool false) := by rw [List.getElem?_map, List.getElem?_eq_getElem (by omega), hbs]; rfl
            have hcell' : (bs.map Value.bool)[0 + s * 1]? = some (.bool false) := by rw [Nat.zero_add, Nat.mul_one]; exact hcell
            (apply w_sq; apply w_reg; apply w_lss; rfl; rfl; apply w_done0; apply w_sq; refine w_ifdT rfl (by omega) ?_; apply w_skip; apply w_sq; apply w_block; apply w_sq; apply w_reg; refine w_idxR (sz := 1) (R := RInt) (by rfl) (by assumption) (by rfl) rfl (by omega) ?_; rintro _ _ _ _ _ ⟨rfl, _, _⟩; apply w_ld; rfl; exact hc_ds0 (by assumption) rfl; apply w_mvi; rfl; apply w_done0; apply w_sq; apply w_sq; apply w_reg; apply w_mvi; rfl; apply w_geq; rfl; rfl; apply w_mvb; rfl; refine w_gdF rfl (by omega) ?_; apply w_gT; rfl; apply w_mvi; rfl; apply w_gT; rfl; apply w_geq; rfl; rfl; apply w_gT; rfl; apply w_mvb; rfl; refine w_gdT rfl (by omega) ?_; apply w_gT; rfl; apply w_mvi; rfl; apply w_gT; rfl)
            refine w_idxa s rfl rfl hs hs12 ?_
            (apply w_gT; rfl; apply w_ld; rfl; exact hc_i 0 rfl (by assumption); apply w_gT; rfl; apply w_pickTb; rfl; rfl; apply w_pickFb; rfl; rfl; apply w_done0; apply w_ifF; rfl; apply w_skip; apply w_sq; apply w_reg; apply w_mvi; rfl; apply w_geq; rfl; rfl; apply w_done0; refine w_ifdT rfl (by omega) ?_; apply w_reg; apply w_mvi; rfl)
            refine w_idxa s rfl rfl hs hs12 ?_
            refine w_stE 0 ((bs.set s true).map Value.bool) rfl rfl rfl rfl (by rw [List.length_map, hbl]; omega) rfl ?_ ?_
            · rw [Nat.zero_add, Nat.mul_one, List.map_set]
              exact patch_set (by rw [List.length_map]; omega)
            (apply w_done0; apply w_reg; apply w_add; rfl; rfl; omega; omega; apply w_mvi; rfl; apply w_done0)
            exact ⟨(j + 1, bs.set s true), by simp only; omega, ⟨rfl, rfl, rfl, rfl, rfl, rfl, rfl, rfl, rfl, trivial⟩, rfl, rfl, ej, seen_step hseen ej hs12 hs⟩
          · (apply w_sq; apply w_reg; apply w_lss; rfl; rfl; apply w_done0; apply w_sq; refine w_ifdT rfl (by omega) ?_; apply w_skip; apply w_sq; apply w_block; apply w_sq; apply w_reg; refine w_idxR (sz := 1) (R := RInt) (by rfl) (by assumption) (by rfl) rfl (by omega) ?_; rintro _ _ _ _ _ ⟨rfl, _, _⟩; apply w_ld; rfl; exact hc_ds0 (by assumption) rfl; apply w_mvi; rfl; apply w_done0; apply w_sq; apply w_sq; apply w_reg; apply w_mvi; rfl; apply w_geq; rfl; rfl; apply w_mvb; rfl; refine w_gdF rfl (by omega) ?_; apply w_gT; rfl; apply w_mvi; rfl; apply w_gT; rfl; apply w_geq; rfl; rfl; apply w_gT; rfl; apply w_mvb; rfl; refine w_gdF rfl (by omega) ?_; apply w_gF; rfl; apply w_gF; rfl; apply w_gF; rfl; apply w_gT; rfl; apply w_pickFb; rfl; rfl; apply w_pickFb; rfl; rfl; apply w_done0; apply w_ifF; rfl; apply w_skip; apply w_sq; apply w_reg; apply w_mvi; rfl; apply w_geq; rfl; rfl; apply w_done0; refine w_ifdF rfl (by omega) ?_; apply w_skip; apply w_reg; apply w_add; rfl; rfl; omega; omega; apply w_mvi; rfl; apply w_done0)
            exact ⟨(j + 1, bs), by simp only; omega, ⟨rfl, rfl, rfl, rfl, rfl, rfl, rfl, rfl, rfl, trivial⟩, rfl, rfl, ej, seen_next hseen⟩
        · have hd1 : Vs d' (bx sb Ts (bs.map Value.bool) :: L6) d' L6 := Vs.drop (List.sublist_cons_self _ _)
          (apply w_sq; apply w_reg)
          refine w_vs d' L6 hd1 ?_
          (apply w_lss; rfl; rfl; apply w_done0; apply w_sq; refine w_ifdF rfl (by omega) ?_; apply w_exit; apply w_reg; apply w_mvi; rfl; apply w_add; rfl; rfl; omega; omega; apply w_mvi; rfl; apply w_done0)
          exact ⟨(i + 1, n5, c5), by simp only; omega, ⟨rfl, rfl, rfl, rfl, rfl, trivial⟩, hl5.trans hl6, by simp only; omega, by simp only; omega, hc5.mono hl6, hT5⟩
    · (apply w_sq; apply w_sq; apply w_reg; apply w_mvi; rfl; apply w_mv; apply w_lenR; rfl; assumption; apply w_lss; rfl; rfl; apply w_mvb; rfl; refine w_gdT rfl (by omega) ?_; apply w_gT; rfl; apply w_mvi; rfl; apply w_gT; rfl; apply w_lss; rfl; rfl; apply w_pickTb; rfl; rfl; apply w_done0; refine w_ifdF rfl (by omega) ?_; apply w_exit; apply w_sq; apply w_reg; apply w_mvb; rfl; apply w_done0; apply w_ret)
      exact fin1 rfl (List.nil_sublist _) rfl
  · (apply w_sq; apply w_sq; apply w_reg; apply w_mvi; rfl; apply w_mv; apply w_lenR; rfl; assumption; apply w_lss; rfl; rfl; apply w_mvb; rfl; refine w_gdF rfl (by omega) ?_; apply w_gF; rfl; apply w_gF; rfl; apply w_pickFb; rfl; rfl; apply w_done0; apply w_ifF; rfl; apply w_exit; apply w_sq; apply w_reg; apply w_mvb; rfl; apply w_done0; apply w_ret)
    exact fin1 rfl (List.nil_sublist _) rfl
end Go.Gk.Cch
end

section
namespace Go.Gk.Cch
open Go Go.Gk Go.Gk.Dev
attribute [local irreducible] gwp gws xwp

structure Wh (c : CD) (bs : List Bool) (m b : Nat) : Prop where
  inv : Inv curK 12 c
  len : c.fr.length = 12
  zer : ∀ s, pinOf c s = 0
  bl : bs.length = 12
  fnd : ∀ s (h : s < bs.length), bs[s] = true ↔ findF s c.fr ≠ none
  mis : c.miss = m
  mb : m ≤ b
theorem pinB_zero {c : CD} (h : Inv curK 12 c) {n : Nat} (hz : ∀ s, pinOf c s ≤ n) (hn : n ≤ 1000) : PinB c 4611686018427387904 := fun f hf => by
  have := pinB_of h (m := n) hz f hf; omega
theorem get_free {c : CD} {k : Nat} (h : Inv curK 12 c) (hk : k < 12) (hf : findF k c.fr ≠ none ∨ c.free ≠ []) : ∃ c', getF (curK k) c k = (c', some (curK k)) ∧ Inv curK 12 c' ∧ c'.fr.length = c.fr.length ∧
    (∀ s, pinOf c' s = if s = k then pinOf c s + 1 else pinOf c s) ∧ findF k c'.fr ≠ none ∧ (∀ s, s ≠ k → (findF s c'.fr = none ↔ findF s c.fr = none)) ∧ c'.miss = (if findF k c.fr = none then c.miss + 1 else c.miss) := by
  cases hr : getF (curK k) c k with
  | mk c' o =>
  cases o with
  | none =>
    obtain ⟨-, h2, h3, h4⟩ := get_none h hr
    rcases hf with hf | hf
    · exact absurd h2 hf
    · exact absurd h3 hf
  | some b' =>
    obtain ⟨g1, rfl, g3, ⟨i, g4⟩, g5, g6, g7⟩ := get_some h hk hr
    refine ⟨c', rfl, g1, g5, g3, (by rw [g4]; exact fun q => nomatch q), g7 (by rcases hf with hf | hf; exact .inr hf; exact .inl hf), ?_⟩
    cases q : findF k c.fr with
    | none => rw [q] at g6; rw [if_pos rfl]; exact g6.2
    | some j => rw [q] at g6; rw [if_neg (fun z => by cases z)]; exact g6.2
theorem Wh.room {c : CD} {bs : List Bool} {m b k : Nat} (h : Wh c bs m b) (hk : k < 12) : findF k c.fr ≠ none ∨ c.free ≠ [] := by
  by_cases hf : findF k c.fr = none
  · refine .inr (fun h3 => ?_)
    have := h.inv.full h3 (S := (List.range 12).erase k) (fun i hi => by
      have hheld : (c.at i).held = true := by
        cases q : (c.at i).held with
        | true => rfl
        | false => have := (h.inv.fh i hi).1 q; rw [h3] at this; cases this
      exact (List.mem_erase_of_ne (findF_not hf hi hheld)).2 (List.mem_range.2 (h.inv.vl i hi hheld).1))
    rw [h.len, List.length_erase_of_mem (List.mem_range.2 hk), List.length_range] at this
    omega
  · exact .inl hf
theorem Wh.next {c c' : CD} {bs : List Bool} {m b k : Nat} (h : Wh c bs m b) (hk : k < 12) (hr : getF (curK k) c k = (c', some (curK k))) :
    PinB c' 4611686018427387904 ∧ (leaveF c' k).2 = 0 ∧ Wh (leaveF c' k).1 (bs.set k true) (if bs[k]'(by rw [h.bl]; exact hk) then m else m + 1) (b + 1) := by
  obtain ⟨c1, g1, g2, g3, g4, g5, g6, g7⟩ := get_free h.inv hk (h.room hk)
  rw [hr] at g1
  cases g1
  have hz : ∀ s, pinOf c' s ≤ 1 := fun s => by rw [g4, h.zer]; split <;> omega
  obtain ⟨q1, q2, q3, q4, q5, q6, q7, q8⟩ := leave_inv g2 (k := k) (by rw [g4, if_pos rfl]; omega)
  have hkl : k < bs.length := by rw [h.bl]; exact hk
  refine ⟨pinB_zero g2 hz (by omega), q2, q1, by rw [q4, g3, h.len], fun s => ?_, by rw [List.length_set, h.bl], fun s hs => ?_, ?_, ?_⟩
  · rw [q3, g4, h.zer]; split <;> omega
  · rw [List.length_set] at hs
    rw [q8]
    by_cases e : k = s
    · subst e; rw [List.getElem_set_self]; exact ⟨fun _ => g5, fun _ => rfl⟩
    · rw [List.getElem_set_ne e, h.fnd s hs]; exact (not_congr (g6 s (fun q => e q.symm))).symm
  · rw [q6, g7, h.mis]
    have := h.fnd k hkl
    cases hb : bs[k] with
    | true => rw [hb] at this; rw [if_neg (this.1 rfl), if_pos rfl]
    | false =>
      rw [hb] at this
      have : findF k c.fr = none := by
        cases q : findF k c.fr with
        | none => rfl
        | some j => have := this.2 (by rw [q]; exact fun z => by cases z); cases this
      rw [if_pos this]; rfl
  · have := h.mb; split <;> omega
theorem Wh.last {c : CD} {bs : List Bool} {m b k : Nat} (h : Wh c bs m b) (hk : k < 12) :
    (∀ i, findF k c.fr = some i → c.free.length < c.fr.length) ∧ (forgetF c k).2 = (if bs[k]'(by rw [h.bl]; exact hk) then 0 else 240) ∧ PinB (forgetF c k).1 4611686018427387904 ∧
      ∃ c', getF (curK k) (forgetF c k).1 k = (c', some (curK k)) ∧ c'.miss = m + 1 ∧ (∀ i, findF k c'.fr = some i → c'.free.length < c'.fr.length) ∧ (forgetF c' k).2 = 180 := by
  have hkl : k < bs.length := by rw [h.bl]; exact hk
  have hfk := h.fnd k hkl
  -- behind Forget none holds it, and a frame is free
  have key : Inv curK 12 (forgetF c k).1 ∧ (∀ s, pinOf (forgetF c k).1 s = 0) ∧ findF k (forgetF c k).1.fr = none ∧ (forgetF c k).1.free ≠ [] ∧ (forgetF c k).1.miss = m ∧ (forgetF c k).2 = (if bs[k] then 0 else 240) := by
    cases hf : findF k c.fr with
    | none =>
      have e : forgetF c k = (c, 240) := by unfold forgetF; rw [hf]
      have hb : bs[k] = false := by
        cases q : bs[k] with
        | false => rfl
        | true => rw [q] at hfk; exact absurd hf (hfk.1 rfl)
      rw [e, hb]
      exact ⟨h.inv, h.zer, hf, by rcases h.room hk with q | q; exact absurd hf q; exact q, h.mis, rfl⟩
    | some i =>
      obtain ⟨e, g1, g2, g3⟩ := forget_done h.inv hf (h.zer k)
      have hb : bs[k] = true := hfk.2 (by rw [hf]; exact fun z => by cases z)
      refine ⟨g1, fun s => by rw [g3]; exact h.zer s, by rw [g2, if_pos rfl], ?_, ?_, ?_⟩
      · rw [e]; simp
      · rw [e]; exact h.mis
      · rw [e, hb]; rfl
  obtain ⟨k1, k2, k3, k4, k5, k6⟩ := key
  obtain ⟨c', g1, g2, g3, g4, g5, g6, g7⟩ := get_free k1 hk (.inr k4)
  refine ⟨fun i hi => free_lt h.inv hi, k6, pinB_zero k1 (n := 0) (fun s => by rw [k2]; omega) (by omega), c', g1, by rw [g7, if_pos k3, k5], fun i hi => free_lt g2 hi, ?_⟩
  cases hf : findF k c'.fr with
  | none => exact absurd hf g5
  | some i =>
    have hp : pinOf c' k = 1 := by rw [g4, if_pos rfl, k2]
    rw [pinOf, hf] at hp
    unfold forgetF
    rw [hf]
    simp only
    rw [if_pos (by rw [show (c'.fr.getD i fz).pins = 1 from hp]; omega)]

def g_thimblelaw18_CacheWhole (f_thimblelaw18_works f_thimblelaw18_over f_cache_Cache_Get f_cache_Cache_Leave f_cache_Cache_Misses f_cache_Cache_Forget : Nat) : GFun :=
 ⟨108, [(.tmp 4)],
 (.seq
 (.reg false (.op false ⟨(some 4), none, (.mv (.const (.bool false)))⟩ .done))
 (.seq (.seq
 (.reg false (.op false ⟨(some 16), none, (.call f_thimblelaw18_works [])⟩
  (.op false ⟨(some 17), none, (.un .not (.tmp 16))⟩ .done))) (.cond (.tmp 17)
 (.seq
 (.reg false (.op false ⟨(some 4), none, (.mv (.const (.bool false)))⟩ .done)) .ret) .skip))
 (.seq
 (.reg false (.op false ⟨(some 18), none, (.call f_thimblelaw18_over [(.const (.int .i64 12))])⟩
  (.op false ⟨(some 5), none, (.mv (.tmp 18))⟩ .done)))
 (.seq (.seq
 (.reg false (.op false ⟨(some 19), none, (.mv (.tmp 5))⟩
  (.op false ⟨(some 20), none, (.eqp false (.tmp 19) (.const (.pointer none)))⟩ .done))) (.cond (.tmp 20)
 (.seq
 (.reg false (.op false ⟨(some 4), none, (.mv (.const (.bool false)))⟩ .done)) .ret) .skip))
 (.seq
 (.reg false (.op false ⟨(some 6), none, (.alo (.agg #[(.bool false), (.bool false), (.bool false), (.bool false), (.bool false), (.bool false), (.bool false), (.bool false), (.bool false), (.bool false), (.bool false), (.bool false)]))⟩ .done))
 (.seq
 (.reg false (.op false ⟨(some 7), none, (.mv (.const (.int .i64 0)))⟩ .done))
 (.seq (.seq
 (.reg false (.op false ⟨(some 8), none, (.mv (.const (.int .i64 0)))⟩ .done)) (.block 0 (.loop
 (.seq (.seq
 (.reg false (.op false ⟨(some 21), none, (.mv (.tmp 8))⟩
  (.op false ⟨(some 22), none, (.mv (.tmp 0))⟩
  (.op false ⟨(some 23), none, (.len (.tmp 22))⟩
  (.op false ⟨(some 24), none, (.bin .lss (.tmp 21) (.tmp 23))⟩
  (.op false ⟨(some 25), none, (.mv (.tmp 24))⟩
  (.op false ⟨(some 26), (some (25, true)), (.mv (.tmp 8))⟩
  (.op false ⟨(some 27), (some (25, true)), (.bin .lss (.tmp 26) (.const (.int .i64 100)))⟩
  (.op false ⟨(some 28), none, (.pick (.tmp 25) (.tmp 27) (.const (.bool false)))⟩ .done))))))))) (.cond (.tmp 28) .skip (.exit 0)))
 (.seq (.block 1
 (.seq
 (.reg false (.op false ⟨(some 31), none, (.mv (.tmp 0))⟩
  (.op false ⟨(some 32), none, (.mv (.tmp 8))⟩
  (.op false ⟨(some 33), none, (.idx 1 (.tmp 31) (.tmp 32))⟩
  (.op false ⟨(some 34), none, (.ld none (.tmp 33))⟩
  (.op false ⟨(some 35), none, (.cvi .u64 (.tmp 34))⟩
  (.op false ⟨(some 36), none, (.bin .rem (.tmp 35) (.const (.int .u64 12)))⟩
  (.op false ⟨(some 37), none, (.cvi .i64 (.tmp 36))⟩
  (.op false ⟨(some 9), none, (.mv (.tmp 37))⟩ .done)))))))))
 (.seq (.seq
 (.reg false (.op false ⟨(some 39), none, (.mv (.tmp 5))⟩
  (.op false ⟨(some 40), none, (.mv (.tmp 9))⟩
  (.op false ⟨(some 41), none, (.call f_cache_Cache_Get [(.tmp 39), (.tmp 40)])⟩
  (.op false ⟨(some 38), none, (.mv (.tmp 41))⟩
  (.op false ⟨(some 42), none, (.ext (.tmp 38) 0)⟩
  (.op false ⟨(some 43), none, (.ext (.tmp 38) 1)⟩
  (.op false ⟨(some 10), none, (.mv (.tmp 42))⟩
  (.op false ⟨(some 11), none, (.mv (.tmp 43))⟩ .done)))))))))
 (.seq
 (.reg false (.op false ⟨(some 44), none, (.mv (.tmp 11))⟩
  (.op false ⟨(some 45), none, (.bin .neq (.tmp 44) (.const (.int .i64 0)))⟩
  (.op false ⟨(some 46), none, (.mv (.tmp 45))⟩
  (.op false ⟨(some 47), (some (46, false)), (.mv (.tmp 5))⟩
  (.op false ⟨(some 48), (some (46, false)), (.mv (.tmp 9))⟩
  (.op false ⟨(some 49), (some (46, false)), (.call f_cache_Cache_Leave [(.tmp 47), (.tmp 48)])⟩
  (.op false ⟨(some 50), (some (46, false)), (.bin .neq (.tmp 49) (.const (.int .i64 0)))⟩
  (.op false ⟨(some 51), none, (.pick (.tmp 46) (.const (.bool true)) (.tmp 50))⟩ .done))))))))) (.cond (.tmp 51)
 (.seq
 (.reg false (.op false ⟨(some 4), none, (.mv (.const (.bool false)))⟩ .done)) .ret) .skip)))
 (.seq (.seq
 (.reg false (.op false ⟨(some 52), none, (.mv (.tmp 9))⟩
  (.op false ⟨(some 53), none, (.idxa 12 1 (.tmp 6) (.tmp 52))⟩
  (.op false ⟨(some 54), none, (.ld none (.tmp 53))⟩
  (.op false ⟨(some 55), none, (.un .not (.tmp 54))⟩ .done))))) (.cond (.tmp 55)
 (.reg false (.op false ⟨(some 56), none, (.mv (.tmp 7))⟩
  (.op false ⟨(some 57), none, (.bin .add (.tmp 56) (.const (.int .i64 1)))⟩
  (.op false ⟨(some 7), none, (.mv (.tmp 57))⟩ .done)))) .skip))
 (.seq
 (.reg false (.op false ⟨(some 58), none, (.mv (.tmp 9))⟩
  (.op false ⟨(some 59), none, (.idxa 12 1 (.tmp 6) (.tmp 58))⟩
  (.op false ⟨none, none, (.st 1 (.tmp 59) (.const (.bool true)))⟩ .done))))
 (.seq
 (.reg false (.op false ⟨(some 60), none, (.mv (.tmp 5))⟩
  (.op false ⟨(some 61), none, (.call f_cache_Cache_Misses [(.tmp 60)])⟩
  (.op false ⟨(some 62), none, (.mv (.tmp 7))⟩
  (.op false ⟨(some 63), none, (.bin .neq (.tmp 61) (.tmp 62))⟩ .done))))) (.cond (.tmp 63)
 (.seq
 (.reg false (.op false ⟨(some 4), none, (.mv (.const (.bool false)))⟩ .done)) .ret) .skip)))))))
 (.reg false (.op false ⟨(some 29), none, (.mv (.tmp 8))⟩
  (.op false ⟨(some 30), none, (.bin .add (.tmp 29) (.const (.int .i64 1)))⟩
  (.op false ⟨(some 8), none, (.mv (.tmp 30))⟩ .done)))))))))
 (.seq
 (.reg false (.op false ⟨(some 64), none, (.mv (.tmp 1))⟩
  (.op false ⟨(some 65), none, (.cvi .u64 (.tmp 64))⟩
  (.op false ⟨(some 66), none, (.bin .rem (.tmp 65) (.const (.int .u64 12)))⟩
  (.op false ⟨(some 67), none, (.cvi .i64 (.tmp 66))⟩
  (.op false ⟨(some 12), none, (.mv (.tmp 67))⟩ .done))))))
 (.seq
 (.reg false (.op false ⟨(some 68), none, (.mv (.tmp 5))⟩
  (.op false ⟨(some 69), none, (.mv (.tmp 12))⟩
  (.op false ⟨(some 70), none, (.call f_cache_Cache_Forget [(.tmp 68), (.tmp 69)])⟩
  (.op false ⟨(some 13), none, (.mv (.tmp 70))⟩ .done)))))
 (.seq (.seq
 (.reg false (.op false ⟨(some 71), none, (.mv (.tmp 12))⟩
  (.op false ⟨(some 72), none, (.idxa 12 1 (.tmp 6) (.tmp 71))⟩
  (.op false ⟨(some 73), none, (.ld none (.tmp 72))⟩
  (.op false ⟨(some 74), none, (.mv (.tmp 13))⟩
  (.op false ⟨(some 75), none, (.bin .eql (.tmp 74) (.const (.int .i64 0)))⟩
  (.op false ⟨(some 76), none, (.eqb true (.tmp 73) (.tmp 75))⟩
  (.op false ⟨(some 77), none, (.mv (.tmp 76))⟩
  (.op false ⟨(some 78), (some (77, false)), (.mv (.tmp 12))⟩
  (.op false ⟨(some 79), (some (77, false)), (.idxa 12 1 (.tmp 6) (.tmp 78))⟩
  (.op false ⟨(some 80), (some (77, false)), (.ld none (.tmp 79))⟩
  (.op false ⟨(some 81), (some (77, false)), (.un .not (.tmp 80))⟩
  (.op false ⟨(some 82), (some (77, false)), (.mv (.tmp 81))⟩
  (.op false ⟨(some 83), (some (82, true)), (.mv (.tmp 13))⟩
  (.op false ⟨(some 84), (some (82, true)), (.bin .neq (.tmp 83) (.const (.int .i64 240)))⟩
  (.op false ⟨(some 85), (some (77, false)), (.pick (.tmp 82) (.tmp 84) (.const (.bool false)))⟩
  (.op false ⟨(some 86), none, (.pick (.tmp 77) (.const (.bool true)) (.tmp 85))⟩ .done))))))))))))))))) (.cond (.tmp 86)
 (.seq
 (.reg false (.op false ⟨(some 4), none, (.mv (.const (.bool false)))⟩ .done)) .ret) .skip))
 (.seq
 (.reg false (.op false ⟨(some 88), none, (.mv (.tmp 5))⟩
  (.op false ⟨(some 89), none, (.mv (.tmp 12))⟩
  (.op false ⟨(some 90), none, (.call f_cache_Cache_Get [(.tmp 88), (.tmp 89)])⟩
  (.op false ⟨(some 87), none, (.mv (.tmp 90))⟩
  (.op false ⟨(some 91), none, (.ext (.tmp 87) 0)⟩
  (.op false ⟨(some 92), none, (.ext (.tmp 87) 1)⟩
  (.op false ⟨(some 14), none, (.mv (.tmp 91))⟩
  (.op false ⟨(some 15), none, (.mv (.tmp 92))⟩ .done)))))))))
 (.seq
 (.reg false (.op false ⟨(some 93), none, (.mv (.tmp 15))⟩
  (.op false ⟨(some 94), none, (.bin .eql (.tmp 93) (.const (.int .i64 0)))⟩
  (.op false ⟨(some 95), none, (.mv (.tmp 94))⟩
  (.op false ⟨(some 96), (some (95, true)), (.mv (.tmp 5))⟩
  (.op false ⟨(some 97), (some (95, true)), (.call f_cache_Cache_Misses [(.tmp 96)])⟩
  (.op false ⟨(some 98), (some (95, true)), (.mv (.tmp 7))⟩
  (.op false ⟨(some 99), (some (95, true)), (.bin .add (.tmp 98) (.const (.int .i64 1)))⟩
  (.op false ⟨(some 100), (some (95, true)), (.bin .eql (.tmp 97) (.tmp 99))⟩
  (.op false ⟨(some 101), none, (.pick (.tmp 95) (.tmp 100) (.const (.bool false)))⟩
  (.op false ⟨(some 102), none, (.mv (.tmp 101))⟩
  (.op false ⟨(some 103), (some (102, true)), (.mv (.tmp 5))⟩
  (.op false ⟨(some 104), (some (102, true)), (.mv (.tmp 12))⟩
  (.op false ⟨(some 105), (some (102, true)), (.call f_cache_Cache_Forget [(.tmp 103), (.tmp 104)])⟩
  (.op false ⟨(some 106), (some (102, true)), (.bin .eql (.tmp 105) (.const (.int .i64 180)))⟩
  (.op false ⟨(some 107), none, (.pick (.tmp 102) (.tmp 106) (.const (.bool false)))⟩
  (.op false ⟨(some 4), none, (.mv (.tmp 107))⟩ .done))))))))))))))))) .ret))))))))))))⟩

set_option maxRecDepth 4000 in
set_option maxHeartbeats 1000000 in
theorem cacheWhole {P : Program} {f f1 f2 f3 f4 f5 f6 : FuncId} (hd : dec P f = some (g_thimblelaw18_CacheWhole f1 f2 f3 f4 f5 f6)) (h1 : CWorksOk P f1) (h2 : OverOk P f2) (h3 : CGetOk P f3) (h4 : CLeaveOk P f4) (h5 : MissesOk P f5) (h6 : CForgetOk P f6)
    {d : PHeap} {fo : Int} {gv : Value} {gs : List Int} (hgs : RInts d gv gs) : GCall P f [gv, .int .i64 fo] d [] (Ret fun r _ _ => r = .bool true) := by
  have hz : devK.syn.length = 12 := List.length_replicate
  have hgl := hgs.len_le
  refine GCall_of hd (Nat.le_of_ble_eq_true rfl) ?_
  show gwp P _ _ _ _ _
  (apply w_sq; apply w_reg; apply w_mvb; rfl; apply w_done0; apply w_sq; apply w_sq; apply w_reg)
  refine w_callA (A := []) (B := []) rfl rfl h1 (fun u d1 L1 hl1 ⟨e1, e2⟩ => ?_)
  subst e1; subst e2
  obtain ⟨q, hq, hq12⟩ := nat_rem fo 12 (by omega)
  replace hq : fo % 18446744073709551616 % 12 = (q : Int) := hq
  (apply w_not; rfl; apply w_done0; apply w_ifF; rfl; apply w_skip; apply w_sq; apply w_reg)
  refine w_callO (h2 (n := 12) (by omega) (by omega)) rfl (fun cv d2 L2 hl2 hc => ?_)
  obtain ⟨b, rfl⟩ := hc.ptr
  have hgs2 : RSl 1 RInt d2 gv gs := (hgs.mono hl1).mono hl2
  have hW0 : Wh (newC 12) (List.replicate 12 false) 0 0 := ⟨inv_new curK 12 _ (by omega) (by omega), List.length_replicate, fun s => pin_new _ s, List.length_replicate, fun s hs => by
    rw [List.getElem_replicate]; exact ⟨fun z => (by cases z), fun z => absurd (find_new 12 s) z⟩, rfl, by omega⟩
  (apply w_mvp; rfl; apply w_done0)
  (apply w_sq; apply w_sq; apply w_reg)
  (apply w_mvp; rfl; apply w_eqpS; rfl; rfl; apply w_done0)
  (apply w_ifF; rfl; apply w_skip; apply w_sq; apply w_reg)
  refine w_aloL (fun sb Ts => ?_)
  (apply w_done0; apply w_sq; apply w_reg; apply w_mvi; rfl; apply w_done0)
  refine w_mid (fun ρ d' L' => ∃ c bs m LX, SlotsAre ρ [(1, .int .i64 fo), (5, .pointer (some ⟨b, 0, none⟩)), (6, .pointer (some ⟨sb, 0, none⟩)), (7, .int .i64 (m : Nat))] ∧ Le d2 d' ∧ L' = bx sb Ts (bs.map Value.bool) :: LX ∧ Cov d' c devK (.pointer (some ⟨b, 0, none⟩)) LX ∧ Wh c bs m 200) ?_ ?_
  · (apply w_sq; apply w_reg; apply w_mvi; rfl; apply w_done0; apply w_block)
    refine w_loopS (α := Nat × CD × List Bool × Nat) (fun x => [(0, gv), (1, .int .i64 fo), (5, .pointer (some ⟨b, 0, none⟩)), (6, .pointer (some ⟨sb, 0, none⟩)), (7, .int .i64 x.2.2.2), (8, .int .i64 x.1)])
      (fun x d' L' => Le d2 d' ∧ x.1 ≤ 100 ∧ ∃ LX, L' = bx sb Ts (x.2.2.1.map Value.bool) :: LX ∧ Cov d' x.2.1 devK (.pointer (some ⟨b, 0, none⟩)) LX ∧ Wh x.2.1 x.2.2.1 x.2.2.2 x.1) (fun x => 100 - x.1) (0, newC 12, List.replicate 12 false, 0) ⟨rfl, rfl, rfl, rfl, rfl, rfl, trivial⟩ ⟨Le.refl _, by omega, _, rfl, hc, hW0⟩ ?_
    rintro ⟨i, c, bs, m⟩ ρ d3 L3 ⟨hl3, hi, LX, rfl, hc3, hW⟩
    simp only at hi hc3 hW ⊢
    have hgs3 : RSl 1 RInt d3 gv gs := RInts.mono hgs2 hl3
    have hbl := hW.bl
    have hmb := hW.mb
    have hWb : Wh c bs m 200 := ⟨hW.inv, hW.len, hW.zer, hW.bl, hW.fnd, hW.mis, by omega⟩
    by_cases e3 : i < gs.length
    · by_cases e4 : i < 100
      · obtain ⟨k, hk, hk12⟩ := nat_rem gs[i] 12 (by omega)
        replace hk : gs[i] % 18446744073709551616 % 12 = (k : Int) := hk
        obtain ⟨c1, hr, -⟩ := get_free hW.inv hk12 (hW.room hk12)
        obtain ⟨hpb, hlv, hW1⟩ := hW.next hk12 hr
        (apply w_sq; apply w_sq; apply w_reg; apply w_mvi; rfl; apply w_mv; apply w_lenR; rfl; assumption; apply w_lss; rfl; rfl; apply w_mvb; rfl; refine w_gdT rfl (by omega) ?_; apply w_gT; rfl; apply w_mvi; rfl; apply w_gT; rfl; apply w_lss; rfl; rfl; apply w_pickTb; rfl; rfl; apply w_done0; refine w_ifdT rfl (by omega) ?_; apply w_skip; apply w_sq; apply w_block; apply w_sq; apply w_reg; apply w_mv; apply w_mvi; rfl; refine w_idxR (sz := 1) (R := RInt) (by rfl) (by assumption) (by rfl) rfl (by omega) ?_; rintro _ _ _ _ _ ⟨rfl, _, _⟩; apply w_ld; rfl; exact hc_ds0 (by assumption) rfl; apply w_cviu; rfl; apply w_rem; rfl; rfl; omega; omega; apply w_cvi64; rfl; omega; omega; apply w_mvi; rfl; apply w_done0; apply w_sq; apply w_sq; apply w_reg; apply w_mvp; rfl; apply w_mvi; rfl)
        refine gws_env (g := 9) (congrArg (Value.int .i64) hk) ?_
        refine gws_env (g := 40) (congrArg (Value.int .i64) hk) ?_
        refine w_callQ (h3.cov (k := k) hc3 (pinB_zero hW.inv (n := 0) (fun s => by rw [hW.zer]; omega) (by omega)) (by omega)) (List.perm_append_comm (l₁ := [_])) rfl (fun u d4 L4 hl4 ⟨hc4, hg⟩ => ⟨d4, bx sb Ts (bs.map Value.bool) :: L4, Vs.perm (List.perm_append_comm (l₂ := [_])), ?_⟩)
        rw [devK_cur hk12, hr] at hc4 hg
        obtain ⟨w, rfl, hw⟩ := hg
        simp only at hc4
        have hcell : (bs.map Value.bool)[0 + k * 1]? = some (.bool (bs[k]'(by omega))) := by rw [Nat.zero_add, Nat.mul_one, List.getElem?_map, List.getElem?_eq_getElem (by omega)]; rfl
        (apply w_mvu; rfl; apply w_ext; rfl; rfl; apply w_ext; rfl; rfl; apply w_mv; apply w_mvi; rfl; apply w_done0; apply w_sq; apply w_reg; apply w_mvi; rfl; apply w_neq; rfl; rfl; apply w_mvb; rfl; refine w_gdF rfl (by omega) ?_; apply w_gT; rfl; apply w_mvp; rfl; apply w_gT; rfl; apply w_mvi; rfl; apply w_gT; rfl)
        refine w_callQ (h4.cov (k := k) hc4 hpb) (List.perm_append_comm (l₁ := [_])) rfl (fun u d5 L5 hl5 ⟨g1, g2⟩ => ⟨d5, bx sb Ts (bs.map Value.bool) :: L5, Vs.perm (List.perm_append_comm (l₂ := [_])), ?_⟩)
        rw [hlv] at g1
        subst g1
        have hmis1 := hW1.mis
        have hmb1 := hW1.mb
        have hp1 : patch (bs.map Value.bool) (0 + k * 1) [Value.bool true] = (bs.set k true).map Value.bool := by
          rw [Nat.zero_add, Nat.mul_one, List.map_set]
          exact patch_set (by rw [List.length_map]; omega)
        cases hbk : bs[k]'(by omega) with
        | false =>
          rw [hbk] at hcell hW1 hmis1 hmb1
          simp only [Bool.false_eq_true, if_false] at hW1 hmis1 hmb1
          (apply w_gT; rfl; apply w_neq; rfl; rfl; apply w_pickFb; rfl; rfl; apply w_done0; refine w_ifdF rfl (by omega) ?_; apply w_skip; apply w_sq; apply w_sq; apply w_reg; apply w_mvi; rfl)
          refine w_idxa k rfl rfl rfl hk12 ?_
          (apply w_ld; rfl; exact hc_i 0 rfl (by assumption); apply w_not; rfl; apply w_done0; apply w_ifT; rfl; apply w_reg; apply w_mvi; rfl; apply w_add; rfl; rfl; omega; omega; apply w_mvi; rfl; apply w_done0; apply w_sq; apply w_reg; apply w_mvi; rfl)
          refine w_idxa k rfl rfl rfl hk12 ?_
          refine w_stE 0 ((bs.set k true).map Value.bool) rfl rfl rfl rfl (by rw [List.length_map, hbl]; omega) rfl hp1 ?_
          (apply w_done0; apply w_sq; apply w_reg; apply w_mvp; rfl)
          refine w_readP (A := L5) (B := [_]) (List.perm_append_comm (l₁ := [_])) rfl (h5.cov g2) ?_
          rw [wr_eq (by omega), hmis1]
          (apply w_mvi; rfl; apply w_neq; rfl; rfl; apply w_done0; refine w_ifdF rfl (by omega) ?_; apply w_skip; apply w_reg; apply w_mvi; rfl; apply w_add; rfl; rfl; omega; omega; apply w_mvi; rfl; apply w_done0)
          exact ⟨(i + 1, _, bs.set k true, m + 1), by simp only; omega, ⟨rfl, rfl, rfl, rfl, rfl, rfl, trivial⟩, (hl3.trans hl4).trans hl5, by simp only; omega, L5, rfl, g2, hW1⟩
        | true =>
          rw [hbk] at hcell hW1 hmis1 hmb1
          simp only [if_true] at hW1 hmis1 hmb1
          (apply w_gT; rfl; apply w_neq; rfl; rfl; apply w_pickFb; rfl; rfl; apply w_done0; refine w_ifdF rfl (by omega) ?_; apply w_skip; apply w_sq; apply w_sq; apply w_reg; apply w_mvi; rfl)
          refine w_idxa k rfl rfl rfl hk12 ?_
          (apply w_ld; rfl; exact hc_i 0 rfl (by assumption); apply w_not; rfl; apply w_done0; apply w_ifF; rfl; apply w_skip; apply w_sq; apply w_reg; apply w_mvi; rfl)
          refine w_idxa k rfl rfl rfl hk12 ?_
          refine w_stE 0 ((bs.set k true).map Value.bool) rfl rfl rfl rfl (by rw [List.length_map, hbl]; omega) rfl hp1 ?_
          (apply w_done0; apply w_sq; apply w_reg; apply w_mvp; rfl)
          refine w_readP (A := L5) (B := [_]) (List.perm_append_comm (l₁ := [_])) rfl (h5.cov g2) ?_
          rw [wr_eq (by omega), hmis1]
          (apply w_mvi; rfl; apply w_neq; rfl; rfl; apply w_done0; refine w_ifdF rfl (by omega) ?_; apply w_skip; apply w_reg; apply w_mvi; rfl; apply w_add; rfl; rfl; omega; omega; apply w_mvi; rfl; apply w_done0)
          exact ⟨(i + 1, _, bs.set k true, m), by simp only; omega, ⟨rfl, rfl, rfl, rfl, rfl, rfl, trivial⟩, (hl3.trans hl4).trans hl5, by simp only; omega, L5, rfl, g2, hW1⟩
      · (apply w_sq; apply w_sq; apply w_reg; apply w_mvi; rfl; apply w_mv; apply w_lenR; rfl; assumption; apply w_lss; rfl; rfl; apply w_mvb; rfl; refine w_gdT rfl (by omega) ?_; apply w_gT; rfl; apply w_mvi; rfl; apply w_gT; rfl; apply w_lss; rfl; rfl; apply w_pickTb; rfl; rfl; apply w_done0; refine w_ifdF rfl (by omega) ?_; apply w_exit)
        exact ⟨c, bs, m, LX, ⟨rfl, rfl, rfl, rfl, trivial⟩, hl3, rfl, hc3, hWb⟩
    · (apply w_sq; apply w_sq; apply w_reg; apply w_mvi; rfl; apply w_mv; apply w_lenR; rfl; assumption; apply w_lss; rfl; rfl; apply w_mvb; rfl; refine w_gdF rfl (by omega) ?_; apply w_gF; rfl; apply w_gF; rfl; apply w_pickFb; rfl; rfl; apply w_done0; apply w_ifF; rfl; apply w_exit)
      exact ⟨c, bs, m, LX, ⟨rfl, rfl, rfl, rfl, trivial⟩, hl3, rfl, hc3, hWb⟩
  · rintro ρ d3 L3 ⟨c, bs, m, LX, hs3, hl3, rfl, hc3, hW⟩
    refine gwp_slots _ hs3 ?_
    have hbl := hW.bl
    have hmb := hW.mb
    obtain ⟨hroom, hfv, hpb, c', hr, hmis, hroom', hfv'⟩ := hW.last hq12
    (apply w_sq; apply w_reg; apply w_mvi; rfl; apply w_cviu; rfl; apply w_rem; rfl; rfl; omega; omega; apply w_cvi64; rfl; omega; omega; apply w_mvi; rfl; apply w_done0; apply w_sq; apply w_reg; apply w_mvp; rfl; apply w_mvi; rfl)
    refine gws_env (g := 12) (congrArg (Value.int .i64) hq) ?_
    refine gws_env (g := 69) (congrArg (Value.int .i64) hq) ?_
    refine w_callQ (h6.cov (k := q) hc3 hroom) (List.perm_append_comm (l₁ := [_])) rfl (fun u d4 L4 hl4 ⟨g1, hc4⟩ => ⟨d4, bx sb Ts (bs.map Value.bool) :: L4, Vs.perm (List.perm_append_comm (l₂ := [_])), ?_⟩)
    rw [hfv] at g1
    have hcell : (bs.map Value.bool)[0 + q * 1]? = some (.bool (bs[q]'(by omega))) := by rw [Nat.zero_add, Nat.mul_one, List.getElem?_map, List.getElem?_eq_getElem (by omega)]; rfl
    cases hbq : bs[q]'(by omega) with
    | false =>
      rw [hbq] at hcell g1
      simp only [Bool.false_eq_true, if_false] at g1
      subst g1
      (apply w_mvi; rfl; apply w_done0; apply w_sq; apply w_sq; apply w_reg; apply w_mvi; rfl)
      refine w_idxa q rfl rfl rfl hq12 ?_
      (apply w_ld; rfl; exact hc_i 0 rfl (by assumption); apply w_mvi; rfl; apply w_eql; rfl; rfl; apply w_eqb; rfl; rfl; apply w_mvb; rfl)
      refine gws_env (g := 77) (v := .bool false) rfl ?_
      (apply w_gT; rfl; apply w_mvi; rfl; apply w_gT; rfl)
      refine w_idxa q rfl rfl rfl hq12 ?_
      (apply w_gT; rfl; apply w_ld; rfl; exact hc_i 0 rfl (by assumption); apply w_gT; rfl; apply w_not; rfl; apply w_gT; rfl; apply w_mvb; rfl; apply w_gT; rfl; apply w_mvi; rfl; apply w_gT; rfl; apply w_neq; rfl; rfl; apply w_gT; rfl; apply w_pickTb; rfl; rfl; apply w_pickFb; rfl; rfl; apply w_done0; refine w_ifdF rfl (by omega) ?_; apply w_skip; apply w_sq; apply w_reg; apply w_mvp; rfl; apply w_mvi; rfl)
      refine w_callQ (h3.cov (k := q) hc4 hpb (by omega)) (List.perm_append_comm (l₁ := [_])) rfl (fun u d5 L5 hl5 ⟨hc5, hg⟩ => ⟨d5, bx sb Ts (bs.map Value.bool) :: L5, Vs.perm (List.perm_append_comm (l₂ := [_])), ?_⟩)
      rw [devK_cur hq12, hr] at hc5 hg
      obtain ⟨w, rfl, hw⟩ := hg
      simp only at hc5
      (apply w_mvu; rfl; apply w_ext; rfl; rfl; apply w_ext; rfl; rfl; apply w_mv; apply w_mvi; rfl; apply w_done0; apply w_sq; apply w_reg; apply w_mvi; rfl; apply w_eql; rfl; rfl; apply w_mvb; rfl; refine w_gdT rfl (by omega) ?_; apply w_gT; rfl; apply w_mvp; rfl; apply w_gT; rfl)
      refine w_readP (A := L5) (B := [_]) (List.perm_append_comm (l₁ := [_])) rfl (h5.cov hc5) ?_
      rw [wr_eq (by omega), hmis]
      (apply w_gT; rfl; apply w_mvi; rfl; apply w_gT; rfl; apply w_add; rfl; rfl; omega; omega; apply w_gT; rfl; apply w_eql; rfl; rfl; apply w_pickTb; rfl; rfl; apply w_mvb; rfl; refine w_gdT rfl (by omega) ?_; apply w_gT; rfl; apply w_mvp; rfl; apply w_gT; rfl; apply w_mvi; rfl; apply w_gT; rfl)
      refine w_callQ (h6.cov (k := q) hc5 hroom') (List.perm_append_comm (l₁ := [_])) rfl (fun u d6 L6 hl6 ⟨g2, hc6⟩ => ⟨d6, bx sb Ts (bs.map Value.bool) :: L6, Vs.perm (List.perm_append_comm (l₂ := [_])), ?_⟩)
      rw [hfv'] at g2
      subst g2
      (apply w_gT; rfl; apply w_eql; rfl; rfl; apply w_pickTb; rfl; rfl; apply w_mvb; rfl; apply w_done0; apply w_ret)
      exact fin1 rfl (List.nil_sublist _) rfl
    | true =>
      rw [hbq] at hcell g1
      simp only [if_true] at g1
      subst g1
      (apply w_mvi; rfl; apply w_done0; apply w_sq; apply w_sq; apply w_reg; apply w_mvi; rfl)
      refine w_idxa q rfl rfl rfl hq12 ?_
      (apply w_ld; rfl; exact hc_i 0 rfl (by assumption); apply w_mvi; rfl; apply w_eql; rfl; rfl; apply w_eqb; rfl; rfl; apply w_mvb; rfl)
      refine gws_env (g := 77) (v := .bool false) rfl ?_
      (apply w_gT; rfl; apply w_mvi; rfl; apply w_gT; rfl)
      refine w_idxa q rfl rfl rfl hq12 ?_
      (apply w_gT; rfl; apply w_ld; rfl; exact hc_i 0 rfl (by assumption); apply w_gT; rfl; apply w_not; rfl; apply w_gT; rfl; apply w_mvb; rfl; apply w_gF; rfl; apply w_gF; rfl; apply w_gT; rfl; apply w_pickFb; rfl; rfl; apply w_pickFb; rfl; rfl; apply w_done0; apply w_ifF; rfl; apply w_skip; apply w_sq; apply w_reg; apply w_mvp; rfl; apply w_mvi; rfl)
      refine w_callQ (h3.cov (k := q) hc4 hpb (by omega)) (List.perm_append_comm (l₁ := [_])) rfl (fun u d5 L5 hl5 ⟨hc5, hg⟩ => ⟨d5, bx sb Ts (bs.map Value.bool) :: L5, Vs.perm (List.perm_append_comm (l₂ := [_])), ?_⟩)
      rw [devK_cur hq12, hr] at hc5 hg
      obtain ⟨w, rfl, hw⟩ := hg
      simp only at hc5
      (apply w_mvu; rfl; apply w_ext; rfl; rfl; apply w_ext; rfl; rfl; apply w_mv; apply w_mvi; rfl; apply w_done0; apply w_sq; apply w_reg; apply w_mvi; rfl; apply w_eql; rfl; rfl; apply w_mvb; rfl; refine w_gdT rfl (by omega) ?_; apply w_gT; rfl; apply w_mvp; rfl; apply w_gT; rfl)
      refine w_readP (A := L5) (B := [_]) (List.perm_append_comm (l₁ := [_])) rfl (h5.cov hc5) ?_
      rw [wr_eq (by omega), hmis]
      (apply w_gT; rfl; apply w_mvi; rfl; apply w_gT; rfl; apply w_add; rfl; rfl; omega; omega; apply w_gT; rfl; apply w_eql; rfl; rfl; apply w_pickTb; rfl; rfl; apply w_mvb; rfl; refine w_gdT rfl (by omega) ?_; apply w_gT; rfl; apply w_mvp; rfl; apply w_gT; rfl; apply w_mvi; rfl; apply w_gT; rfl)
      refine w_callQ (h6.cov (k := q) hc5 hroom') (List.perm_append_comm (l₁ := [_])) rfl (fun u d6 L6 hl6 ⟨g2, hc6⟩ => ⟨d6, bx sb Ts (bs.map Value.bool) :: L6, Vs.perm (List.perm_append_comm (l₂ := [_])), ?_⟩)
      rw [hfv'] at g2
      subst g2
      (apply w_gT; rfl; apply w_eql; rfl; rfl; apply w_pickTb; rfl; rfl; apply w_mvb; rfl; apply w_done0; apply w_ret)
      exact fin1 rfl (List.nil_sublist _) rfl
end Go.Gk.Cch
end
