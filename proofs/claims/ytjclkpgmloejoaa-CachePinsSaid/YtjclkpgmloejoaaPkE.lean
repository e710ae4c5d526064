/-
  Our own texts, one behind the other: GkC7 GkC8.
-/
import Derived.Test.YtjclkpgmloejoaaPkD
section
namespace Go.Gk.Cch
open Go Go.Gk Go.Gk.Dev
attribute [local irreducible] gwp gws xwp

section
variable {P : Program} {pan : List PanicEntry → Post} {Qn : Env → Post} {Ls L : List PHeap} {ρ : Env} {d : PHeap} {s : GS} {t : Nat} {tk : Bool}
theorem w_remK {x y : Operand} {kk : IntKind} {a b : Int} (k : Nat) (ex : ev ρ x = .int kk a) (ey : ev ρ y = .int kk b) (h1 : 0 ≤ a) (h2 : 0 < b) (hk : a % b = (k : Int)) (h : gws P pan Qn s Ls (upd ρ t (.int kk (k : Nat))) d L) :
    gws P pan Qn (.op tk ⟨some t, none, .bin .rem x y⟩ s) Ls ρ d L := w_rem ex ey h1 h2 (by rw [hk]; exact h)
end
theorem nat_rem (a : Int) (m : Nat) (h : 0 < m) : ∃ k : Nat, (a % 18446744073709551616) % (m : Int) = (k : Int) ∧ k < m := by
  refine ⟨((a % 18446744073709551616) % (m : Int)).toNat, ?_, ?_⟩ <;> have := Int.emod_nonneg (a % 18446744073709551616) (show (m : Int) ≠ 0 by omega) <;> have := Int.emod_lt_of_pos (a % 18446744073709551616) (show (0 : Int) < m by omega) <;> omega
structure Tl (c : CD) (i n : Nat) : Prop where
  inv : Inv curK 12 c
  pin : ∀ s, pinOf c s ≤ i
  sum : c.hits + c.miss = n
  le : n ≤ i
theorem Tl.pinB {c : CD} {i n : Nat} (h : Tl c i n) (hi : i ≤ 1000) : PinB c 4611686018427387904 := fun f hf => by
  have := pinB_of h.inv h.pin f hf; omega
theorem Tl.get {c c' : CD} {i n k : Nat} {b : Sec} (h : Tl c i n) (hk : k < 12) (hg : getF (curK k) c k = (c', some b)) : Tl c' (i + 1) (n + 1) ∧ b = curK k ∧ pinOf c' k ≠ 0 := by
  obtain ⟨g1, g2, g3, g4, g5, g6, g7⟩ := get_some h.inv hk hg
  refine ⟨⟨g1, fun s => ?_, ?_, by have := h.le; omega⟩, g2, ?_⟩
  · rw [g3]; have := h.pin s; split <;> omega
  · have := h.sum
    split at g6 <;> omega
  · rw [g3, if_pos rfl]; omega
theorem Tl.leave {c : CD} {i n k : Nat} (h : Tl c i n) (hp : pinOf c k ≠ 0) : Tl (leaveF c k).1 i n ∧ (leaveF c k).2 = 0 := by
  obtain ⟨g1, g2, g3, g4, g5, g6, g7⟩ := leave_inv h.inv hp
  refine ⟨⟨g1, fun s => ?_, by rw [g5, g6]; exact h.sum, h.le⟩, g2⟩
  rw [g3]; have := h.pin s; split <;> omega
theorem Tl.next {c : CD} {i n : Nat} (h : Tl c i n) : Tl c (i + 1) n := ⟨h.inv, fun s => by have := h.pin s; omega, h.sum, by have := h.le; omega⟩

theorem GotB.form {d : PHeap} {r : Value} {o : Option Sec} (h : GotB d r o) : ∃ a n cp e, r = .tuple #[.slice a n cp, .int .i64 e] ∧ (match o with | some b => e = 0 ∧ n = b.length ∧ RBytes d (.slice a n cp) b | none => e = 180 ∧ n = 0) := by
  cases o with
  | none => obtain rfl := h; exact ⟨none, 0, 0, 180, rfl, rfl, rfl⟩
  | some b =>
    obtain ⟨u, rfl, hu⟩ := h
    obtain ⟨a, c, rfl⟩ := RSl.val hu
    exact ⟨a, _, c, 0, rfl, rfl, rfl, hu⟩
def Seen (l : List Int) (j : Nat) (bs : List Bool) : Prop := bs.length = 12 ∧ ∀ s (hs : s < bs.length), bs[s] = true → ∃ j', j' < j ∧ l[j']? = some (s : Int)
theorem seen_step {l : List Int} {j : Nat} {bs : List Bool} (h : Seen l j bs) (hj : j < l.length) {s : Nat} (hs : s < 12) (e : l[j] = (s : Int)) : Seen l (j + 1) (bs.set s true) := by
  refine ⟨by rw [List.length_set]; exact h.1, fun t ht hb => ?_⟩
  rw [List.length_set] at ht
  by_cases q : s = t
  · subst q; exact ⟨j, by omega, by rw [List.getElem?_eq_getElem hj, e]⟩
  · rw [List.getElem_set_ne q] at hb
    obtain ⟨j', h1, h2⟩ := h.2 t ht hb
    exact ⟨j', by omega, h2⟩
theorem seen_next {l : List Int} {j : Nat} {bs : List Bool} (h : Seen l j bs) : Seen l (j + 1) bs := ⟨h.1, fun t ht hb => let ⟨j', h1, h2⟩ := h.2 t ht hb; ⟨j', by omega, h2⟩⟩
def g_thimblelaw18_CacheTells (f_thimblelaw18_works f_thimblelaw18_over f_cache_Cache_Get f_cache_Cache_Leave f_cache_Cache_Hits f_cache_Cache_Misses f_cache_Cache_Held : Nat) : GFun :=
 ⟨125, [(.tmp 6)],
 (.seq
 (.reg false (.op false ⟨(some 6), none, (.mv (.const (.bool false)))⟩ .done))
 (.seq (.seq
 (.reg false (.op false ⟨(some 16), none, (.call f_thimblelaw18_works [])⟩
  (.op false ⟨(some 17), none, (.un .not (.tmp 16))⟩ .done))) (.cond (.tmp 17)
 (.seq
 (.reg false (.op false ⟨(some 6), none, (.mv (.const (.bool false)))⟩ .done)) .ret) .skip))
 (.seq
 (.reg false (.op false ⟨(some 18), none, (.mv (.tmp 0))⟩
  (.op false ⟨(some 19), none, (.cvi .u64 (.tmp 18))⟩
  (.op false ⟨(some 20), none, (.bin .rem (.tmp 19) (.const (.int .u64 8)))⟩
  (.op false ⟨(some 21), none, (.cvi .i64 (.tmp 20))⟩
  (.op false ⟨(some 22), none, (.bin .add (.const (.int .i64 1)) (.tmp 21))⟩
  (.op false ⟨(some 23), none, (.call f_thimblelaw18_over [(.tmp 22)])⟩
  (.op false ⟨(some 7), none, (.mv (.tmp 23))⟩ .done))))))))
 (.seq (.seq
 (.reg false (.op false ⟨(some 24), none, (.mv (.tmp 7))⟩
  (.op false ⟨(some 25), none, (.eqp false (.tmp 24) (.const (.pointer none)))⟩ .done))) (.cond (.tmp 25)
 (.seq
 (.reg false (.op false ⟨(some 6), none, (.mv (.const (.bool false)))⟩ .done)) .ret) .skip))
 (.seq
 (.reg false (.op false ⟨(some 8), none, (.mv (.const (.int .i64 0)))⟩ .done))
 (.seq (.seq
 (.reg false (.op false ⟨(some 9), none, (.mv (.const (.int .i64 0)))⟩ .done)) (.block 0 (.loop
 (.seq (.seq
 (.reg false (.op false ⟨(some 26), none, (.mv (.tmp 9))⟩
  (.op false ⟨(some 27), none, (.mv (.tmp 1))⟩
  (.op false ⟨(some 28), none, (.len (.tmp 27))⟩
  (.op false ⟨(some 29), none, (.bin .lss (.tmp 26) (.tmp 28))⟩
  (.op false ⟨(some 30), none, (.mv (.tmp 29))⟩
  (.op false ⟨(some 31), (some (30, true)), (.mv (.tmp 9))⟩
  (.op false ⟨(some 32), (some (30, true)), (.bin .lss (.tmp 31) (.const (.int .i64 100)))⟩
  (.op false ⟨(some 33), none, (.pick (.tmp 30) (.tmp 32) (.const (.bool false)))⟩ .done))))))))) (.cond (.tmp 33) .skip (.exit 0)))
 (.seq (.block 1
 (.seq
 (.reg false (.op false ⟨(some 36), none, (.mv (.tmp 1))⟩
  (.op false ⟨(some 37), none, (.mv (.tmp 9))⟩
  (.op false ⟨(some 38), none, (.idx 1 (.tmp 36) (.tmp 37))⟩
  (.op false ⟨(some 39), none, (.ld none (.tmp 38))⟩
  (.op false ⟨(some 40), none, (.cvi .u64 (.tmp 39))⟩
  (.op false ⟨(some 41), none, (.bin .rem (.tmp 40) (.const (.int .u64 12)))⟩
  (.op false ⟨(some 42), none, (.cvi .i64 (.tmp 41))⟩
  (.op false ⟨(some 10), none, (.mv (.tmp 42))⟩ .done)))))))))
 (.seq
 (.reg false (.op false ⟨(some 44), none, (.mv (.tmp 7))⟩
  (.op false ⟨(some 45), none, (.mv (.tmp 10))⟩
  (.op false ⟨(some 46), none, (.call f_cache_Cache_Get [(.tmp 44), (.tmp 45)])⟩
  (.op false ⟨(some 43), none, (.mv (.tmp 46))⟩
  (.op false ⟨(some 47), none, (.ext (.tmp 43) 0)⟩
  (.op false ⟨(some 48), none, (.ext (.tmp 43) 1)⟩
  (.op false ⟨(some 11), none, (.mv (.tmp 47))⟩
  (.op false ⟨(some 12), none, (.mv (.tmp 48))⟩ .done)))))))))
 (.seq (.seq
 (.reg false (.op false ⟨(some 49), none, (.mv (.tmp 12))⟩
  (.op false ⟨(some 50), none, (.bin .eql (.tmp 49) (.const (.int .i64 0)))⟩ .done))) (.cond (.tmp 50)
 (.seq
 (.reg false (.op false ⟨(some 51), none, (.mv (.tmp 8))⟩
  (.op false ⟨(some 52), none, (.bin .add (.tmp 51) (.const (.int .i64 1)))⟩
  (.op false ⟨(some 8), none, (.mv (.tmp 52))⟩ .done))))
 (.seq (.seq
 (.reg false (.op false ⟨(some 53), none, (.mv (.tmp 11))⟩
  (.op false ⟨(some 54), none, (.len (.tmp 53))⟩
  (.op false ⟨(some 55), none, (.bin .neq (.tmp 54) (.const (.int .i64 256)))⟩
  (.op false ⟨(some 56), none, (.mv (.tmp 55))⟩
  (.op false ⟨(some 57), (some (56, false)), (.mv (.tmp 11))⟩
  (.op false ⟨(some 58), (some (56, false)), (.idx 1 (.tmp 57) (.const (.int .i64 0)))⟩
  (.op false ⟨(some 59), (some (56, false)), (.ld none (.tmp 58))⟩
  (.op false ⟨(some 60), (some (56, false)), (.mv (.tmp 10))⟩
  (.op false ⟨(some 61), (some (56, false)), (.cvi .u8 (.tmp 60))⟩
  (.op false ⟨(some 62), (some (56, false)), (.bin .neq (.tmp 59) (.tmp 61))⟩
  (.op false ⟨(some 63), none, (.pick (.tmp 56) (.const (.bool true)) (.tmp 62))⟩
  (.op false ⟨(some 64), none, (.mv (.tmp 63))⟩
  (.op false ⟨(some 65), (some (64, false)), (.mv (.tmp 11))⟩
  (.op false ⟨(some 66), (some (64, false)), (.idx 1 (.tmp 65) (.const (.int .i64 255)))⟩
  (.op false ⟨(some 67), (some (64, false)), (.ld none (.tmp 66))⟩
  (.op false ⟨(some 68), (some (64, false)), (.mv (.tmp 10))⟩
  (.op false ⟨(some 69), (some (64, false)), (.cvi .u8 (.tmp 68))⟩
  (.op false ⟨(some 70), (some (64, false)), (.bin .neq (.tmp 67) (.tmp 69))⟩
  (.op false ⟨(some 71), none, (.pick (.tmp 64) (.const (.bool true)) (.tmp 70))⟩ .done)))))))))))))))))))) (.cond (.tmp 71)
 (.seq
 (.reg false (.op false ⟨(some 6), none, (.mv (.const (.bool false)))⟩ .done)) .ret) .skip))
 (.seq
 (.reg false (.op false ⟨(some 72), none, (.mv (.tmp 9))⟩
  (.op false ⟨(some 73), none, (.mv (.tmp 2))⟩
  (.op false ⟨(some 74), none, (.len (.tmp 73))⟩
  (.op false ⟨(some 75), none, (.bin .lss (.tmp 72) (.tmp 74))⟩
  (.op false ⟨(some 76), none, (.mv (.tmp 75))⟩
  (.op false ⟨(some 77), (some (76, true)), (.mv (.tmp 2))⟩
  (.op false ⟨(some 78), (some (76, true)), (.mv (.tmp 9))⟩
  (.op false ⟨(some 79), (some (76, true)), (.idx 1 (.tmp 77) (.tmp 78))⟩
  (.op false ⟨(some 80), (some (76, true)), (.ld none (.tmp 79))⟩
  (.op false ⟨(some 81), none, (.pick (.tmp 76) (.tmp 80) (.const (.bool false)))⟩
  (.op false ⟨(some 82), none, (.mv (.tmp 81))⟩
  (.op false ⟨(some 83), (some (82, true)), (.mv (.tmp 7))⟩
  (.op false ⟨(some 84), (some (82, true)), (.mv (.tmp 10))⟩
  (.op false ⟨(some 85), (some (82, true)), (.call f_cache_Cache_Leave [(.tmp 83), (.tmp 84)])⟩
  (.op false ⟨(some 86), (some (82, true)), (.bin .neq (.tmp 85) (.const (.int .i64 0)))⟩
  (.op false ⟨(some 87), none, (.pick (.tmp 82) (.tmp 86) (.const (.bool false)))⟩ .done))))))))))))))))) (.cond (.tmp 87)
 (.seq
 (.reg false (.op false ⟨(some 6), none, (.mv (.const (.bool false)))⟩ .done)) .ret) .skip))))
 (.seq
 (.reg false (.op false ⟨(some 88), none, (.mv (.tmp 12))⟩
  (.op false ⟨(some 89), none, (.bin .neq (.tmp 88) (.const (.int .i64 180)))⟩
  (.op false ⟨(some 90), none, (.mv (.tmp 89))⟩
  (.op false ⟨(some 91), (some (90, false)), (.mv (.tmp 11))⟩
  (.op false ⟨(some 92), (some (90, false)), (.len (.tmp 91))⟩
  (.op false ⟨(some 93), (some (90, false)), (.bin .neq (.tmp 92) (.const (.int .i64 0)))⟩
  (.op false ⟨(some 94), none, (.pick (.tmp 90) (.const (.bool true)) (.tmp 93))⟩ .done)))))))) (.cond (.tmp 94)
 (.seq
 (.reg false (.op false ⟨(some 6), none, (.mv (.const (.bool false)))⟩ .done)) .ret) .skip))))
 (.seq (.seq
 (.reg false (.op false ⟨(some 95), none, (.mv (.tmp 7))⟩
  (.op false ⟨(some 96), none, (.call f_cache_Cache_Hits [(.tmp 95)])⟩
  (.op false ⟨(some 97), none, (.mv (.tmp 7))⟩
  (.op false ⟨(some 98), none, (.call f_cache_Cache_Misses [(.tmp 97)])⟩
  (.op false ⟨(some 99), none, (.bin .add (.tmp 96) (.tmp 98))⟩
  (.op false ⟨(some 100), none, (.mv (.tmp 8))⟩
  (.op false ⟨(some 101), none, (.bin .neq (.tmp 99) (.tmp 100))⟩ .done)))))))) (.cond (.tmp 101)
 (.seq
 (.reg false (.op false ⟨(some 6), none, (.mv (.const (.bool false)))⟩ .done)) .ret) .skip))
 (.seq
 (.reg false (.op false ⟨(some 13), none, (.alo (.agg #[(.bool false), (.bool false), (.bool false), (.bool false), (.bool false), (.bool false), (.bool false), (.bool false), (.bool false), (.bool false), (.bool false), (.bool false)]))⟩ .done))
 (.seq
 (.reg false (.op false ⟨(some 102), none, (.mv (.tmp 7))⟩
  (.op false ⟨(some 103), none, (.call f_cache_Cache_Held [(.tmp 102)])⟩
  (.op false ⟨(some 104), none, (.len (.tmp 103))⟩
  (.op false ⟨(some 105), none, (.mv (.const (.int .i64 0)))⟩ .done))))) (.block 2 (.loop
 (.seq
 (.reg false (.op false ⟨(some 106), none, (.bin .lss (.tmp 105) (.tmp 104))⟩ .done))
 (.seq (.cond (.tmp 106) .skip (.exit 2))
 (.seq (.block 3
 (.seq
 (.reg false (.op false ⟨(some 107), none, (.idx 1 (.tmp 103) (.tmp 105))⟩
  (.op false ⟨(some 108), none, (.ld none (.tmp 107))⟩
  (.op false ⟨(some 15), none, (.mv (.tmp 108))⟩ .done))))
 (.seq (.seq
 (.reg false (.op false ⟨(some 109), none, (.mv (.tmp 15))⟩
  (.op false ⟨(some 110), none, (.bin .geq (.tmp 109) (.const (.int .i64 12)))⟩
  (.op false ⟨(some 111), none, (.mv (.tmp 110))⟩
  (.op false ⟨(some 112), (some (111, false)), (.mv (.tmp 15))⟩
  (.op false ⟨(some 113), (some (111, false)), (.bin .geq (.tmp 112) (.const (.int .i64 0)))⟩
  (.op false ⟨(some 114), (some (111, false)), (.mv (.tmp 113))⟩
  (.op false ⟨(some 115), (some (114, true)), (.mv (.tmp 15))⟩
  (.op false ⟨(some 116), (some (114, true)), (.idxa 12 1 (.tmp 13) (.tmp 115))⟩
  (.op false ⟨(some 117), (some (114, true)), (.ld none (.tmp 116))⟩
  (.op false ⟨(some 118), (some (111, false)), (.pick (.tmp 114) (.tmp 117) (.const (.bool false)))⟩
  (.op false ⟨(some 119), none, (.pick (.tmp 111) (.const (.bool true)) (.tmp 118))⟩ .done)))))))))))) (.cond (.tmp 119)
 (.seq
 (.reg false (.op false ⟨(some 6), none, (.mv (.const (.bool false)))⟩ .done)) .ret) .skip))
 (.seq
 (.reg false (.op false ⟨(some 120), none, (.mv (.tmp 15))⟩
  (.op false ⟨(some 121), none, (.bin .geq (.tmp 120) (.const (.int .i64 0)))⟩ .done))) (.cond (.tmp 121)
 (.reg false (.op false ⟨(some 122), none, (.mv (.tmp 15))⟩
  (.op false ⟨(some 123), none, (.idxa 12 1 (.tmp 13) (.tmp 122))⟩
  (.op false ⟨none, none, (.st 1 (.tmp 123) (.const (.bool true)))⟩ .done)))) .skip)))))
 (.reg false (.op false ⟨(some 124), none, (.bin .add (.tmp 105) (.const (.int .i64 1)))⟩
  (.op false ⟨(some 105), none, (.mv (.tmp 124))⟩ .done)))))))))))))))
 (.reg false (.op false ⟨(some 34), none, (.mv (.tmp 9))⟩
  (.op false ⟨(some 35), none, (.bin .add (.tmp 34) (.const (.int .i64 1)))⟩
  (.op false ⟨(some 9), none, (.mv (.tmp 35))⟩ .done)))))))))
 (.seq
 (.reg false (.op false ⟨(some 6), none, (.mv (.const (.bool true)))⟩ .done)) .ret)))))))⟩

set_option maxRecDepth 4000 in
set_option maxHeartbeats 1000000 in
theorem cacheTells {P : Program} {f f1 f2 f3 f4 f5 f6 f7 : FuncId} (hd : dec P f = some (g_thimblelaw18_CacheTells f1 f2 f3 f4 f5 f6 f7)) (h1 : CWorksOk P f1) (h2 : OverOk P f2) (h3 : CGetOk P f3) (h4 : CLeaveOk P f4) (h5 : HitsOk P f5) (h6 : MissesOk P f6) (h7 : CHeldOk P f7)
    {d : PHeap} {fr : Int} {gv lv : Value} {gs : List Int} {ls : List Bool} (hgs : RInts d gv gs) (hls : RSl 1 RBool d lv ls) : GCall P f [.int .i64 fr, gv, lv] d [] (Ret fun r _ _ => r = .bool true) := by
  have hz : devK.syn.length = 12 := List.length_replicate
  have hgl := hgs.len_le
  have hll := hls.len_le
  refine GCall_of hd (Nat.le_of_ble_eq_true rfl) ?_
  show gwp P _ _ _ _ _
  (apply w_sq; apply w_reg; apply w_mvb; rfl; apply w_done0; apply w_sq; apply w_sq; apply w_reg)
  refine w_callA (A := []) (B := []) rfl rfl h1 (fun u d1 L1 hl1 ⟨e1, e2⟩ => ?_)
  subst e1; subst e2
  obtain ⟨m, hm, hm12⟩ := nat_rem fr 8 (by omega)
  replace hm : fr % 18446744073709551616 % 8 = (m : Int) := hm
  (apply w_not; rfl; apply w_done0; apply w_ifF; rfl; apply w_skip; apply w_sq; apply w_reg; apply w_mvi; rfl; apply w_cviu; rfl; apply w_rem; rfl; rfl; omega; omega; apply w_cvi64; rfl; omega; omega; apply w_add; rfl; rfl; omega; omega)
  refine w_callA (A := []) (B := []) rfl (vs := [.int .i64 (1 + m : Nat)]) (congrArg (fun z => [Value.int .i64 z]) (show 1 + fr % 18446744073709551616 % 8 = ((1 + m : Nat) : Int) by omega)) (h2 (n := 1 + m) (by omega) (by omega)) (fun cv d2 L2 hl2 hc => ?_)
  obtain ⟨b, rfl⟩ := hc.ptr
  rw [List.append_nil]
  have hgs2 : RSl 1 RInt d2 gv gs := (hgs.mono hl1).mono hl2
  have hls2 : RSl 1 RBool d2 lv ls := RSl.mono (fun _ h => h) hls (hl1.trans hl2)
  (apply w_mvp; rfl; apply w_done0; apply w_sq; apply w_sq; apply w_reg; apply w_mvp; rfl; apply w_eqpS; rfl; rfl; apply w_done0; apply w_ifF; rfl; apply w_skip; apply w_sq; apply w_reg; apply w_mvi; rfl; apply w_done0; apply w_sq; apply w_sq; apply w_reg; apply w_mvi; rfl; apply w_done0; apply w_block)
  have hT0 : Tl (newC (1 + m)) 0 0 := ⟨inv_new curK 12 _ (by omega) (by omega), fun s => by rw [show pinOf (newC (1 + m)) s = 0 from pin_new _ s]; omega, rfl, by omega⟩
  refine w_loopS (α := Nat × Nat × CD) (fun x => [(1, gv), (2, lv), (7, .pointer (some ⟨b, 0, none⟩)), (8, .int .i64 x.2.1), (9, .int .i64 x.1)])
    (fun x d' L' => Le d2 d' ∧ x.1 ≤ 100 ∧ x.1 ≤ gs.length ∧ Cov d' x.2.2 devK (.pointer (some ⟨b, 0, none⟩)) L' ∧ Tl x.2.2 x.1 x.2.1) (fun x => 100 - x.1) (0, 0, newC (1 + m)) ⟨rfl, rfl, rfl, rfl, rfl, trivial⟩ ⟨Le.refl _, by omega, by omega, hc, hT0⟩ ?_
  rintro ⟨i, n, c⟩ ρ d3 L3 ⟨hl3, hi, hig, hc3, hT⟩
  simp only at hi hig hc3 hT ⊢
  have hgs3 : RSl 1 RInt d3 gv gs := RInts.mono hgs2 hl3
  by_cases e1 : i < gs.length
  · by_cases e2 : i < 100
    · obtain ⟨k, hk, hk12⟩ := nat_rem gs[i] 12 (by omega)
      replace hk : gs[i] % 18446744073709551616 % 12 = (k : Int) := hk
      (apply w_sq; apply w_sq; apply w_reg; apply w_mvi; rfl; apply w_mv; apply w_lenR; rfl; assumption; apply w_lss; rfl; rfl; apply w_mvb; rfl; refine w_gdT rfl (by omega) ?_; apply w_gT; rfl; apply w_mvi; rfl; apply w_gT; rfl; apply w_lss; rfl; rfl; apply w_pickTb; rfl; rfl; apply w_done0; refine w_ifdT rfl (by omega) ?_; apply w_skip; apply w_sq; apply w_block; apply w_sq; apply w_reg; apply w_mv; apply w_mvi; rfl; refine w_idxR (sz := 1) (R := RInt) (by rfl) (by assumption) (by rfl) rfl (by omega) ?_; rintro _ _ _ _ _ ⟨rfl, _, _⟩; apply w_ld; rfl; exact hc_ds0 (by assumption) rfl; apply w_cviu; rfl; apply w_rem; rfl; rfl; omega; omega; apply w_cvi64; rfl; omega; omega; apply w_mvi; rfl; apply w_done0; apply w_sq; apply w_reg; apply w_mvp; rfl; apply w_mvi; rfl)
      refine gws_env (g := 10) (congrArg (Value.int .i64) hk) ?_
      refine gws_env (g := 45) (congrArg (Value.int .i64) hk) ?_
      refine w_callO (h3.cov (k := k) hc3 (hT.pinB (by omega)) (by omega)) rfl (fun u d4 L4 hl4 ⟨hc4, hg⟩ => ?_)
      rw [devK_cur hk12] at hc4 hg
      cases hr : getF (curK k) c k with
      | mk c' o =>
      rw [hr] at hc4 hg
      simp only at hc4 hg
      have hls4 : RSl 1 RBool d4 lv ls := RSl.mono (fun _ h => h) hls2 (hl3.trans hl4)
      obtain ⟨wa, wn, wc, we, rfl, hw⟩ := hg.form
      (apply w_mvu; rfl; apply w_ext; rfl; rfl; apply w_ext; rfl; rfl; apply w_mvs; rfl; apply w_mvi; rfl; apply w_done0)
      refine w_mid (fun ρ d' L' => ∃ c' n', SlotsAre ρ [(1, gv), (2, lv), (7, .pointer (some ⟨b, 0, none⟩)), (8, .int .i64 (n' : Nat)), (9, .int .i64 (i : Nat))] ∧ Le d2 d' ∧ Cov d' c' devK (.pointer (some ⟨b, 0, none⟩)) L' ∧ Tl c' (i + 1) n') ?_ ?_
      · cases o with
        | none =>
          obtain ⟨rfl, rfl⟩ := hw
          obtain ⟨rfl, -⟩ := get_none hT.inv hr
          (apply w_sq; apply w_reg; apply w_mvi; rfl; apply w_eql; rfl; rfl; apply w_done0; refine w_ifdF rfl (by omega) ?_; apply w_sq; apply w_reg; apply w_mvi; rfl; apply w_neq; rfl; rfl; apply w_mvb; rfl; refine w_gdF rfl (by omega) ?_; apply w_gT; rfl; apply w_mvs; rfl; apply w_gT; rfl; apply w_len; rfl; apply w_gT; rfl; apply w_neq; rfl; rfl; apply w_pickFb; rfl; rfl; apply w_done0; refine w_ifdF rfl (by omega) ?_; apply w_skip)
          exact ⟨c', n, ⟨rfl, rfl, rfl, rfl, rfl, trivial⟩, hl3.trans hl4, hc4, hT.next⟩
        | some bb =>
          obtain ⟨rfl, hwn, hw⟩ := hw
          obtain ⟨hT4, rfl, hp4⟩ := hT.get hk12 hr
          have hbl := curK_len k
          have hw' : RSl 1 RByte d4 (.slice wa wn wc) (curK k) := hw
          have hnle := hT.le
          have hb0 : ((curK k)[0]'(by omega)).toNat = (UInt8.ofNat ((k : Int) % 256).toNat).toNat := congrArg UInt8.toNat (List.getElem_replicate ..)
          have hb1 : ((curK k)[255]'(by omega)).toNat = (UInt8.ofNat ((k : Int) % 256).toNat).toNat := congrArg UInt8.toNat (List.getElem_replicate ..)
          (apply w_sq; apply w_reg; apply w_mvi; rfl; apply w_eql; rfl; rfl; apply w_done0; refine w_ifdT rfl (by omega) ?_; apply w_sq; apply w_reg; apply w_mvi; rfl; apply w_add; rfl; rfl; omega; omega; apply w_mvi; rfl; apply w_done0; apply w_sq; apply w_sq; apply w_reg; apply w_mvs; rfl; apply w_len; rfl; apply w_neq; rfl; rfl; apply w_mvb; rfl; refine w_gdF rfl (by omega) ?_; apply w_gT; rfl; apply w_mvs; rfl; apply w_gT; rfl; refine w_idxR (m := 0) (sz := 1) (R := RByte) (by rfl) (by assumption) (by rfl) rfl (by omega) ?_; rintro _ _ _ _ _ rfl; apply w_gT; rfl; apply w_ld; rfl; exact hc_ds0 (by assumption) rfl; apply w_gT; rfl; apply w_mvi; rfl; apply w_gT; rfl; apply w_cvb; rfl; apply w_gT; rfl; apply w_neq; rfl; rfl; apply w_pickFb; rfl; rfl; apply w_mvb; rfl; refine w_gdF rfl (by omega) ?_; apply w_gT; rfl; apply w_mvs; rfl; apply w_gT; rfl; refine w_idxR (sz := 1) (R := RByte) (by rfl) (by assumption) (by rfl) (Int.natCast_add _ 1).symm (by omega) ?_; rintro _ _ _ _ _ rfl; apply w_gT; rfl; apply w_ld; rfl; exact hc_ds0 (by assumption) rfl; apply w_gT; rfl; apply w_mvi; rfl; apply w_gT; rfl; apply w_cvb; rfl; apply w_gT; rfl; apply w_neq; rfl; rfl; apply w_pickFb; rfl; rfl; apply w_done0)
          refine w_ifdF rfl (fun h => h (congrArg (Nat.cast (R := Int)) hb1)) ?_
          (apply w_skip; apply w_sq; apply w_reg; apply w_mvi; rfl; apply w_mv; apply w_lenR; rfl; assumption; apply w_lss; rfl; rfl; apply w_mvb; rfl)
          by_cases el : i < ls.length
          · cases hli : ls[i] with
            | false =>
              (refine w_gdT rfl (by omega) ?_; apply w_gT; rfl; apply w_mv; apply w_gT; rfl; apply w_mvi; rfl; apply w_gT; rfl; refine w_idxR (sz := 1) (R := RBool) (by rfl) (by assumption) (by rfl) rfl (by omega) ?_; rintro _ _ _ _ _ rfl; apply w_gT; rfl; apply w_ld; rfl; exact hc_ds0 (by assumption) rfl; apply w_pickTb; rfl; rfl; apply w_mvb; rfl; apply w_gbF; rfl; (with_reducible assumption); apply w_gF; rfl; apply w_gF; rfl; apply w_gF; rfl; apply w_gF; rfl; apply w_pickFb; rfl; rfl; apply w_done0; apply w_ifF; rfl; apply w_skip)
              exact ⟨c', n + 1, ⟨rfl, rfl, rfl, rfl, rfl, trivial⟩, hl3.trans hl4, hc4, hT4⟩
            | true =>
              (refine w_gdT rfl (by omega) ?_; apply w_gT; rfl; apply w_mv; apply w_gT; rfl; apply w_mvi; rfl; apply w_gT; rfl; refine w_idxR (sz := 1) (R := RBool) (by rfl) (by assumption) (by rfl) rfl (by omega) ?_; rintro _ _ _ _ _ rfl; apply w_gT; rfl; apply w_ld; rfl; exact hc_ds0 (by assumption) rfl; apply w_pickTb; rfl; rfl; apply w_mvb; rfl; apply w_gbT; rfl; (with_reducible assumption); apply w_gT; rfl; apply w_mvp; rfl; apply w_gT; rfl; apply w_mvi; rfl; apply w_gT; rfl)
              obtain ⟨hT5, e5⟩ := hT4.leave hp4
              refine w_callO (h4.cov (k := k) hc4 (hT4.pinB (by omega))) rfl (fun u d5 L5 hl5 ⟨g1, g2⟩ => ?_)
              rw [e5] at g1
              subst g1
              (apply w_gT; rfl; apply w_neq; rfl; rfl; apply w_pickTb; rfl; rfl; apply w_done0; refine w_ifdF rfl (by omega) ?_; apply w_skip)
              exact ⟨_, n + 1, ⟨rfl, rfl, rfl, rfl, rfl, trivial⟩, (hl3.trans hl4).trans hl5, g2, hT5⟩
          · (refine w_gdF rfl (by omega) ?_; apply w_gF; rfl; apply w_gF; rfl; apply w_gF; rfl; apply w_gF; rfl; apply w_pickFb; rfl; rfl; apply w_mvb; rfl; apply w_gF; rfl; apply w_gF; rfl; apply w_gF; rfl; apply w_gF; rfl; apply w_pickFb; rfl; rfl; apply w_done0; apply w_ifF; rfl; apply w_skip)
            exact ⟨c', n + 1, ⟨rfl, rfl, rfl, rfl, rfl, trivial⟩, hl3.trans hl4, hc4, hT4⟩
      · rintro ρ d5 L5 ⟨c5, n5, hs5, hl5, hc5, hT5⟩
        refine gwp_slots _ hs5 ?_
        have hle := hT5.le
        have hsum := hT5.sum
        (apply w_sq; apply w_sq; apply w_reg; apply w_mvp; rfl)
        refine w_readP (A := L5) (B := []) (by rw [List.append_nil]) rfl (h5.cov hc5) ?_
        rw [wr_eq (by omega)]
        (apply w_mvp; rfl)
        refine w_readP (A := L5) (B := []) (by rw [List.append_nil]) rfl (h6.cov hc5) ?_
        rw [wr_eq (by omega)]
        (apply w_add; rfl; rfl; omega; omega; apply w_mvi; rfl; apply w_neq; rfl; rfl; apply w_done0; refine w_ifdF rfl (by omega) ?_; apply w_skip; apply w_sq; apply w_reg; apply w_aloL; intro _ _; apply w_done0; apply w_sq; apply w_reg; apply w_mvp; rfl)
        rename_i sb Ts
        refine w_callP (A := L5) (B := [bx sb Ts [.bool false, .bool false, .bool false, .bool false, .bool false, .bool false, .bool false, .bool false, .bool false, .bool false, .bool false, .bool false]]) (List.perm_append_comm (l₁ := [_])) rfl
          (h7.cov hc5 (hT5.inv.sec_le (by omega))) (fun hv d6 L6 hl6 ⟨e6, hw6⟩ => ⟨d6, bx sb Ts ((List.replicate 12 false).map Value.bool) :: L5, by subst e6; exact Vs.perm (List.perm_append_comm (l₂ := [_])), ?_⟩)
        subst e6
        have hhl : (heldF c5).length = c5.fr.length := by simp [heldF]
        have hfl := hT5.inv.n2
        have hw6' : RSl 1 RInt d6 hv (heldF c5) := hw6
        obtain ⟨ha, hcp, rfl⟩ := hw6'.val
        (apply w_len; rfl; apply w_mvi; rfl; apply w_done0; apply w_block)
        refine w_loopS (α := Nat × List Bool) (fun x => [(1, gv), (2, lv), (7, .pointer (some ⟨b, 0, none⟩)), (8, .int .i64 n5), (9, .int .i64 i), (13, .pointer (some ⟨sb, 0, none⟩)), (103, .slice ha (heldF c5).length hcp), (104, .int .i64 (heldF c5).length), (105, .int .i64 x.1)])
          (fun x d' L' => d' = d6 ∧ L' = bx sb Ts (x.2.map Value.bool) :: L6 ∧ x.1 ≤ (heldF c5).length ∧ Seen (heldF c5) x.1 x.2) (fun x => (heldF c5).length - x.1) (0, List.replicate 12 false) ⟨rfl, rfl, rfl, rfl, rfl, rfl, rfl, rfl, rfl, trivial⟩
          ⟨rfl, rfl, by omega, List.length_replicate, fun s hs hb => by rw [List.getElem_replicate] at hb; cases hb⟩ ?_
        rintro ⟨j, bs⟩ ρ d' L' ⟨rfl, rfl, hj, hseen⟩
        simp only at hj hseen ⊢
        by_cases ej : j < (heldF c5).length
        · obtain ⟨g1, g2⟩ := hT5.inv.held j ej
          by_cases e0 : 0 ≤ (heldF c5)[j]
          · obtain ⟨s, hs⟩ : ∃ s : Nat, (heldF c5)[j] = (s : Int) := ⟨(heldF c5)[j].toNat, by omega⟩
            have hs12 : s < 12 := by omega
            have hbl := hseen.1
            have hbs : bs[s]'(by omega) = false := by
              cases q : bs[s]'(by omega) with
              | false => rfl
              | true =>
                obtain ⟨j', k1, k2⟩ := hseen.2 s (by omega) q
                obtain ⟨k3, k4⟩ := List.getElem?_eq_some_iff.1 k2
                exact absurd (k4.trans hs.symm) (g2 j' k1 e0)
            have hcell : (bs.map Value.bool)[s]? = some (.bool false) := by rw [List.getElem?_map, List.getElem?_eq_getElem (by omega), hbs]; rfl
            have hcell' : (bs.map Value.bool)[0 + s * 1]? = some (.bool false) := by rw [Nat.zero_add, Nat.mul_one]; exact hcell
            (apply w_sq; apply w_reg; apply w_lss; rfl; rfl; apply w_done0; apply w_sq; refine w_ifdT rfl (by omega) ?_; apply w_skip; apply w_sq; apply w_block; apply w_sq; apply w_reg; refine w_idxR (sz := 1) (R := RInt) (by rfl) (by assumption) (by rfl) rfl (by omega) ?_; rintro _ _ _ _ _ ⟨rfl, _, _⟩; apply w_ld; rfl; exact hc_ds0 (by assumption) rfl; apply w_mvi; rfl; apply w_done0; apply w_sq; apply w_sq; apply w_reg; apply w_mvi; rfl; apply w_geq; rfl; rfl; apply w_mvb; rfl; refine w_gdF rfl (by omega) ?_; apply w_gT; rfl; apply w_mvi; rfl; apply w_gT; rfl; apply w_geq; rfl; rfl; apply w_gT; rfl; apply w_mvb; rfl; refine w_gdT rfl (by omega) ?_; apply w_gT; rfl; apply w_mvi; rfl; apply w_gT; rfl)
            refine w_idxa s rfl rfl hs hs12 ?_
            (apply w_gT; rfl; apply w_ld; rfl; exact hc_i 0 rfl (by assumption); apply w_gT; rfl; apply w_pickTb; rfl; rfl; apply w_pickFb; rfl; rfl; apply w_done0; apply w_ifF; rfl; apply w_skip; apply w_sq; apply w_reg; apply w_mvi; rfl; apply w_geq; rfl; rfl; apply w_done0; refine w_ifdT rfl (by omega) ?_; apply w_reg; apply w_mvi; rfl)
            refine w_idxa s rfl rfl hs hs12 ?_
            refine w_stE 0 ((bs.set s true).map Value.bool) rfl rfl rfl rfl (by rw [List.length_map, hbl]; omega) rfl ?_ ?_
            · rw [Nat.zero_add, Nat.mul_one, List.map_set]
              exact patch_set (by rw [List.length_map]; omega)
            (apply w_done0; apply w_reg; apply w_add; rfl; rfl; omega; omega; apply w_mvi; rfl; apply w_done0)
            exact ⟨(j + 1, bs.set s true), by simp only; omega, ⟨rfl, rfl, rfl, rfl, rfl, rfl, rfl, rfl, rfl, trivial⟩, rfl, rfl, ej, seen_step hseen ej hs12 hs⟩
          · (apply w_sq; apply w_reg; apply w_lss; rfl; rfl; apply w_done0; apply w_sq; refine w_ifdT rfl (by omega) ?_; apply w_skip; apply w_sq; apply w_block; apply w_sq; apply w_reg; refine w_idxR (sz := 1) (R := RInt) (by rfl) (by assumption) (by rfl) rfl (by omega) ?_; rintro _ _ _ _ _ ⟨rfl, _, _⟩; apply w_ld; rfl; exact hc_ds0 (by assumption) rfl; apply w_mvi; rfl; apply w_done0; apply w_sq; apply w_sq; apply w_reg; apply w_mvi; rfl; apply w_geq; rfl; rfl; apply w_mvb; rfl; refine w_gdF rfl (by omega) ?_; apply w_gT; rfl; apply w_mvi; rfl; apply w_gT; rfl; apply w_geq; rfl; rfl; apply w_gT; rfl; apply w_mvb; rfl; refine w_gdF rfl (by omega) ?_; apply w_gF; rfl; apply w_gF; rfl; apply w_gF; rfl; apply w_gT; rfl; apply w_pickFb; rfl; rfl; apply w_pickFb; rfl; rfl; apply w_done0; apply w_ifF; rfl; apply w_skip; apply w_sq; apply w_reg; apply w_mvi; rfl; apply w_geq; rfl; rfl; apply w_done0; refine w_ifdF rfl (by omega) ?_; apply w_skip; apply w_reg; apply w_add; rfl; rfl; omega; omega; apply w_mvi; rfl; apply w_done0)
            exact ⟨(j + 1, bs), by simp only; omega, ⟨rfl, rfl, rfl, rfl, rfl, rfl, rfl, rfl, rfl, trivial⟩, rfl, rfl, ej, seen_next hseen⟩
        · have hd1 : Vs d' (bx sb Ts (bs.map Value.bool) :: L6) d' L6 := Vs.drop (List.sublist_cons_self _ _)
          (apply w_sq; apply w_reg)
          refine w_vs d' L6 hd1 ?_
          (apply w_lss; rfl; rfl; apply w_done0; apply w_sq; refine w_ifdF rfl (by omega) ?_; apply w_exit; apply w_reg; apply w_mvi; rfl; apply w_add; rfl; rfl; omega; omega; apply w_mvi; rfl; apply w_done0)
          exact ⟨(i + 1, n5, c5), by simp only; omega, ⟨rfl, rfl, rfl, rfl, rfl, trivial⟩, hl5.trans hl6, by simp only; omega, by simp only; omega, hc5.mono hl6, hT5⟩
    · (apply w_sq; apply w_sq; apply w_reg; apply w_mvi; rfl; apply w_mv; apply w_lenR; rfl; assumption; apply w_lss; rfl; rfl; apply w_mvb; rfl; refine w_gdT rfl (by omega) ?_; apply w_gT; rfl; apply w_mvi; rfl; apply w_gT; rfl; apply w_lss; rfl; rfl; apply w_pickTb; rfl; rfl; apply w_done0; refine w_ifdF rfl (by omega) ?_; apply w_exit; apply w_sq; apply w_reg; apply w_mvb; rfl; apply w_done0; apply w_ret)
      exact fin1 rfl (List.nil_sublist _) rfl
  · (apply w_sq; apply w_sq; apply w_reg; apply w_mvi; rfl; apply w_mv; apply w_lenR; rfl; assumption; apply w_lss; rfl; rfl; apply w_mvb; rfl; refine w_gdF rfl (by omega) ?_; apply w_gF; rfl; apply w_gF; rfl; apply w_pickFb; rfl; rfl; apply w_done0; apply w_ifF; rfl; apply w_exit; apply w_sq; apply w_reg; apply w_mvb; rfl; apply w_done0; apply w_ret)
    exact fin1 rfl (List.nil_sublist _) rfl
end Go.Gk.Cch
end

section
namespace Go.Gk.Cch
open Go Go.Gk Go.Gk.Dev
attribute [local irreducible] gwp gws xwp

structure Pn (c : CD) (n : Nat) (S : List Nat) (b : Nat) : Prop where
  inv : Inv curK 12 c
  len : c.fr.length = n
  pos : ∀ s ∈ S, 1 ≤ pinOf c s
  zer : ∀ s, s ∉ S → pinOf c s = 0
  bnd : ∀ s, pinOf c s ≤ b
  hit : c.hits ≤ b
theorem Pn.pinB {c : CD} {n b : Nat} {S : List Nat} (h : Pn c n S b) (hb : b ≤ 1000) : PinB c 4611686018427387904 := fun f hf => by
  have := pinB_of h.inv h.bnd f hf; omega
theorem Pn.get {c : CD} {n b k : Nat} {S : List Nat} (h : Pn c n S b) (hS : S.length < n) (hk : k < 12) : ∃ c', getF (curK k) c k = (c', some (curK k)) ∧ Inv curK 12 c' ∧ c'.fr.length = n ∧
    (∀ s, pinOf c' s = if s = k then pinOf c s + 1 else pinOf c s) ∧ c'.hits ≤ c.hits + 1 ∧ (k ∈ S → c'.hits = c.hits + 1) := by
  cases hr : getF (curK k) c k with
  | mk c' o =>
  cases o with
  | none =>
    obtain ⟨-, h2, h3, h4⟩ := get_none h.inv hr
    have := h.inv.full h3 (S := S) (fun i hi => by
      have hheld : (c.at i).held = true := by
        cases q : (c.at i).held with
        | true => rfl
        | false => have := (h.inv.fh i hi).1 q; rw [h3] at this; cases this
      have hp : (c.at i).pins ≠ 0 := by
        have := List.all_eq_true.1 h4 _ (List.getElem_mem hi)
        rw [show c.at i = c.fr[i] from getD_get hi]
        simpa using this
      have e := pinOf_at h.inv hi hheld
      by_cases q : (c.at i).sec ∈ S
      · exact q
      · have := h.zer _ q; omega)
    rw [h.len] at this; omega
  | some b' =>
    obtain ⟨g1, rfl, g3, g4, g5, g6, g7⟩ := get_some h.inv hk hr
    refine ⟨c', rfl, g1, by rw [g5, h.len], g3, ?_, fun hm => ?_⟩
    · split at g6 <;> omega
    · have := h.pos k hm
      cases q : findF k c.fr with
      | none => rw [pinOf, q] at this; simp at this
      | some i => rw [q] at g6; exact g6.1
theorem Pn.more {c : CD} {n b k : Nat} {S : List Nat} (h : Pn c n S b) (hS : S.length < n) (hk : k < 12) : ∃ c', getF (curK k) c k = (c', some (curK k)) ∧ Pn c' n (k :: S) (b + 1) := by
  obtain ⟨c', g1, g2, g3, g4, g5, -⟩ := h.get hS hk
  refine ⟨c', g1, g2, g3, fun s hs => ?_, fun s hs => ?_, fun s => ?_, by have := h.hit; omega⟩
  · rw [g4]
    split
    · omega
    · rename_i q
      rcases List.mem_cons.1 hs with e | hs
      · exact absurd e q
      · exact h.pos s hs
  · rw [g4, if_neg (fun q => hs (by rw [q]; exact List.mem_cons_self ..))]
    exact h.zer s (fun q => hs (List.mem_cons_of_mem _ q))
  · rw [g4]; have := h.bnd s; split <;> omega
theorem Pn.both {c : CD} {n b k : Nat} {S : List Nat} (h : Pn c n S b) (hS : S.length < n) (hk : k < 12) : ∃ c', getF (curK k) c k = (c', some (curK k)) ∧ PinB c' 4611686018427387904 ∨ 1000 < b := by
  by_cases hb : 1000 < b
  · exact ⟨c, .inr hb⟩
  · obtain ⟨c', g1, g2, g3, g4, g5, -⟩ := h.get hS hk
    refine ⟨c', .inl ⟨g1, fun f hf => ?_⟩⟩
    have := pinB_of g2 (m := b + 1) (fun s => by rw [g4]; have := h.bnd s; split <;> omega) f hf
    omega
theorem Pn.leave {c c' : CD} {n b k : Nat} {S : List Nat} (h : Pn c n S b) (g1 : Inv curK 12 c') (g2 : c'.fr.length = n) (g3 : ∀ s, pinOf c' s = if s = k then pinOf c s + 1 else pinOf c s) (g4 : c'.hits ≤ c.hits + 1) :
    Pn (leaveF c' k).1 n S (b + 1) ∧ (leaveF c' k).2 = 0 := by
  obtain ⟨q1, q2, q3, q4, q5, q6, q7⟩ := leave_inv g1 (k := k) (by rw [g3, if_pos rfl]; omega)
  have hp : ∀ s, pinOf (leaveF c' k).1 s = pinOf c s := fun s => by rw [q3, g3]; split <;> omega
  exact ⟨⟨q1, by rw [q4, g2], fun s hs => by rw [hp]; exact h.pos s hs, fun s hs => by rw [hp]; exact h.zer s hs, fun s => by rw [hp]; have := h.bnd s; omega, by rw [q5]; have := h.hit; omega⟩, q2⟩
def secs (p t : Nat) : List Nat := (List.range t).map fun j => (p + j) % 12
def secsR (p t : Nat) : List Nat := ((List.range t).map fun j => (p + j) % 12).reverse
theorem secsR_succ (p t : Nat) : secsR p (t + 1) = ((p + t) % 12) :: secsR p t := by unfold secsR; rw [List.range_succ, List.map_append, List.reverse_append]; rfl
theorem secsR_len (p t : Nat) : (secsR p t).length = t := by simp [secsR]
theorem secsR_mem {p t j : Nat} (h : j < t) : (p + j) % 12 ∈ secsR p t := by
  unfold secsR; rw [List.mem_reverse]; exact List.mem_map.2 ⟨j, List.mem_range.2 h, rfl⟩

def g_thimblelaw18_CachePins (f_thimblelaw18_works f_thimblelaw18_over f_cache_Cache_Get f_cache_Cache_Leave f_cache_Cache_Hits : Nat) : GFun :=
 ⟨109, [(.tmp 6)],
 (.seq
 (.reg false (.op false ⟨(some 6), none, (.mv (.const (.bool false)))⟩ .done))
 (.seq (.seq
 (.reg false (.op false ⟨(some 20), none, (.call f_thimblelaw18_works [])⟩
  (.op false ⟨(some 21), none, (.un .not (.tmp 20))⟩ .done))) (.cond (.tmp 21)
 (.seq
 (.reg false (.op false ⟨(some 6), none, (.mv (.const (.bool false)))⟩ .done)) .ret) .skip))
 (.seq
 (.reg false (.op false ⟨(some 22), none, (.mv (.tmp 0))⟩
  (.op false ⟨(some 23), none, (.cvi .u64 (.tmp 22))⟩
  (.op false ⟨(some 24), none, (.bin .rem (.tmp 23) (.const (.int .u64 6)))⟩
  (.op false ⟨(some 25), none, (.cvi .i64 (.tmp 24))⟩
  (.op false ⟨(some 26), none, (.bin .add (.const (.int .i64 2)) (.tmp 25))⟩
  (.op false ⟨(some 7), none, (.mv (.tmp 26))⟩ .done)))))))
 (.seq
 (.reg false (.op false ⟨(some 27), none, (.mv (.tmp 7))⟩
  (.op false ⟨(some 28), none, (.call f_thimblelaw18_over [(.tmp 27)])⟩
  (.op false ⟨(some 8), none, (.mv (.tmp 28))⟩ .done))))
 (.seq (.seq
 (.reg false (.op false ⟨(some 29), none, (.mv (.tmp 8))⟩
  (.op false ⟨(some 30), none, (.eqp false (.tmp 29) (.const (.pointer none)))⟩ .done))) (.cond (.tmp 30)
 (.seq
 (.reg false (.op false ⟨(some 6), none, (.mv (.const (.bool false)))⟩ .done)) .ret) .skip))
 (.seq (.seq
 (.reg false (.op false ⟨(some 31), none, (.mv (.tmp 7))⟩
  (.op false ⟨(some 32), none, (.bin .sub (.tmp 31) (.const (.int .i64 1)))⟩
  (.op false ⟨(some 33), none, (.mv (.const (.int .i64 0)))⟩ .done)))) (.block 0 (.loop
 (.seq
 (.reg false (.op false ⟨(some 34), none, (.bin .lss (.tmp 33) (.tmp 32))⟩ .done))
 (.seq (.cond (.tmp 34) .skip (.exit 0))
 (.seq (.block 1
 (.seq
 (.reg false (.op false ⟨(some 35), none, (.mv (.tmp 33))⟩
  (.op false ⟨(some 9), none, (.mv (.tmp 35))⟩ .done)))
 (.seq
 (.reg false (.op false ⟨(some 37), none, (.mv (.tmp 8))⟩
  (.op false ⟨(some 38), none, (.mv (.tmp 1))⟩
  (.op false ⟨(some 39), none, (.cvi .u64 (.tmp 38))⟩
  (.op false ⟨(some 40), none, (.bin .rem (.tmp 39) (.const (.int .u64 12)))⟩
  (.op false ⟨(some 41), none, (.cvi .i64 (.tmp 40))⟩
  (.op false ⟨(some 42), none, (.mv (.tmp 9))⟩
  (.op false ⟨(some 43), none, (.bin .add (.tmp 41) (.tmp 42))⟩
  (.op false ⟨(some 44), none, (.bin .rem (.tmp 43) (.const (.int .i64 12)))⟩
  (.op false ⟨(some 45), none, (.call f_cache_Cache_Get [(.tmp 37), (.tmp 44)])⟩
  (.op false ⟨(some 36), none, (.mv (.tmp 45))⟩
  (.op false ⟨(some 46), none, (.ext (.tmp 36) 0)⟩
  (.op false ⟨(some 47), none, (.ext (.tmp 36) 1)⟩
  (.op false ⟨(some 10), none, (.mv (.tmp 46))⟩
  (.op false ⟨(some 11), none, (.mv (.tmp 47))⟩ .done)))))))))))))))
 (.seq
 (.reg false (.op false ⟨(some 48), none, (.mv (.tmp 11))⟩
  (.op false ⟨(some 49), none, (.bin .neq (.tmp 48) (.const (.int .i64 0)))⟩ .done))) (.cond (.tmp 49)
 (.seq
 (.reg false (.op false ⟨(some 6), none, (.mv (.const (.bool false)))⟩ .done)) .ret) .skip)))))
 (.reg false (.op false ⟨(some 50), none, (.bin .add (.tmp 33) (.const (.int .i64 1)))⟩
  (.op false ⟨(some 33), none, (.mv (.tmp 50))⟩ .done)))))))))
 (.seq (.seq
 (.reg false (.op false ⟨(some 12), none, (.mv (.const (.int .i64 0)))⟩ .done)) (.block 2 (.loop
 (.seq (.seq
 (.reg false (.op false ⟨(some 51), none, (.mv (.tmp 12))⟩
  (.op false ⟨(some 52), none, (.mv (.tmp 2))⟩
  (.op false ⟨(some 53), none, (.len (.tmp 52))⟩
  (.op false ⟨(some 54), none, (.bin .lss (.tmp 51) (.tmp 53))⟩
  (.op false ⟨(some 55), none, (.mv (.tmp 54))⟩
  (.op false ⟨(some 56), (some (55, true)), (.mv (.tmp 12))⟩
  (.op false ⟨(some 57), (some (55, true)), (.bin .lss (.tmp 56) (.const (.int .i64 100)))⟩
  (.op false ⟨(some 58), none, (.pick (.tmp 55) (.tmp 57) (.const (.bool false)))⟩ .done))))))))) (.cond (.tmp 58) .skip (.exit 2)))
 (.seq (.block 3
 (.seq
 (.reg false (.op false ⟨(some 61), none, (.mv (.tmp 2))⟩
  (.op false ⟨(some 62), none, (.mv (.tmp 12))⟩
  (.op false ⟨(some 63), none, (.idx 1 (.tmp 61) (.tmp 62))⟩
  (.op false ⟨(some 64), none, (.ld none (.tmp 63))⟩
  (.op false ⟨(some 65), none, (.cvi .u64 (.tmp 64))⟩
  (.op false ⟨(some 66), none, (.bin .rem (.tmp 65) (.const (.int .u64 12)))⟩
  (.op false ⟨(some 67), none, (.cvi .i64 (.tmp 66))⟩
  (.op false ⟨(some 13), none, (.mv (.tmp 67))⟩ .done)))))))))
 (.seq (.seq
 (.reg false (.op false ⟨(some 69), none, (.mv (.tmp 8))⟩
  (.op false ⟨(some 70), none, (.mv (.tmp 13))⟩
  (.op false ⟨(some 71), none, (.call f_cache_Cache_Get [(.tmp 69), (.tmp 70)])⟩
  (.op false ⟨(some 68), none, (.mv (.tmp 71))⟩
  (.op false ⟨(some 72), none, (.ext (.tmp 68) 0)⟩
  (.op false ⟨(some 73), none, (.ext (.tmp 68) 1)⟩
  (.op false ⟨(some 14), none, (.mv (.tmp 72))⟩
  (.op false ⟨(some 15), none, (.mv (.tmp 73))⟩ .done)))))))))
 (.seq
 (.reg false (.op false ⟨(some 74), none, (.mv (.tmp 15))⟩
  (.op false ⟨(some 75), none, (.bin .neq (.tmp 74) (.const (.int .i64 0)))⟩ .done))) (.cond (.tmp 75)
 (.seq
 (.reg false (.op false ⟨(some 6), none, (.mv (.const (.bool false)))⟩ .done)) .ret) .skip)))
 (.seq
 (.reg false (.op false ⟨(some 76), none, (.mv (.tmp 8))⟩
  (.op false ⟨(some 77), none, (.mv (.tmp 13))⟩
  (.op false ⟨(some 78), none, (.call f_cache_Cache_Leave [(.tmp 76), (.tmp 77)])⟩
  (.op false ⟨(some 79), none, (.bin .neq (.tmp 78) (.const (.int .i64 0)))⟩ .done))))) (.cond (.tmp 79)
 (.seq
 (.reg false (.op false ⟨(some 6), none, (.mv (.const (.bool false)))⟩ .done)) .ret) .skip)))))
 (.reg false (.op false ⟨(some 59), none, (.mv (.tmp 12))⟩
  (.op false ⟨(some 60), none, (.bin .add (.tmp 59) (.const (.int .i64 1)))⟩
  (.op false ⟨(some 12), none, (.mv (.tmp 60))⟩ .done)))))))))
 (.seq
 (.reg false (.op false ⟨(some 80), none, (.mv (.tmp 8))⟩
  (.op false ⟨(some 81), none, (.call f_cache_Cache_Hits [(.tmp 80)])⟩
  (.op false ⟨(some 16), none, (.mv (.tmp 81))⟩ .done))))
 (.seq (.seq
 (.reg false (.op false ⟨(some 82), none, (.mv (.tmp 7))⟩
  (.op false ⟨(some 83), none, (.bin .sub (.tmp 82) (.const (.int .i64 1)))⟩
  (.op false ⟨(some 84), none, (.mv (.const (.int .i64 0)))⟩ .done)))) (.block 4 (.loop
 (.seq
 (.reg false (.op false ⟨(some 85), none, (.bin .lss (.tmp 84) (.tmp 83))⟩ .done))
 (.seq (.cond (.tmp 85) .skip (.exit 4))
 (.seq (.block 5
 (.seq
 (.reg false (.op false ⟨(some 86), none, (.mv (.tmp 84))⟩
  (.op false ⟨(some 17), none, (.mv (.tmp 86))⟩ .done)))
 (.seq
 (.reg false (.op false ⟨(some 88), none, (.mv (.tmp 8))⟩
  (.op false ⟨(some 89), none, (.mv (.tmp 1))⟩
  (.op false ⟨(some 90), none, (.cvi .u64 (.tmp 89))⟩
  (.op false ⟨(some 91), none, (.bin .rem (.tmp 90) (.const (.int .u64 12)))⟩
  (.op false ⟨(some 92), none, (.cvi .i64 (.tmp 91))⟩
  (.op false ⟨(some 93), none, (.mv (.tmp 17))⟩
  (.op false ⟨(some 94), none, (.bin .add (.tmp 92) (.tmp 93))⟩
  (.op false ⟨(some 95), none, (.bin .rem (.tmp 94) (.const (.int .i64 12)))⟩
  (.op false ⟨(some 96), none, (.call f_cache_Cache_Get [(.tmp 88), (.tmp 95)])⟩
  (.op false ⟨(some 87), none, (.mv (.tmp 96))⟩
  (.op false ⟨(some 97), none, (.ext (.tmp 87) 0)⟩
  (.op false ⟨(some 98), none, (.ext (.tmp 87) 1)⟩
  (.op false ⟨(some 18), none, (.mv (.tmp 97))⟩
  (.op false ⟨(some 19), none, (.mv (.tmp 98))⟩ .done)))))))))))))))
 (.seq
 (.reg false (.op false ⟨(some 99), none, (.mv (.tmp 19))⟩
  (.op false ⟨(some 100), none, (.bin .neq (.tmp 99) (.const (.int .i64 0)))⟩ .done))) (.cond (.tmp 100)
 (.seq
 (.reg false (.op false ⟨(some 6), none, (.mv (.const (.bool false)))⟩ .done)) .ret) .skip)))))
 (.reg false (.op false ⟨(some 101), none, (.bin .add (.tmp 84) (.const (.int .i64 1)))⟩
  (.op false ⟨(some 84), none, (.mv (.tmp 101))⟩ .done)))))))))
 (.seq
 (.reg false (.op false ⟨(some 102), none, (.mv (.tmp 8))⟩
  (.op false ⟨(some 103), none, (.call f_cache_Cache_Hits [(.tmp 102)])⟩
  (.op false ⟨(some 104), none, (.mv (.tmp 16))⟩
  (.op false ⟨(some 105), none, (.mv (.tmp 7))⟩
  (.op false ⟨(some 106), none, (.bin .add (.tmp 104) (.tmp 105))⟩
  (.op false ⟨(some 107), none, (.bin .sub (.tmp 106) (.const (.int .i64 1)))⟩
  (.op false ⟨(some 108), none, (.bin .eql (.tmp 103) (.tmp 107))⟩
  (.op false ⟨(some 6), none, (.mv (.tmp 108))⟩ .done))))))))) .ret))))))))))⟩

set_option maxRecDepth 4000 in
set_option maxHeartbeats 1000000 in
theorem cachePins {P : Program} {f f1 f2 f3 f4 f5 : FuncId} (hd : dec P f = some (g_thimblelaw18_CachePins f1 f2 f3 f4 f5)) (h1 : CWorksOk P f1) (h2 : OverOk P f2) (h3 : CGetOk P f3) (h4 : CLeaveOk P f4) (h5 : HitsOk P f5)
    {d : PHeap} {fr pi : Int} {gv : Value} {gs : List Int} (hgs : RInts d gv gs) : GCall P f [.int .i64 fr, .int .i64 pi, gv] d [] (Ret fun r _ _ => r = .bool true) := by
  have hz : devK.syn.length = 12 := List.length_replicate
  have hgl := hgs.len_le
  refine GCall_of hd (Nat.le_of_ble_eq_true rfl) ?_
  show gwp P _ _ _ _ _
  (apply w_sq; apply w_reg; apply w_mvb; rfl; apply w_done0; apply w_sq; apply w_sq; apply w_reg)
  refine w_callA (A := []) (B := []) rfl rfl h1 (fun u d1 L1 hl1 ⟨e1, e2⟩ => ?_)
  subst e1; subst e2
  obtain ⟨m, hm, hm6⟩ := nat_rem fr 6 (by omega)
  replace hm : fr % 18446744073709551616 % 6 = (m : Int) := hm
  obtain ⟨p, hp, hp12⟩ := nat_rem pi 12 (by omega)
  replace hp : pi % 18446744073709551616 % 12 = (p : Int) := hp
  obtain ⟨n, hn⟩ : ∃ n : Nat, n = 2 + m := ⟨_, rfl⟩
  (apply w_not; rfl; apply w_done0; apply w_ifF; rfl; apply w_skip; apply w_sq; apply w_reg; apply w_mvi; rfl; apply w_cviu; rfl; apply w_rem; rfl; rfl; omega; omega; apply w_cvi64; rfl; omega; omega; apply w_add; rfl; rfl; omega; omega; apply w_mvi; rfl; apply w_done0; apply w_sq; apply w_reg; apply w_mvi; rfl)
  have hnv : (2 + fr % 18446744073709551616 % 6) = (n : Int) := by omega
  refine gws_env (g := 27) (congrArg (Value.int .i64) hnv) ?_
  refine gws_env (g := 7) (congrArg (Value.int .i64) hnv) ?_
  refine w_callO (h2 (n := n) (by omega) (by omega)) rfl (fun cv d2 L2 hl2 hc => ?_)
  obtain ⟨b, rfl⟩ := hc.ptr
  have hgs2 : RSl 1 RInt d2 gv gs := (hgs.mono hl1).mono hl2
  have hP0 : Pn (newC n) n (secsR p 0) 0 := ⟨inv_new curK 12 _ (by omega) (by omega), List.length_replicate, fun s hs => by simp [secsR] at hs, fun s _ => pin_new _ s, fun s => by rw [show pinOf (newC n) s = 0 from pin_new _ s]; omega, Nat.zero_le _⟩
  (apply w_mvp; rfl; apply w_done0; apply w_sq; apply w_sq; apply w_reg; apply w_mvp; rfl; apply w_eqpS; rfl; rfl; apply w_done0; apply w_ifF; rfl; apply w_skip; apply w_sq; apply w_sq; apply w_reg; apply w_mvi; rfl; apply w_sub; rfl; rfl; omega; omega; apply w_mvi; rfl; apply w_done0; apply w_block)
  refine w_loopS (α := Nat × CD) (fun x => [(1, .int .i64 pi), (2, gv), (7, .int .i64 n), (8, .pointer (some ⟨b, 0, none⟩)), (32, .int .i64 ((n : Int) - 1)), (33, .int .i64 x.1)])
    (fun x d' L' => Le d2 d' ∧ x.1 ≤ n - 1 ∧ Cov d' x.2 devK (.pointer (some ⟨b, 0, none⟩)) L' ∧ Pn x.2 n (secsR p x.1) x.1) (fun x => n - 1 - x.1) (0, newC n) ⟨rfl, rfl, rfl, rfl, rfl, rfl, trivial⟩ ⟨Le.refl _, by omega, hc, hP0⟩ ?_
  rintro ⟨i, c⟩ ρ d3 L3 ⟨hl3, hi, hc3, hP⟩
  simp only at hi hc3 hP ⊢
  by_cases e1 : i < n - 1
  · (apply w_sq; apply w_reg; apply w_lss; rfl; rfl; apply w_done0; apply w_sq; refine w_ifdT rfl (by omega) ?_; apply w_skip; apply w_sq; apply w_block; apply w_sq; apply w_reg; apply w_mvi; rfl; apply w_mvi; rfl; apply w_done0; apply w_sq; apply w_reg; apply w_mvp; rfl; apply w_mvi; rfl; apply w_cviu; rfl; apply w_rem; rfl; rfl; omega; omega; apply w_cvi64; rfl; omega; omega; apply w_mvi; rfl; apply w_add; rfl; rfl; omega; omega; apply w_rem; rfl; rfl; omega; omega)
    have hk12 : (p + i) % 12 < 12 := Nat.mod_lt _ (by omega)
    have hkv : (pi % 18446744073709551616 % 12 + (i : Int)) % 12 = ((p + i) % 12 : Nat) := by omega
    obtain ⟨c', hr, hP'⟩ := hP.more (by rw [secsR_len]; omega) hk12
    refine gws_env (g := 44) (congrArg (Value.int .i64) hkv) ?_
    refine w_callO (h3.cov (k := (p + i) % 12) hc3 (hP.pinB (by omega)) (by omega)) rfl (fun u d4 L4 hl4 ⟨hc4, hg⟩ => ?_)
    rw [devK_cur hk12, hr] at hc4 hg
    obtain ⟨w, rfl, hw⟩ := hg
    (apply w_mvu; rfl; apply w_ext; rfl; rfl; apply w_ext; rfl; rfl; apply w_mv; apply w_mvi; rfl; apply w_done0; apply w_sq; apply w_reg; apply w_mvi; rfl; apply w_neq; rfl; rfl; apply w_done0; refine w_ifdF rfl (by omega) ?_; apply w_skip; apply w_reg; apply w_add; rfl; rfl; omega; omega; apply w_mvi; rfl; apply w_done0)
    exact ⟨(i + 1, c'), by simp only; omega, ⟨rfl, rfl, rfl, rfl, rfl, rfl, trivial⟩, hl3.trans hl4, by simp only; omega, hc4, by simp only; rw [secsR_succ]; exact hP'⟩
  · have ei : i = n - 1 := by omega
    subst ei
    (apply w_sq; apply w_reg; apply w_lss; rfl; rfl; apply w_done0; apply w_sq; refine w_ifdF rfl (by omega) ?_; apply w_exit)
    refine w_mid (fun ρ d' L' => ∃ c' b', SlotsAre ρ [(1, .int .i64 pi), (7, .int .i64 n), (8, .pointer (some ⟨b, 0, none⟩))] ∧ Le d2 d' ∧ Cov d' c' devK (.pointer (some ⟨b, 0, none⟩)) L' ∧ b' ≤ 200 ∧ Pn c' n (secsR p (n - 1)) b') ?_ ?_
    · (apply w_sq; apply w_reg; apply w_mvi; rfl; apply w_done0; apply w_block)
      refine w_loopS (α := Nat × CD) (fun x => [(1, .int .i64 pi), (2, gv), (7, .int .i64 n), (8, .pointer (some ⟨b, 0, none⟩)), (12, .int .i64 x.1)])
        (fun x d' L' => Le d2 d' ∧ x.1 ≤ 100 ∧ Cov d' x.2 devK (.pointer (some ⟨b, 0, none⟩)) L' ∧ Pn x.2 n (secsR p (n - 1)) (n - 1 + x.1)) (fun x => 100 - x.1) (0, c) ⟨rfl, rfl, rfl, rfl, rfl, trivial⟩ ⟨hl3, by omega, hc3, hP⟩ ?_
      rintro ⟨i, c⟩ ρ d3 L3 ⟨hl3, hi, hc3, hP⟩
      simp only at hi hc3 hP ⊢
      have hgs3 : RSl 1 RInt d3 gv gs := RInts.mono hgs2 hl3
      by_cases e3 : i < gs.length
      · by_cases e4 : i < 100
        · obtain ⟨k, hk, hk12⟩ := nat_rem gs[i] 12 (by omega)
          replace hk : gs[i] % 18446744073709551616 % 12 = (k : Int) := hk
          (apply w_sq; apply w_sq; apply w_reg; apply w_mvi; rfl; apply w_mv; apply w_lenR; rfl; assumption; apply w_lss; rfl; rfl; apply w_mvb; rfl; refine w_gdT rfl (by omega) ?_; apply w_gT; rfl; apply w_mvi; rfl; apply w_gT; rfl; apply w_lss; rfl; rfl; apply w_pickTb; rfl; rfl; apply w_done0; refine w_ifdT rfl (by omega) ?_; apply w_skip; apply w_sq; apply w_block; apply w_sq; apply w_reg; apply w_mv; apply w_mvi; rfl; refine w_idxR (sz := 1) (R := RInt) (by rfl) (by assumption) (by rfl) rfl (by omega) ?_; rintro _ _ _ _ _ ⟨rfl, _, _⟩; apply w_ld; rfl; exact hc_ds0 (by assumption) rfl; apply w_cviu; rfl; apply w_rem; rfl; rfl; omega; omega; apply w_cvi64; rfl; omega; omega; apply w_mvi; rfl; apply w_done0; apply w_sq; apply w_sq; apply w_reg; apply w_mvp; rfl; apply w_mvi; rfl)
          refine gws_env (g := 13) (congrArg (Value.int .i64) hk) ?_
          refine gws_env (g := 70) (congrArg (Value.int .i64) hk) ?_
          obtain ⟨c', hr, q1, q2, q3, q4, -⟩ := hP.get (k := k) (by rw [secsR_len]; omega) hk12
          refine w_callO (h3.cov (k := k) hc3 (hP.pinB (by omega)) (by omega)) rfl (fun u d4 L4 hl4 ⟨hc4, hg⟩ => ?_)
          rw [devK_cur hk12, hr] at hc4 hg
          obtain ⟨w, rfl, hw⟩ := hg
          simp only at hc4
          have hpb : PinB c' 4611686018427387904 := fun f hf => by
            have := pinB_of q1 (m := n - 1 + i + 1) (fun s => by rw [q3]; have := hP.bnd s; split <;> omega) f hf
            omega
          obtain ⟨hP5, e5⟩ := hP.leave q1 q2 q3 q4
          (apply w_mvu; rfl; apply w_ext; rfl; rfl; apply w_ext; rfl; rfl; apply w_mv; apply w_mvi; rfl; apply w_done0; apply w_sq; apply w_reg; apply w_mvi; rfl; apply w_neq; rfl; rfl; apply w_done0; refine w_ifdF rfl (by omega) ?_; apply w_skip; apply w_sq; apply w_reg; apply w_mvp; rfl; apply w_mvi; rfl)
          refine w_callO (h4.cov (k := k) hc4 hpb) rfl (fun u d5 L5 hl5 ⟨g1, g2⟩ => ?_)
          rw [e5] at g1
          subst g1
          (apply w_neq; rfl; rfl; apply w_done0; refine w_ifdF rfl (by omega) ?_; apply w_skip; apply w_reg; apply w_mvi; rfl; apply w_add; rfl; rfl; omega; omega; apply w_mvi; rfl; apply w_done0)
          exact ⟨(i + 1, _), by simp only; omega, ⟨rfl, rfl, rfl, rfl, rfl, trivial⟩, (hl3.trans hl4).trans hl5, by simp only; omega, g2, hP5⟩
        · (apply w_sq; apply w_sq; apply w_reg; apply w_mvi; rfl; apply w_mv; apply w_lenR; rfl; assumption; apply w_lss; rfl; rfl; apply w_mvb; rfl; refine w_gdT rfl (by omega) ?_; apply w_gT; rfl; apply w_mvi; rfl; apply w_gT; rfl; apply w_lss; rfl; rfl; apply w_pickTb; rfl; rfl; apply w_done0; refine w_ifdF rfl (by omega) ?_; apply w_exit)
          exact ⟨c, n - 1 + i, ⟨rfl, rfl, rfl, trivial⟩, hl3, hc3, by omega, hP⟩
      · (apply w_sq; apply w_sq; apply w_reg; apply w_mvi; rfl; apply w_mv; apply w_lenR; rfl; assumption; apply w_lss; rfl; rfl; apply w_mvb; rfl; refine w_gdF rfl (by omega) ?_; apply w_gF; rfl; apply w_gF; rfl; apply w_pickFb; rfl; rfl; apply w_done0; apply w_ifF; rfl; apply w_exit)
        exact ⟨c, n - 1 + i, ⟨rfl, rfl, rfl, trivial⟩, hl3, hc3, by omega, hP⟩
    · rintro ρ d5 L5 ⟨c5, b5, hs5, hl5, hc5, hb5, hP5⟩
      refine gwp_slots _ hs5 ?_
      have hh5 := hP5.hit
      (apply w_sq; apply w_reg; apply w_mvp; rfl)
      refine w_readP (A := L5) (B := []) (by rw [List.append_nil]) rfl (h5.cov hc5) ?_
      rw [wr_eq (by omega)]
      (apply w_mvi; rfl; apply w_done0; apply w_sq; apply w_sq; apply w_reg; apply w_mvi; rfl; apply w_sub; rfl; rfl; omega; omega; apply w_mvi; rfl; apply w_done0; apply w_block)
      refine w_loopS (α := Nat × CD) (fun x => [(1, .int .i64 pi), (7, .int .i64 n), (8, .pointer (some ⟨b, 0, none⟩)), (16, .int .i64 c5.hits), (83, .int .i64 ((n : Int) - 1)), (84, .int .i64 x.1)])
        (fun x d' L' => Le d5 d' ∧ x.1 ≤ n - 1 ∧ Cov d' x.2 devK (.pointer (some ⟨b, 0, none⟩)) L' ∧ Pn x.2 n (secsR p (n - 1)) (b5 + x.1) ∧ x.2.hits = c5.hits + x.1) (fun x => n - 1 - x.1) (0, c5) ⟨rfl, rfl, rfl, rfl, rfl, rfl, trivial⟩ ⟨Le.refl _, by omega, hc5, hP5, rfl⟩ ?_
      rintro ⟨i, c⟩ ρ d6 L6 ⟨hl6, hi, hc6, hP6, hh6⟩
      simp only at hi hc6 hP6 hh6 ⊢
      by_cases e6 : i < n - 1
      · (apply w_sq; apply w_reg; apply w_lss; rfl; rfl; apply w_done0; apply w_sq; refine w_ifdT rfl (by omega) ?_; apply w_skip; apply w_sq; apply w_block; apply w_sq; apply w_reg; apply w_mvi; rfl; apply w_mvi; rfl; apply w_done0; apply w_sq; apply w_reg; apply w_mvp; rfl; apply w_mvi; rfl; apply w_cviu; rfl; apply w_rem; rfl; rfl; omega; omega; apply w_cvi64; rfl; omega; omega; apply w_mvi; rfl; apply w_add; rfl; rfl; omega; omega; apply w_rem; rfl; rfl; omega; omega)
        have hk12 : (p + i) % 12 < 12 := Nat.mod_lt _ (by omega)
        have hkv : (pi % 18446744073709551616 % 12 + (i : Int)) % 12 = ((p + i) % 12 : Nat) := by omega
        obtain ⟨c', hr, q1, q2, q3, q4, q5⟩ := hP6.get (by rw [secsR_len]; omega) hk12
        refine gws_env (g := 95) (congrArg (Value.int .i64) hkv) ?_
        refine w_callO (h3.cov (k := (p + i) % 12) hc6 (hP6.pinB (by omega)) (by omega)) rfl (fun u d7 L7 hl7 ⟨hc7, hg⟩ => ?_)
        rw [devK_cur hk12, hr] at hc7 hg
        obtain ⟨w, rfl, hw⟩ := hg
        have hin := secsR_mem (p := p) e6
        have q6 := q5 hin
        (apply w_mvu; rfl; apply w_ext; rfl; rfl; apply w_ext; rfl; rfl; apply w_mv; apply w_mvi; rfl; apply w_done0; apply w_sq; apply w_reg; apply w_mvi; rfl; apply w_neq; rfl; rfl; apply w_done0; refine w_ifdF rfl (by omega) ?_; apply w_skip; apply w_reg; apply w_add; rfl; rfl; omega; omega; apply w_mvi; rfl; apply w_done0)
        refine ⟨(i + 1, c'), by simp only; omega, ⟨rfl, rfl, rfl, rfl, rfl, rfl, trivial⟩, hl6.trans hl7, by simp only; omega, hc7, ⟨q1, q2, fun s hs => ?_, fun s hs => ?_, fun s => ?_, by simp only; omega⟩, by simp only; omega⟩
        · rw [q3]; have := hP6.pos s hs; split <;> omega
        · rw [q3, if_neg (fun q => hs (by rw [q]; exact hin))]; exact hP6.zer s hs
        · rw [q3]; have := hP6.bnd s; split <;> simp only <;> omega
      · (apply w_sq; apply w_reg; apply w_lss; rfl; rfl; apply w_done0; apply w_sq; refine w_ifdF rfl (by omega) ?_; apply w_exit; apply w_sq; apply w_reg; apply w_mvp; rfl)
        refine w_readP (A := L6) (B := []) (by rw [List.append_nil]) rfl (h5.cov hc6) ?_
        rw [wr_eq (by omega)]
        (apply w_mvi; rfl; apply w_mvi; rfl; apply w_add; rfl; rfl; omega; omega; apply w_sub; rfl; rfl; omega; omega; apply w_eql; rfl; rfl; apply w_mvb; rfl; apply w_done0; apply w_ret)
        exact fin1 rfl (List.nil_sublist _) (bool_eq (decide_eq_true (by omega)))
end Go.Gk.Cch
end
