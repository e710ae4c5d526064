/-
  The steps of a walk: one law an instruction, each applied by 'refine'.
-/
import Derived.Test.YtjbpdhljjhpeeaaGk6
namespace Go.Gk
open Go

/-- Where an instruction may look. -/
def lk (tk : Bool) (Ls L : List PHeap) : List PHeap := match tk with | true => Ls | false => Ls ++ L

/-- A cell of the data. -/
def DC (d : PHeap) (b o : Nat) (v : Value) : Prop := ∃ c T fr, d b (.cells c T fr) ∧ c[o]? = some v
/-- Cells of the data, one behind the other. -/
def DCs (d : PHeap) (b o : Nat) (vs : List Value) : Prop := ∃ c T fr, d b (.cells c T fr) ∧ ∀ i u, vs[i]? = some u → c[o + i]? = some u

theorem DCs.at {d : PHeap} {b o : Nat} {vs : List Value} (h : DCs d b o vs) {i : Nat} {u : Value} (hi : vs[i]? = some u) : DC d b (o + i) u :=
  let ⟨c, T, fr, h1, h2⟩ := h
  ⟨c, T, fr, h1, h2 i u hi⟩
theorem DC.mono {d d' : PHeap} {b o : Nat} {v : Value} (h : DC d b o v) (hl : Le d d') : DC d' b o v :=
  let ⟨c, T, fr, h1, h2⟩ := h
  ⟨c, T, fr, hl _ _ h1, h2⟩
theorem DCs.mono {d d' : PHeap} {b o : Nat} {vs : List Value} (h : DCs d b o vs) (hl : Le d d') : DCs d' b o vs :=
  let ⟨c, T, fr, h1, h2⟩ := h
  ⟨c, T, fr, hl _ _ h1, h2⟩
theorem DC.cells {d : PHeap} {b o : Nat} {v : Value} (h : DC d b o v) : DCs d b o [v] :=
  let ⟨c, T, fr, h1, h2⟩ := h
  ⟨c, T, fr, h1, fun i u hi => by
    cases i with
    | zero => simp at hi; subst hi; exact h2
    | succ i => simp at hi⟩
theorem DCs.one {d : PHeap} {b o : Nat} {v : Value} (h : DCs d b o [v]) : DC d b o v := h.at (i := 0) rfl

theorem hc_d {d : PHeap} {Lk : List PHeap} {b o : Nat} {v : Value} (h : DC d b o v) : HC d Lk ⟨b, o, none⟩ v :=
  let ⟨c, T, fr, h1, h2⟩ := h
  ⟨rfl, d, .inl rfl, c, T, fr, h1, h2⟩
theorem hc_ds {d : PHeap} {Lk : List PHeap} {b o : Nat} {vs : List Value} {i : Nat} {v : Value} (h : DCs d b o vs) (hi : vs[i]? = some v) : HC d Lk ⟨b, o + i, none⟩ v := hc_d (h.at hi)
theorem hc_ds0 {d : PHeap} {Lk : List PHeap} {b o : Nat} {vs : List Value} {v : Value} (h : DCs d b o vs) (hi : vs[0]? = some v) : HC d Lk ⟨b, o, none⟩ v := hc_d (h.at hi)
theorem hc_i {d : PHeap} {Lk : List PHeap} {b o : Nat} {v : Value} {T : TypeId} {l : List Value} (i : Nat) (h : Lk[i]? = some (bx b T l)) (ho : l[o]? = some v) : HC d Lk ⟨b, o, none⟩ v :=
  ⟨rfl, bx b T l, .inr (List.mem_of_getElem? h), l.toArray, T, (0, 0), sg_self _ _, by simpa using ho⟩

section
variable {P : Program} {pan : List PanicEntry → Post} {Qn : Env → Post} {Ls L : List PHeap} {ρ : Env} {d : PHeap} {tk : Bool} {s : GS} {t : Nat}

theorem w_vs {g : GOp} (d1 : PHeap) (L1 : List PHeap) (hv : Vs d L d1 L1) : gws P pan Qn (.op false g s) Ls ρ d1 L1 → gws P pan Qn (.op false g s) Ls ρ d L
  | ⟨d2, L2, h1, h2⟩ => ⟨d2, L2, hv.trans h1, h2⟩
theorem w_vsd (d1 : PHeap) (L1 : List PHeap) (hv : Vs d L d1 L1) (h : Qn ρ d1 L1) : gws P pan Qn .done [] ρ d L := ⟨d1, L1, hv, h⟩

/-- A block that is written no more becomes data. -/
theorem w_frz {g : GOp} {h : PHeap} (k : ∀ d', Le d d' → Le h d' → gws P pan Qn (.op false g s) Ls ρ d' L) : gws P pan Qn (.op false g s) Ls ρ d (h :: L) :=
  w_vs (join d h) L Vs.freeze (k _ (Le.join_left d h) (Le.join_right d h))
theorem w_q {q : GI} {v : Value} (hq : q.quiet = true) (hv : evq ρ (HC d (lk tk Ls L)) q v) (h : gws P pan Qn s Ls (upd ρ t v) d L) :
    gws P pan Qn (.op tk ⟨some t, none, q⟩ s) Ls ρ d L := by
  cases tk with
  | true => simp only [gws, gop]; rw [gi_quiet hq]; exact ⟨v, hv, h⟩
  | false => exact ⟨d, L, Vs.refl d L, by simp only [gop]; rw [gi_quiet hq]; exact ⟨v, hv, d, L, Vs.refl d L, h⟩⟩

theorem w_mv {x : Operand} (h : gws P pan Qn s Ls (upd ρ t (ev ρ x)) d L) : gws P pan Qn (.op tk ⟨some t, none, .mv x⟩ s) Ls ρ d L := w_q rfl rfl h
theorem w_mvi {x : Operand} {k : IntKind} {a : Int} (e : ev ρ x = .int k a) (h : gws P pan Qn s Ls (upd ρ t (.int k a)) d L) : gws P pan Qn (.op tk ⟨some t, none, .mv x⟩ s) Ls ρ d L := w_q rfl e.symm h
theorem w_mvb {x : Operand} {a : Bool} (e : ev ρ x = .bool a) (h : gws P pan Qn s Ls (upd ρ t (.bool a)) d L) : gws P pan Qn (.op tk ⟨some t, none, .mv x⟩ s) Ls ρ d L := w_q rfl e.symm h
theorem w_mvs {x : Operand} {a : Option Addr} {n c : Nat} (e : ev ρ x = .slice a n c) (h : gws P pan Qn s Ls (upd ρ t (.slice a n c)) d L) : gws P pan Qn (.op tk ⟨some t, none, .mv x⟩ s) Ls ρ d L := w_q rfl e.symm h
theorem w_mvp {x : Operand} {a : Option Addr} (e : ev ρ x = .pointer a) (h : gws P pan Qn s Ls (upd ρ t (.pointer a)) d L) : gws P pan Qn (.op tk ⟨some t, none, .mv x⟩ s) Ls ρ d L := w_q rfl e.symm h
theorem w_mvt {x : Operand} {l : List UInt8} (e : ev ρ x = strV l) (h : gws P pan Qn s Ls (upd ρ t (strV l)) d L) : gws P pan Qn (.op tk ⟨some t, none, .mv x⟩ s) Ls ρ d L := w_q rfl e.symm h
theorem w_mva {x : Operand} {l : Array Value} (e : ev ρ x = .agg l) (h : gws P pan Qn s Ls (upd ρ t (.agg l)) d L) : gws P pan Qn (.op tk ⟨some t, none, .mv x⟩ s) Ls ρ d L := w_q rfl e.symm h
theorem w_mvu {x : Operand} {l : Array Value} (e : ev ρ x = .tuple l) (h : gws P pan Qn s Ls (upd ρ t (.tuple l)) d L) : gws P pan Qn (.op tk ⟨some t, none, .mv x⟩ s) Ls ρ d L := w_q rfl e.symm h
theorem w_mvf {x : Operand} {f : Fn} {a b : Array Value} (e : ev ρ x = .func f a b) (h : gws P pan Qn s Ls (upd ρ t (.func f a b)) d L) : gws P pan Qn (.op tk ⟨some t, none, .mv x⟩ s) Ls ρ d L := w_q rfl e.symm h
theorem w_pickT {c a b : Operand} {v : Value} (e : ev ρ c = .bool true) (ea : ev ρ a = v) (h : gws P pan Qn s Ls (upd ρ t v) d L) : gws P pan Qn (.op tk ⟨some t, none, .pick c a b⟩ s) Ls ρ d L :=
  w_q rfl ⟨true, e, by simp [ea]⟩ h
theorem w_pickF {c a b : Operand} {v : Value} (e : ev ρ c = .bool false) (eb : ev ρ b = v) (h : gws P pan Qn s Ls (upd ρ t v) d L) : gws P pan Qn (.op tk ⟨some t, none, .pick c a b⟩ s) Ls ρ d L :=
  w_q rfl ⟨false, e, by simp [eb]⟩ h
theorem w_pickTb {c a b : Operand} {v : Bool} (e : ev ρ c = .bool true) (ea : ev ρ a = .bool v) (h : gws P pan Qn s Ls (upd ρ t (.bool v)) d L) : gws P pan Qn (.op tk ⟨some t, none, .pick c a b⟩ s) Ls ρ d L := w_pickT e ea h
theorem w_pickFb {c a b : Operand} {v : Bool} (e : ev ρ c = .bool false) (eb : ev ρ b = .bool v) (h : gws P pan Qn s Ls (upd ρ t (.bool v)) d L) : gws P pan Qn (.op tk ⟨some t, none, .pick c a b⟩ s) Ls ρ d L := w_pickF e eb h
theorem w_fld {x : Operand} {off b o : Nat} (e : ev ρ x = .pointer (some ⟨b, o, none⟩)) (h : gws P pan Qn s Ls (upd ρ t (.pointer (some ⟨b, o + off, none⟩))) d L) :
    gws P pan Qn (.op tk ⟨some t, none, .fld off x⟩ s) Ls ρ d L := w_q rfl ⟨b, o, e, rfl⟩ h
theorem w_ld {x : Operand} {b o : Nat} {v : Value} (e : ev ρ x = .pointer (some ⟨b, o, none⟩)) (hc : HC d (lk tk Ls L) ⟨b, o, none⟩ v) (h : gws P pan Qn s Ls (upd ρ t v) d L) :
    gws P pan Qn (.op tk ⟨some t, none, .ld none x⟩ s) Ls ρ d L := w_q rfl ⟨b, o, e, hc⟩ h
/-- A whole box is loaded. -/
theorem w_ldb {x : Operand} {n b : Nat} {T : TypeId} {l : List Value} (i : Nat) (e : ev ρ x = .pointer (some ⟨b, 0, none⟩)) (hi : (lk tk Ls L)[i]? = some (bx b T l)) (hn : l.length = n)
    (h : gws P pan Qn s Ls (upd ρ t (.agg l.toArray)) d L) : gws P pan Qn (.op tk ⟨some t, none, .ld (some n) x⟩ s) Ls ρ d L :=
  w_q rfl ⟨b, 0, l, e, hn, fun j u hu => by rw [Nat.zero_add]; exact hc_i i hi hu, rfl⟩ h
/-- Cells of the data are loaded. -/
theorem w_ldd {x : Operand} {n b o : Nat} {l : List Value} (e : ev ρ x = .pointer (some ⟨b, o, none⟩)) (hd : DCs d b o l) (hn : l.length = n)
    (h : gws P pan Qn s Ls (upd ρ t (.agg l.toArray)) d L) : gws P pan Qn (.op tk ⟨some t, none, .ld (some n) x⟩ s) Ls ρ d L :=
  w_q rfl ⟨b, o, l, e, hn, fun j u hu => hc_ds hd hu, rfl⟩ h
theorem w_bin {op : BinOp} {x y : Operand} {v : Value} (e : binV op (ev ρ x) (ev ρ y) = some v) (h : gws P pan Qn s Ls (upd ρ t v) d L) :
    gws P pan Qn (.op tk ⟨some t, none, .bin op x y⟩ s) Ls ρ d L := w_q rfl e h
theorem wrap64_eq {a : Int} (h1 : -9223372036854775808 ≤ a) (h2 : a ≤ 9223372036854775807) : IntKind.i64.wrap a = a := by
  simp [IntKind.wrap, IntKind.signed, IntKind.bits]; omega
theorem w_add {x y : Operand} {a b : Int} (ex : ev ρ x = .int .i64 a) (ey : ev ρ y = .int .i64 b) (h1 : -9223372036854775808 ≤ a + b) (h2 : a + b ≤ 9223372036854775807)
    (h : gws P pan Qn s Ls (upd ρ t (.int .i64 (a + b))) d L) : gws P pan Qn (.op tk ⟨some t, none, .bin .add x y⟩ s) Ls ρ d L :=
  w_bin (by rw [ex, ey]; simp [binV, wrap64_eq h1 h2]) h
theorem w_sub {x y : Operand} {a b : Int} (ex : ev ρ x = .int .i64 a) (ey : ev ρ y = .int .i64 b) (h1 : -9223372036854775808 ≤ a - b) (h2 : a - b ≤ 9223372036854775807)
    (h : gws P pan Qn s Ls (upd ρ t (.int .i64 (a - b))) d L) : gws P pan Qn (.op tk ⟨some t, none, .bin .sub x y⟩ s) Ls ρ d L :=
  w_bin (by rw [ex, ey]; simp [binV, wrap64_eq h1 h2]) h
theorem w_mul {x y : Operand} {a b : Int} (ex : ev ρ x = .int .i64 a) (ey : ev ρ y = .int .i64 b) (h1 : -9223372036854775808 ≤ a * b) (h2 : a * b ≤ 9223372036854775807)
    (h : gws P pan Qn s Ls (upd ρ t (.int .i64 (a * b))) d L) : gws P pan Qn (.op tk ⟨some t, none, .bin .mul x y⟩ s) Ls ρ d L :=
  w_bin (by rw [ex, ey]; simp [binV, wrap64_eq h1 h2]) h
theorem w_quo {x y : Operand} {a b : Int} (ex : ev ρ x = .int .i64 a) (ey : ev ρ y = .int .i64 b) (h1 : 0 ≤ a) (h2 : 0 < b) (h3 : a ≤ 9223372036854775807)
    (h : gws P pan Qn s Ls (upd ρ t (.int .i64 (a / b))) d L) : gws P pan Qn (.op tk ⟨some t, none, .bin .quo x y⟩ s) Ls ρ d L := by
  refine w_bin ?_ h
  have h4 : ¬ b = 0 := by omega
  have h5 : a.tdiv b = a / b := Int.tdiv_eq_ediv_of_nonneg h1
  have h6 : 0 ≤ a / b := Int.ediv_nonneg h1 (by omega)
  have h7 : a / b ≤ a := Int.ediv_le_self b h1
  rw [ex, ey]; simp [binV, h4, h5]; exact wrap64_eq (by omega) (by omega)
theorem w_rem {x y : Operand} {k : IntKind} {a b : Int} (ex : ev ρ x = .int k a) (ey : ev ρ y = .int k b) (h1 : 0 ≤ a) (h2 : 0 < b)
    (h : gws P pan Qn s Ls (upd ρ t (.int k (a % b))) d L) : gws P pan Qn (.op tk ⟨some t, none, .bin .rem x y⟩ s) Ls ρ d L := by
  refine w_bin ?_ h
  have h4 : ¬ b = 0 := by omega
  have h5 : a.tmod b = a % b := Int.tmod_eq_emod_of_nonneg h1
  rw [ex, ey]; simp [binV, h4, h5]
theorem w_lss {x y : Operand} {k : IntKind} {a b : Int} (ex : ev ρ x = .int k a) (ey : ev ρ y = .int k b) (h : gws P pan Qn s Ls (upd ρ t (.bool (decide (a < b)))) d L) :
    gws P pan Qn (.op tk ⟨some t, none, .bin .lss x y⟩ s) Ls ρ d L := w_bin (by rw [ex, ey]; simp [binV]) h
theorem w_leq {x y : Operand} {k : IntKind} {a b : Int} (ex : ev ρ x = .int k a) (ey : ev ρ y = .int k b) (h : gws P pan Qn s Ls (upd ρ t (.bool (decide (a ≤ b)))) d L) :
    gws P pan Qn (.op tk ⟨some t, none, .bin .leq x y⟩ s) Ls ρ d L := w_bin (by rw [ex, ey]; simp [binV]) h
theorem w_gtr {x y : Operand} {k : IntKind} {a b : Int} (ex : ev ρ x = .int k a) (ey : ev ρ y = .int k b) (h : gws P pan Qn s Ls (upd ρ t (.bool (decide (b < a)))) d L) :
    gws P pan Qn (.op tk ⟨some t, none, .bin .gtr x y⟩ s) Ls ρ d L := w_bin (by rw [ex, ey]; simp [binV]) h
theorem w_geq {x y : Operand} {k : IntKind} {a b : Int} (ex : ev ρ x = .int k a) (ey : ev ρ y = .int k b) (h : gws P pan Qn s Ls (upd ρ t (.bool (decide (b ≤ a)))) d L) :
    gws P pan Qn (.op tk ⟨some t, none, .bin .geq x y⟩ s) Ls ρ d L := w_bin (by rw [ex, ey]; simp [binV]) h
theorem w_eql {x y : Operand} {k : IntKind} {a b : Int} (ex : ev ρ x = .int k a) (ey : ev ρ y = .int k b) (h : gws P pan Qn s Ls (upd ρ t (.bool (decide (a = b)))) d L) :
    gws P pan Qn (.op tk ⟨some t, none, .bin .eql x y⟩ s) Ls ρ d L := w_bin (by rw [ex, ey]; simp [binV]; rfl) h
theorem w_neq {x y : Operand} {k : IntKind} {a b : Int} (ex : ev ρ x = .int k a) (ey : ev ρ y = .int k b) (h : gws P pan Qn s Ls (upd ρ t (.bool (decide (a ≠ b)))) d L) :
    gws P pan Qn (.op tk ⟨some t, none, .bin .neq x y⟩ s) Ls ρ d L := w_bin (by rw [ex, ey]; simp [binV]; by_cases e : a = b <;> simp [e]) h
theorem toList_mk (l : List UInt8) : (⟨l.toArray⟩ : ByteArray).toList = l := by rw [Lib.toList_data]
theorem w_seq {x y : Operand} {a b : List UInt8} (ex : ev ρ x = strV a) (ey : ev ρ y = strV b) (h : gws P pan Qn s Ls (upd ρ t (.bool (decide (a = b)))) d L) :
    gws P pan Qn (.op tk ⟨some t, none, .bin .eql x y⟩ s) Ls ρ d L := w_bin (by rw [ex, ey]; simp [binV, strV, toList_mk]; by_cases e : a = b <;> simp [e]) h
theorem w_sne {x y : Operand} {a b : List UInt8} (ex : ev ρ x = strV a) (ey : ev ρ y = strV b) (h : gws P pan Qn s Ls (upd ρ t (.bool (decide (a ≠ b)))) d L) :
    gws P pan Qn (.op tk ⟨some t, none, .bin .neq x y⟩ s) Ls ρ d L := w_bin (by rw [ex, ey]; simp [binV, strV, toList_mk]; by_cases e : a = b <;> simp [e]) h
theorem w_slt {x y : Operand} {a b : List UInt8} (ex : ev ρ x = strV a) (ey : ev ρ y = strV b) (h : gws P pan Qn s Ls (upd ρ t (.bool (Op.bytesLess a b))) d L) :
    gws P pan Qn (.op tk ⟨some t, none, .bin .lss x y⟩ s) Ls ρ d L := w_bin (by rw [ex, ey]; simp [binV, strV, toList_mk]) h
theorem w_sle {x y : Operand} {a b : List UInt8} (ex : ev ρ x = strV a) (ey : ev ρ y = strV b) (h : gws P pan Qn s Ls (upd ρ t (.bool (Op.bytesLess a b || decide (a = b)))) d L) :
    gws P pan Qn (.op tk ⟨some t, none, .bin .leq x y⟩ s) Ls ρ d L := w_bin (by rw [ex, ey]; simp [binV, strV, toList_mk]; by_cases e : a = b <;> simp [e]) h
theorem w_sgt {x y : Operand} {a b : List UInt8} (ex : ev ρ x = strV a) (ey : ev ρ y = strV b) (h : gws P pan Qn s Ls (upd ρ t (.bool (!(Op.bytesLess a b || decide (a = b))))) d L) :
    gws P pan Qn (.op tk ⟨some t, none, .bin .gtr x y⟩ s) Ls ρ d L := w_bin (by rw [ex, ey]; simp [binV, strV, toList_mk]; by_cases e : a = b <;> simp [e]) h
theorem w_sge {x y : Operand} {a b : List UInt8} (ex : ev ρ x = strV a) (ey : ev ρ y = strV b) (h : gws P pan Qn s Ls (upd ρ t (.bool (!Op.bytesLess a b))) d L) :
    gws P pan Qn (.op tk ⟨some t, none, .bin .geq x y⟩ s) Ls ρ d L := w_bin (by rw [ex, ey]; simp [binV, strV, toList_mk]) h
theorem w_sadd {x y : Operand} {a b : List UInt8} (ex : ev ρ x = strV a) (ey : ev ρ y = strV b) (hn : a.length + b.length ≤ 9223372036854775807) (h : gws P pan Qn s Ls (upd ρ t (strV (a ++ b))) d L) :
    gws P pan Qn (.op tk ⟨some t, none, .bin .add x y⟩ s) Ls ρ d L := by
  refine w_bin ?_ h
  have hs : ∀ l : List UInt8, (⟨l.toArray⟩ : ByteArray).size = l.length := fun l => by simp [ByteArray.size]
  have : ¬ (((a.length + b.length : Nat) : Int) > IntKind.i64.max) := by
    have : IntKind.i64.max = 9223372036854775807 := by decide
    rw [this]; omega
  rw [ex, ey]
  simp only [binV, strV, hs, if_neg this, Option.some.injEq, Value.string.injEq]
  apply ByteArray.ext
  simp
theorem w_not {x : Operand} {b : Bool} (ex : ev ρ x = .bool b) (h : gws P pan Qn s Ls (upd ρ t (.bool (!b))) d L) : gws P pan Qn (.op tk ⟨some t, none, .un .not x⟩ s) Ls ρ d L :=
  w_q rfl (by simp [evq, unV, ex]) h
theorem w_neg {x : Operand} {a : Int} (ex : ev ρ x = .int .i64 a) (h1 : -9223372036854775807 ≤ a) (h2 : a ≤ 9223372036854775807) (h : gws P pan Qn s Ls (upd ρ t (.int .i64 (-a))) d L) :
    gws P pan Qn (.op tk ⟨some t, none, .un .neg x⟩ s) Ls ρ d L :=
  w_q rfl (by have := wrap64_eq (a := -a) (by omega) (by omega); simp [evq, unV, ex, this]) h
theorem w_cvi {x : Operand} {j k : IntKind} {a : Int} (ex : ev ρ x = .int j a) (h : gws P pan Qn s Ls (upd ρ t (.int k (k.wrap a))) d L) : gws P pan Qn (.op tk ⟨some t, none, .cvi k x⟩ s) Ls ρ d L :=
  w_q rfl ⟨j, a, ex, rfl⟩ h
theorem w_cvi64 {x : Operand} {j : IntKind} {a : Int} (ex : ev ρ x = .int j a) (h1 : -9223372036854775808 ≤ a) (h2 : a ≤ 9223372036854775807) (h : gws P pan Qn s Ls (upd ρ t (.int .i64 a)) d L) :
    gws P pan Qn (.op tk ⟨some t, none, .cvi .i64 x⟩ s) Ls ρ d L := w_cvi ex (by rw [wrap64_eq h1 h2]; exact h)
theorem w_cvi8 {x : Operand} {j : IntKind} {a : Int} (ex : ev ρ x = .int j a) (h1 : 0 ≤ a) (h2 : a ≤ 255) (h : gws P pan Qn s Ls (upd ρ t (.int .u8 a)) d L) :
    gws P pan Qn (.op tk ⟨some t, none, .cvi .u8 x⟩ s) Ls ρ d L := w_cvi ex (by
  have : IntKind.u8.wrap a = a := by simp [IntKind.wrap, IntKind.signed, IntKind.bits]; omega
  rw [this]; exact h)
theorem w_len {x : Operand} {a : Option Addr} {n c : Nat} (ex : ev ρ x = .slice a n c) (h : gws P pan Qn s Ls (upd ρ t (.int .i64 n)) d L) : gws P pan Qn (.op tk ⟨some t, none, .len x⟩ s) Ls ρ d L :=
  w_q rfl ⟨a, n, c, ex, rfl⟩ h
theorem w_lens {x : Operand} {l : List UInt8} (ex : ev ρ x = strV l) (h : gws P pan Qn s Ls (upd ρ t (.int .i64 l.length)) d L) : gws P pan Qn (.op tk ⟨some t, none, .lens x⟩ s) Ls ρ d L :=
  w_q rfl ⟨l, ex, rfl⟩ h
theorem w_cap {x : Operand} {a : Option Addr} {n c : Nat} (ex : ev ρ x = .slice a n c) (h : gws P pan Qn s Ls (upd ρ t (.int .i64 c)) d L) : gws P pan Qn (.op tk ⟨some t, none, .cap x⟩ s) Ls ρ d L :=
  w_q rfl ⟨a, n, c, ex, rfl⟩ h
theorem w_mx2 {x y : Operand} {k : IntKind} {a b : Int} (ex : ev ρ x = .int k a) (ey : ev ρ y = .int k b) (h : gws P pan Qn s Ls (upd ρ t (.int k (max a b))) d L) :
    gws P pan Qn (.op tk ⟨some t, none, .mx2 x y⟩ s) Ls ρ d L := w_q rfl ⟨k, a, b, ex, ey, by congr 1; split <;> omega⟩ h
theorem w_mn2 {x y : Operand} {k : IntKind} {a b : Int} (ex : ev ρ x = .int k a) (ey : ev ρ y = .int k b) (h : gws P pan Qn s Ls (upd ρ t (.int k (min a b))) d L) :
    gws P pan Qn (.op tk ⟨some t, none, .mn2 x y⟩ s) Ls ρ d L := w_q rfl ⟨k, a, b, ex, ey, by congr 1; split <;> omega⟩ h
theorem w_ext {x : Operand} {i : Nat} {vs : Array Value} {v : Value} (ex : ev ρ x = .tuple vs) (e : vs[i]? = some v) (h : gws P pan Qn s Ls (upd ρ t v) d L) :
    gws P pan Qn (.op tk ⟨some t, none, .ext x i⟩ s) Ls ρ d L := w_q rfl ⟨vs, ex, e⟩ h
/-- Where the address of a slice that is not empty is. -/
def SAd (a : Option Addr) (n b o : Nat) : Prop := n ≠ 0 → a = some ⟨b, o, none⟩
theorem SAd.some (n b o : Nat) : SAd (some ⟨b, o, none⟩) n b o := fun _ => rfl
theorem w_idx {x i : Operand} {sz b o n c : Nat} {a : Option Addr} {k : IntKind} {j : Int} (m : Nat) (ex : ev ρ x = .slice a n c) (ei : ev ρ i = .int k j) (hm : j = (m : Int)) (hl : m < n) (hA : SAd a n b o)
    (h : gws P pan Qn s Ls (upd ρ t (.pointer (some ⟨b, o + m * sz, none⟩))) d L) : gws P pan Qn (.op tk ⟨some t, none, .idx sz x i⟩ s) Ls ρ d L := by
  subst hm
  rw [hA (by omega)] at ex
  exact w_q rfl ⟨b, o, n, c, k, m, ex, ei, by omega, by omega, rfl⟩ h
theorem w_sidx {x i : Operand} {l : List UInt8} {k : IntKind} {j : Int} {u : UInt8} (m : Nat) (ex : ev ρ x = strV l) (ei : ev ρ i = .int k j) (hm : j = (m : Int)) (hl : l[m]? = some u)
    (h : gws P pan Qn s Ls (upd ρ t (.int .u8 u.toNat)) d L) : gws P pan Qn (.op tk ⟨some t, none, .sidx x i⟩ s) Ls ρ d L := by
  subst hm
  exact w_q rfl ⟨l, k, m, u, ex, ei, by omega, by simpa using hl, rfl⟩ h
theorem w_mkf {fn : Fn} {first cap : List Operand} (h : gws P pan Qn s Ls (upd ρ t (.func fn (first.map (ev ρ)).toArray (cap.map (ev ρ)).toArray)) d L) :
    gws P pan Qn (.op tk ⟨some t, none, .mkf fn first cap⟩ s) Ls ρ d L := w_q rfl rfl h
theorem w_mki {T : TypeId} {x : Operand} (h : gws P pan Qn s Ls (upd ρ t (.iface T (ev ρ x))) d L) : gws P pan Qn (.op tk ⟨some t, none, .mki T x⟩ s) Ls ρ d L := w_q rfl rfl h
theorem w_bld {pl : List (Nat × Nat)} {z : List Value} {ps : List (Nat × Operand)} {cs : List Value} (e : Instr.fill (pl[·]?) z.toArray (ps.map fun p => (p.1, ev ρ p.2)) = some cs.toArray)
    (h : gws P pan Qn s Ls (upd ρ t (.agg cs.toArray)) d L) : gws P pan Qn (.op tk ⟨some t, none, .bld pl z ps⟩ s) Ls ρ d L := w_q rfl ⟨cs.toArray, e, rfl⟩ h
theorem w_gf {x : Operand} {off : Nat} {cs : Array Value} {v : Value} (ex : ev ρ x = .agg cs) (e : cs[off]? = some v) (h : gws P pan Qn s Ls (upd ρ t v) d L) :
    gws P pan Qn (.op tk ⟨some t, none, .gf none off x⟩ s) Ls ρ d L := w_q rfl ⟨cs, ex, e⟩ h
theorem w_b2s {x : Operand} {a : Option Addr} {n c b o : Nat} {l : List UInt8} (ex : ev ρ x = .slice a n c) (hn : n = l.length) (hA : SAd a n b o)
    (hc : ∀ i u, l[i]? = some u → HC d (lk tk Ls L) ⟨b, o + i, none⟩ (byteV u)) (h : gws P pan Qn s Ls (upd ρ t (strV l)) d L) : gws P pan Qn (.op tk ⟨some t, none, .b2s x⟩ s) Ls ρ d L := by
  subst hn
  refine w_q rfl ⟨a, l, c, ex, ?_, ?_, rfl⟩ h
  · intro e
    cases l with
    | nil => rfl
    | cons u l => have := hA (by simp); rw [e] at this; cases this
  · intro a' e i u hu
    have hl : l.length ≠ 0 := by
      intro h0; have := List.length_eq_zero_iff.1 h0; subst this; simp at hu
    have := hA hl
    rw [e] at this; cases this
    rw [Addr.add_lit]
    exact hc i u hu

theorem w_bcmp {x y : Operand} {l m : List UInt8} (hx : bytesAt (HC d (lk tk Ls L)) (ev ρ x) l) (hy : bytesAt (HC d (lk tk Ls L)) (ev ρ y) m) (h : gws P pan Qn s Ls (upd ρ t (.int .i64 (Lib.compareBytes l m))) d L) :
    gws P pan Qn (.op tk ⟨some t, none, .bcmp x y⟩ s) Ls ρ d L := w_q rfl ⟨l, m, hx, hy, rfl⟩ h

theorem w_nilc {x : Operand} {a : Addr} (ex : ev ρ x = .pointer (some a)) (h : gws P pan Qn s Ls (upd ρ t (.pointer (some a))) d L) : gws P pan Qn (.op tk ⟨some t, none, .nilc x⟩ s) Ls ρ d L :=
  w_q rfl ⟨⟨a, ex⟩, ex.symm⟩ h
theorem w_eqpN {neg : Bool} {x y : Operand} (ex : ev ρ x = .pointer none) (ey : ev ρ y = .pointer none) (h : gws P pan Qn s Ls (upd ρ t (.bool (!neg))) d L) :
    gws P pan Qn (.op tk ⟨some t, none, .eqp neg x y⟩ s) Ls ρ d L := w_q rfl ⟨none, none, ex, ey, .inl rfl, by cases neg <;> rfl⟩ h
theorem w_eqpS {neg : Bool} {x y : Operand} {a : Addr} (ex : ev ρ x = .pointer (some a)) (ey : ev ρ y = .pointer none) (h : gws P pan Qn s Ls (upd ρ t (.bool neg)) d L) :
    gws P pan Qn (.op tk ⟨some t, none, .eqp neg x y⟩ s) Ls ρ d L := w_q rfl ⟨some a, none, ex, ey, .inr (.inl rfl), by cases neg <;> rfl⟩ h
theorem w_eqpS' {neg : Bool} {x y : Operand} {a : Addr} (ex : ev ρ x = .pointer none) (ey : ev ρ y = .pointer (some a)) (h : gws P pan Qn s Ls (upd ρ t (.bool neg)) d L) :
    gws P pan Qn (.op tk ⟨some t, none, .eqp neg x y⟩ s) Ls ρ d L := w_q rfl ⟨none, some a, ex, ey, .inl rfl, by cases neg <;> rfl⟩ h
theorem w_eqsN {neg : Bool} {x y : Operand} {n c n' c' : Nat} (ex : ev ρ x = .slice none n c) (ey : ev ρ y = .slice none n' c') (h : gws P pan Qn s Ls (upd ρ t (.bool (!neg))) d L) :
    gws P pan Qn (.op tk ⟨some t, none, .eqs neg x y⟩ s) Ls ρ d L := w_q rfl ⟨none, n, c, ex, ⟨n', c', ey⟩, by cases neg <;> rfl⟩ h
theorem w_eqsS {neg : Bool} {x y : Operand} {a : Addr} {n c n' c' : Nat} (ex : ev ρ x = .slice (some a) n c) (ey : ev ρ y = .slice none n' c') (h : gws P pan Qn s Ls (upd ρ t (.bool neg)) d L) :
    gws P pan Qn (.op tk ⟨some t, none, .eqs neg x y⟩ s) Ls ρ d L := w_q rfl ⟨some a, n, c, ex, ⟨n', c', ey⟩, by cases neg <;> rfl⟩ h
theorem w_eqb {neg : Bool} {x y : Operand} {a b : Bool} (ex : ev ρ x = .bool a) (ey : ev ρ y = .bool b) (h : gws P pan Qn s Ls (upd ρ t (.bool (neg ^^ (a == b)))) d L) :
    gws P pan Qn (.op tk ⟨some t, none, .eqb neg x y⟩ s) Ls ρ d L := w_q rfl ⟨a, b, ex, ey, rfl⟩ h

/-! ### guards -/
theorem w_gT {g : Nat} {want : Bool} {i : GI} {dst : Option Nat} (e : ρ g = .bool want) (h : gws P pan Qn (.op tk ⟨dst, none, i⟩ s) Ls ρ d L) : gws P pan Qn (.op tk ⟨dst, some (g, want), i⟩ s) Ls ρ d L := by
  cases tk with
  | true => simp only [gws, gop] at h ⊢; exact .inl ⟨want, e, fun _ => h, fun e => by cases want <;> cases e⟩
  | false => obtain ⟨d1, L1, h1, h2⟩ := h; exact ⟨d1, L1, h1, by simp only [gop] at h2 ⊢; exact .inl ⟨want, e, fun _ => h2, fun e => by cases want <;> cases e⟩⟩
theorem w_gFp {g : Nat} {want : Bool} {i : GI} {dst : Option Nat} (e : ρ g = .bool (!want)) (h : gws P pan Qn s Ls (put ρ dst undef) d L) : gws P pan Qn (.op tk ⟨dst, some (g, want), i⟩ s) Ls ρ d L := by
  cases tk with
  | true => simp only [gws, gop] at h ⊢; exact .inl ⟨!want, e, (fun e => by cases want <;> cases e), fun _ => h⟩
  | false => exact ⟨d, L, Vs.refl d L, by simp only [gop]; exact .inl ⟨!want, e, (fun e => by cases want <;> cases e), fun _ => ⟨d, L, Vs.refl d L, h⟩⟩⟩
theorem w_gUp {g : Nat} {want : Bool} {i : GI} {dst : Option Nat} (e : ρ g = undef) (h : gws P pan Qn s Ls (put ρ dst undef) d L) : gws P pan Qn (.op tk ⟨dst, some (g, want), i⟩ s) Ls ρ d L := by
  cases tk with
  | true => simp only [gws, gop] at h ⊢; exact .inr ⟨e, h⟩
  | false => exact ⟨d, L, Vs.refl d L, by simp only [gop]; exact .inr ⟨e, d, L, Vs.refl d L, h⟩⟩
theorem w_gU {g t : Nat} {want : Bool} {i : GI} (e : ρ g = undef) (h : gws P pan Qn s Ls (upd ρ t undef) d L) : gws P pan Qn (.op tk ⟨some t, some (g, want), i⟩ s) Ls ρ d L := w_gUp e h
theorem w_gF {g t : Nat} {want : Bool} {i : GI} (e : ρ g = .bool (!want)) (h : gws P pan Qn s Ls (upd ρ t undef) d L) : gws P pan Qn (.op tk ⟨some t, some (g, want), i⟩ s) Ls ρ d L := w_gFp e h
theorem upd_same {g : Nat} {v : Value} (e : ρ g = v) : upd ρ g v = ρ := by
  funext i
  simp only [upd]
  cases h : Nat.beq i g with
  | false => rfl
  | true => have := Nat.eq_of_beq_eq_true h; subst this; exact e.symm
theorem gws_env {g : Nat} {v : Value} (e : ρ g = v) (h : gws P pan Qn s Ls (upd ρ g v) d L) : gws P pan Qn s Ls ρ d L := by rwa [upd_same e] at h
/-- A guard that is not known: both ways. -/
theorem w_gs {g : Nat} {want b : Bool} {i : GI} {dst : Option Nat} (e : ρ g = .bool b) (h1 : b = true → gws P pan Qn (.op tk ⟨dst, some (g, want), i⟩ s) Ls (upd ρ g (.bool true)) d L)
    (h2 : b = false → gws P pan Qn (.op tk ⟨dst, some (g, want), i⟩ s) Ls (upd ρ g (.bool false)) d L) : gws P pan Qn (.op tk ⟨dst, some (g, want), i⟩ s) Ls ρ d L := by
  cases b with
  | true => exact gws_env e (h1 rfl)
  | false => exact gws_env e (h2 rfl)
theorem w_gsd {g : Nat} {want : Bool} {i : GI} {dst : Option Nat} {p : Prop} [Decidable p] (e : ρ g = .bool (decide p)) (h1 : p → gws P pan Qn (.op tk ⟨dst, some (g, want), i⟩ s) Ls (upd ρ g (.bool true)) d L)
    (h2 : ¬ p → gws P pan Qn (.op tk ⟨dst, some (g, want), i⟩ s) Ls (upd ρ g (.bool false)) d L) : gws P pan Qn (.op tk ⟨dst, some (g, want), i⟩ s) Ls ρ d L :=
  w_gs e (fun h => h1 (of_decide_eq_true h)) (fun h => h2 (of_decide_eq_false h))

theorem w_gdT {g : Nat} {want : Bool} {i : GI} {dst : Option Nat} {p : Prop} [Decidable p] (e : ρ g = .bool (decide p)) (hp : p) (h : gws P pan Qn (.op tk ⟨dst, some (g, want), i⟩ s) Ls (upd ρ g (.bool true)) d L) :
    gws P pan Qn (.op tk ⟨dst, some (g, want), i⟩ s) Ls ρ d L := gws_env (by rw [e]; simp [hp]) h
theorem w_gdF {g : Nat} {want : Bool} {i : GI} {dst : Option Nat} {p : Prop} [Decidable p] (e : ρ g = .bool (decide p)) (hp : ¬ p) (h : gws P pan Qn (.op tk ⟨dst, some (g, want), i⟩ s) Ls (upd ρ g (.bool false)) d L) :
    gws P pan Qn (.op tk ⟨dst, some (g, want), i⟩ s) Ls ρ d L := gws_env (by rw [e]; simp [hp]) h
theorem w_gbT {g : Nat} {want b : Bool} {i : GI} {dst : Option Nat} (e : ρ g = .bool b) (hp : b = true) (h : gws P pan Qn (.op tk ⟨dst, some (g, want), i⟩ s) Ls (upd ρ g (.bool true)) d L) :
    gws P pan Qn (.op tk ⟨dst, some (g, want), i⟩ s) Ls ρ d L := gws_env (by rw [e, hp]) h
theorem w_gbF {g : Nat} {want b : Bool} {i : GI} {dst : Option Nat} (e : ρ g = .bool b) (hp : b = false) (h : gws P pan Qn (.op tk ⟨dst, some (g, want), i⟩ s) Ls (upd ρ g (.bool false)) d L) :
    gws P pan Qn (.op tk ⟨dst, some (g, want), i⟩ s) Ls ρ d L := gws_env (by rw [e, hp]) h

/-! ### the end of a region -/
theorem w_done0 (h : Qn ρ d L) : gws P pan Qn .done [] ρ d L := ⟨d, L, Vs.refl _ _, h⟩
theorem w_done (h : Qn ρ d (Ls ++ L)) : gws P pan Qn .done Ls ρ d L := ⟨d, Ls ++ L, Vs.refl _ _, h⟩
theorem w_bar (h : gws P pan Qn s [] ρ d (Ls ++ L)) : gws P pan Qn (.bar s) Ls ρ d L := h

/-! ### memory -/
theorem w_box {x : Operand} {v : Value} (ex : ev ρ x = v) (h : ∀ b T, gws P pan Qn s Ls (upd ρ t (.pointer (some ⟨b, 0, none⟩))) d (bx b T v.cells.toList :: L)) :
    gws P pan Qn (.op false ⟨some t, none, .box x⟩ s) Ls ρ d L := ⟨d, L, Vs.refl d L, fun b T => ⟨_, _, Vs.refl _ _, by subst ex; exact h b T⟩⟩
theorem w_boxa {x : Operand} {l : List Value} (ex : ev ρ x = .agg l.toArray) (h : ∀ b T, gws P pan Qn s Ls (upd ρ t (.pointer (some ⟨b, 0, none⟩))) d (bx b T l :: L)) :
    gws P pan Qn (.op false ⟨some t, none, .box x⟩ s) Ls ρ d L := w_box ex h
theorem w_alo {z : Value} (h : ∀ b T, gws P pan Qn s Ls (upd ρ t (.pointer (some ⟨b, 0, none⟩))) d (bx b T z.cells.toList :: L)) :
    gws P pan Qn (.op false ⟨some t, none, .alo z⟩ s) Ls ρ d L := ⟨d, L, Vs.refl d L, fun b T => ⟨_, _, Vs.refl _ _, h b T⟩⟩
theorem w_st {n : Nat} {x y : Operand} {b o : Nat} {T : TypeId} {l : List Value} {v : Value} (i : Nat) (hi : L[i]? = some (bx b T l)) (ex : ev ρ x = .pointer (some ⟨b, o, none⟩)) (ey : ev ρ y = v)
    (hn : v.cells.size = n) (hl : o + n ≤ l.length) (h1 : (v.cells.toList.all (·.oneCell')) = true) (h : gws P pan Qn s Ls ρ d (L.set i (bx b T (patch l o v.cells.toList)))) :
    gws P pan Qn (.op false ⟨none, none, .st n x y⟩ s) Ls ρ d L := ⟨d, L, Vs.refl d L, i, b, o, T, l, hi, ex, by rw [ey]; exact hn, hl, by rw [ey]; exact h1, _, _, Vs.refl _ _, by rw [ey]; exact h⟩
theorem w_bsl {n sz : Nat} {z : List Value} {ps : List (Nat × Operand)} {cs : List Value} (hn : n * sz ≤ 16777216) (e : Instr.fill (fun i => some (i * sz, sz)) (zrow z (n * sz)).toArray (ps.map fun p => (p.1, ev ρ p.2)) = some cs.toArray)
    (h : ∀ b T, gws P pan Qn s Ls (upd ρ t (.slice (some ⟨b, 0, none⟩) n n)) d (bx b T cs :: L)) : gws P pan Qn (.op false ⟨some t, none, .bsl n sz z ps⟩ s) Ls ρ d L :=
  ⟨d, L, Vs.refl d L, hn, cs.toArray, e, fun b T => ⟨_, _, Vs.refl _ _, h b T⟩⟩
theorem w_mks {sz by_ : Nat} {z : List Value} {x y : Operand} {k k' : IntKind} {n c : Nat} (ex : ev ρ x = .int k (n : Nat)) (ey : ev ρ y = .int k' (c : Nat)) (h1 : n ≤ c) (h2 : c ≤ 9223372036854775807) (h3 : by_ * c ≤ 281474976710656)
    (h : ∀ b T, gws P pan Qn s Ls (upd ρ t (.slice (some ⟨b, 0, none⟩) n c)) d (bx b T (zrow z (c * sz)) :: L)) : gws P pan Qn (.op false ⟨some t, none, .mks sz by_ z x y⟩ s) Ls ρ d L :=
  ⟨d, L, Vs.refl d L, k, k', n, c, ex, ey, h1, h2, h3, fun b T => ⟨_, _, Vs.refl _ _, h b T⟩⟩

/-! ### calls -/
/-- A callee that wants no block and leaves none. -/
theorem w_call0 {f : FuncId} {args : List Operand} {R : Value → PHeap → List PHeap → Prop} {vs : List Value} (ea : args.map (ev ρ) = vs) (hc : GCall P f vs d [] (Ret R))
    (h : ∀ v d' L', Le d d' → R v d' L' → gws P pan Qn s Ls (upd ρ t v) d' (L' ++ L)) : gws P pan Qn (.op false ⟨some t, none, .call f args⟩ s) Ls ρ d L :=
  ⟨d, L, Vs.refl d L, [], L, Ret R, rfl, by rw [ea]; exact hc, fun e d' L' hl hr => by
    cases e with
    | returned v => exact ⟨_, _, Vs.refl _ _, h v d' L' hl hr⟩
    | panicked c => exact hr.elim
    | outgrown => exact hr⟩
/-- A callee that takes the first n blocks. -/
theorem w_calln (n : Nat) {f : FuncId} {args : List Operand} {R : Value → PHeap → List PHeap → Prop} {vs : List Value} (ea : args.map (ev ρ) = vs) (hc : GCall P f vs d (L.take n) (Ret R))
    (h : ∀ v d' L', Le d d' → R v d' L' → gws P pan Qn s Ls (upd ρ t v) d' (L' ++ L.drop n)) : gws P pan Qn (.op false ⟨some t, none, .call f args⟩ s) Ls ρ d L :=
  ⟨d, L, Vs.refl d L, L.take n, L.drop n, Ret R, by simp, by rw [ea]; exact hc, fun e d' L' hl hr => by
    cases e with
    | returned v => exact ⟨_, _, Vs.refl _ _, h v d' L' hl hr⟩
    | panicked c => exact hr.elim
    | outgrown => exact hr⟩
theorem w_callv (n : Nat) {f : Operand} {g : FuncId} {first cap : Array Value} {args : List Operand} {R : Value → PHeap → List PHeap → Prop} {vs : List Value} (ef : ev ρ f = .func (.func g) first cap)
    (ea : first.toList ++ args.map (ev ρ) ++ cap.toList = vs) (hc : GCall P g vs d (L.take n) (Ret R))
    (h : ∀ v d' L', Le d d' → R v d' L' → gws P pan Qn s Ls (upd ρ t v) d' (L' ++ L.drop n)) : gws P pan Qn (.op false ⟨some t, none, .callv f args⟩ s) Ls ρ d L :=
  ⟨d, L, Vs.refl d L, g, first, cap, L.take n, L.drop n, Ret R, ef, by simp, by rw [ea]; exact hc, fun e d' L' hl hr => by
    cases e with
    | returned v => exact ⟨_, _, Vs.refl _ _, h v d' L' hl hr⟩
    | panicked c => exact hr.elim
    | outgrown => exact hr⟩
end

/-! ### more may follow -/
theorem gop_mono {P : Program} {pan : List PanicEntry → Post} {g : GOp} {ρ : Env} {d : PHeap} {Lk L : List PHeap} {K K' : Env → Post} (hk : ∀ ρ d L, K ρ d L → K' ρ d L) (h : gop P pan g ρ d Lk L K) : gop P pan g ρ d Lk L K' := by
  have key : ∀ i, gi P pan ρ d Lk L (fun v d' L' => K (put ρ g.dst v) d' L') i → gi P pan ρ d Lk L (fun v d' L' => K' (put ρ g.dst v) d' L') i := by
    intro i h
    cases hq : i.quiet with
    | true =>
      rw [gi_quiet hq] at h ⊢
      obtain ⟨v, h1, h2⟩ := h
      exact ⟨v, h1, hk _ _ _ h2⟩
    | false =>
      cases i <;> try (simp [GI.quiet] at hq; done)
      · exact fun b T => hk _ _ _ (h b T)
      · exact fun b T => hk _ _ _ (h b T)
      · obtain ⟨i, b, o, T, l, h1, h2, h3, h4, h5, h6⟩ := h
        exact ⟨i, b, o, T, l, h1, h2, h3, h4, h5, hk _ _ _ h6⟩
      · obtain ⟨h1, cs, h2, h3⟩ := h
        exact ⟨h1, cs, h2, fun b T => hk _ _ _ (h3 b T)⟩
      · obtain ⟨k, k', n, c, h1, h2, h3, h4, h5, h6⟩ := h
        exact ⟨k, k', n, c, h1, h2, h3, h4, h5, fun b T => hk _ _ _ (h6 b T)⟩
      · obtain ⟨sa, n, c, xa, m, xc, news, h1, h2, h3, h4, h5, h6, h7, h8, h9, h10⟩ := h
        refine ⟨sa, n, c, xa, m, xc, news, h1, h2, h3, h4, h5, h6, h7, h8, fun hle => ?_, fun hlt => ?_⟩
        · rcases h9 hle with ⟨a, c⟩ | ⟨i, b, o, T, l, a1, a2, a3, a4⟩
          · exact .inl ⟨a, hk _ _ _ c⟩
          · exact .inr ⟨i, b, o, T, l, a1, a2, a3, hk _ _ _ a4⟩
        · obtain ⟨k1, olds, k2, k3, k4, k5⟩ := h10 hlt
          exact ⟨k1, olds, k2, k3, k4, fun b T c' e1 e2 => hk _ _ _ (k5 b T c' e1 e2)⟩
      · obtain ⟨L1, L2, R, h1, h2, h3⟩ := h
        refine ⟨L1, L2, R, h1, h2, fun e d' L' hl hr => ?_⟩
        have := h3 e d' L' hl hr
        cases e with
        | returned v => exact hk _ _ _ this
        | panicked c => exact this
        | outgrown => exact this
      · obtain ⟨g', first, cap, L1, L2, R, h0, h1, h2, h3⟩ := h
        refine ⟨g', first, cap, L1, L2, R, h0, h1, h2, fun e d' L' hl hr => ?_⟩
        have := h3 e d' L' hl hr
        cases e with
        | returned v => exact hk _ _ _ this
        | panicked c => exact this
        | outgrown => exact this
      · exact h
  unfold gop at h ⊢
  split at h
  · exact key _ h
  · rcases h with ⟨b, h1, h2, h3⟩ | ⟨h1, h2⟩
    · exact .inl ⟨b, h1, fun e => key _ (h2 e), fun e => hk _ _ _ (h3 e)⟩
    · exact .inr ⟨h1, hk _ _ _ h2⟩

theorem gws_mono {P : Program} {pan : List PanicEntry → Post} {Qn Qn' : Env → Post} (hq : ∀ ρ d L, Qn ρ d L → Qn' ρ d L) : ∀ (s : GS) {Ls : List PHeap} {ρ : Env} {d : PHeap} {L : List PHeap}, gws P pan Qn s Ls ρ d L → gws P pan Qn' s Ls ρ d L
  | .done, _, _, _, _, ⟨d1, L1, h1, h2⟩ => ⟨d1, L1, h1, hq _ _ _ h2⟩
  | .op true g s, _, _, _, _, h => gop_mono (fun _ _ _ h => gws_mono hq s h) h
  | .op false g s, _, _, _, _, ⟨d1, L1, h1, h2⟩ => ⟨d1, L1, h1, gop_mono (fun _ _ _ ⟨d3, L3, h3, h⟩ => ⟨d3, L3, h3, gws_mono hq s h⟩) h2⟩
  | .alt g s t, _, _, _, _, ⟨⟨d1, L1, h1, h2⟩, h3⟩ => ⟨⟨d1, L1, h1, gop_mono (fun _ _ _ ⟨d3, L3, h3, h⟩ => ⟨d3, L3, h3, gws_mono hq s h⟩) h2⟩, gws_mono hq t h3⟩
  | .bar s, _, _, _, _, h => gws_mono hq s h

theorem gwp_mono' {P : Program} : ∀ (c : GCode) {Q Q' : GPost} {ρ : Env} {d : PHeap} {L : List PHeap}, gwp P c Q ρ d L → (∀ ρ d L, Q.n ρ d L → Q'.n ρ d L) → (∀ i ρ d L, Q.ex i ρ d L → Q'.ex i ρ d L) →
    (∀ ρ d L, Q.ret ρ d L → Q'.ret ρ d L) → Q.pan = Q'.pan → gwp P c Q' ρ d L
  | .skip, _, _, _, _, _, h, h1, _, _, _ => h1 _ _ _ h
  | .reg false s, _, _, _, _, _, h, h1, _, _, h4 => by simp only [gwp] at h ⊢; rw [← h4]; exact gws_mono h1 s h
  | .reg true s, _, _, _, _, _, h, h1, _, _, h4 => by
    simp only [gwp] at h ⊢
    obtain ⟨d1, Ls, L1, hv, h⟩ := h
    exact ⟨d1, Ls, L1, hv, by rw [← h4]; exact gws_mono h1 s h⟩
  | .seq a b, _, _, _, _, _, h, h1, h2, h3, h4 => by
    simp only [gwp] at h ⊢
    exact gwp_mono' a h (fun ρ d L h => gwp_mono' b h h1 h2 h3 h4) h2 h3 h4
  | .cond c a b, _, _, _, _, _, h, h1, h2, h3, h4 => by
    simp only [gwp] at h ⊢
    obtain ⟨t, ht, ha, hb⟩ := h
    exact ⟨t, ht, fun e => gwp_mono' a (ha e) h1 h2 h3 h4, fun e => gwp_mono' b (hb e) h1 h2 h3 h4⟩
  | .block id a, _, _, _, _, _, h, h1, h2, h3, h4 => by
    simp only [gwp] at h ⊢
    refine gwp_mono' a h h1 (fun i ρ d L h => ?_) h3 h4
    simp only at h ⊢
    split
    · rename_i e; rw [if_pos e] at h; exact h1 _ _ _ h
    · rename_i e; rw [if_neg e] at h; exact h2 _ _ _ _ h
  | .loop a, _, _, _, _, _, h, _, h2, h3, h4 => by
    simp only [gwp] at h ⊢
    obtain ⟨I, hI, round⟩ := h
    exact ⟨I, hI, fun m ρ d L hm => gwp_mono' a (round m ρ d L hm) (fun _ _ _ h => h) h2 h3 h4⟩
  | .exit i, _, _, _, _, _, h, _, h2, _, _ => h2 i _ _ _ h
  | .ret, _, _, _, _, _, h, _, _, h3, _ => h3 _ _ _ h
  | .bad, _, _, _, _, _, h, _, _, _, _ => h.elim

theorem gwp_mono {P : Program} {c : GCode} {Q : GPost} {N N' : Env → Post} (hn : ∀ ρ d L, N ρ d L → N' ρ d L) {ρ : Env} {d : PHeap} {L : List PHeap} (h : gwp P c { Q with n := N } ρ d L) : gwp P c { Q with n := N' } ρ d L :=
  gwp_mono' c h hn (fun _ _ _ _ h => h) (fun _ _ _ h => h) rfl

/-! ### structured code -/
theorem dcs_bx {d : PHeap} {b : Nat} {T : TypeId} {l : List Value} (h : Le (bx b T l) d) : DCs d b 0 l :=
  ⟨l.toArray, T, (0, 0), h _ _ (sg_self _ _), fun i u hu => by simpa using hu⟩
section
variable {P : Program} {Q : GPost} {ρ : Env} {d : PHeap} {L : List PHeap}
theorem w_reg {s : GS} (h : gws P Q.pan Q.n s [] ρ d L) : gwp P (.reg false s) Q ρ d L := h
/-- A region that draws its order, all blocks staying as they are up to its last operations. -/
theorem w_drawn {s : GS} (h : gws P Q.pan Q.n s L ρ d []) : gwp P (.reg true s) Q ρ d L := ⟨d, L, [], by rw [List.append_nil]; exact Vs.refl d L, h⟩
/-- A region that draws its order: the blocks 'is' stay, the blocks 'js' may be written. -/
theorem w_drawnS {s : GS} (is js : List Nat) (hp : (is ++ js).isPerm (List.range L.length) = true) (h : gws P Q.pan Q.n s (pick L is) ρ d (pick L js)) : gwp P (.reg true s) Q ρ d L :=
  ⟨d, pick L is, pick L js, by have := Vs.pick (d := d) (L := L) (is ++ js) hp; simpa [pick] using this, h⟩
theorem w_sq {a b : GCode} (h : gwp P a { Q with n := gwp P b Q } ρ d L) : gwp P (.seq a b) Q ρ d L := h
theorem w_skip (h : Q.n ρ d L) : gwp P .skip Q ρ d L := h
theorem w_ret (h : Q.ret ρ d L) : gwp P .ret Q ρ d L := h
theorem w_exit {i : Nat} (h : Q.ex i ρ d L) : gwp P (.exit i) Q ρ d L := h
theorem w_block {i : Nat} {a : GCode} (h : gwp P a { Q with ex := fun j => if j = i then Q.n else Q.ex j } ρ d L) : gwp P (.block i a) Q ρ d L := h
theorem w_if {c : Operand} {a b : GCode} {t : Bool} (e : ev ρ c = .bool t) (h1 : t = true → gwp P a Q ρ d L) (h2 : t = false → gwp P b Q ρ d L) : gwp P (.cond c a b) Q ρ d L := ⟨t, e, h1, h2⟩
theorem w_ifd {c : Operand} {a b : GCode} {p : Prop} [Decidable p] (e : ev ρ c = .bool (decide p)) (h1 : p → gwp P a Q ρ d L) (h2 : ¬ p → gwp P b Q ρ d L) : gwp P (.cond c a b) Q ρ d L :=
  ⟨decide p, e, fun h => h1 (of_decide_eq_true h), fun h => h2 (of_decide_eq_false h)⟩
theorem w_ifT {c : Operand} {a b : GCode} (e : ev ρ c = .bool true) (h : gwp P a Q ρ d L) : gwp P (.cond c a b) Q ρ d L := ⟨true, e, fun _ => h, fun e => by cases e⟩
theorem w_ifF {c : Operand} {a b : GCode} (e : ev ρ c = .bool false) (h : gwp P b Q ρ d L) : gwp P (.cond c a b) Q ρ d L := ⟨false, e, (fun e => by cases e), fun _ => h⟩
theorem w_ifdT {c : Operand} {a b : GCode} {p : Prop} [Decidable p] (e : ev ρ c = .bool (decide p)) (hp : p) (h : gwp P a Q ρ d L) : gwp P (.cond c a b) Q ρ d L := w_ifT (by rw [e]; simp [hp]) h
theorem w_ifdF {c : Operand} {a b : GCode} {p : Prop} [Decidable p] (e : ev ρ c = .bool (decide p)) (hp : ¬ p) (h : gwp P b Q ρ d L) : gwp P (.cond c a b) Q ρ d L := w_ifF (by rw [e]; simp [hp]) h
theorem w_ifbT {c : Operand} {a b : GCode} {t : Bool} (e : ev ρ c = .bool t) (hp : t = true) (h : gwp P a Q ρ d L) : gwp P (.cond c a b) Q ρ d L := w_ifT (by rw [e, hp]) h
theorem w_ifbF {c : Operand} {a b : GCode} {t : Bool} (e : ev ρ c = .bool t) (hp : t = false) (h : gwp P b Q ρ d L) : gwp P (.cond c a b) Q ρ d L := w_ifF (by rw [e, hp]) h
theorem w_loop {a : GCode} (I : Nat → Env → Post) (m : Nat) (h0 : I m ρ d L) (round : ∀ m ρ d L, I m ρ d L → gwp P a { Q with n := fun ρ d L => ∃ m', m' < m ∧ I m' ρ d L } ρ d L) : gwp P (.loop a) Q ρ d L :=
  ⟨I, ⟨m, h0⟩, round⟩

theorem gwp_env {g : Nat} {v : Value} {c : GCode} (e : ρ g = v) (h : gwp P c Q (upd ρ g v) d L) : gwp P c Q ρ d L := by rwa [upd_same e] at h
/-- The slots of a list hold what the list says. -/
def SlotsAre (ρ : Env) : List (Nat × Value) → Prop
  | [] => True
  | p :: l => ρ p.1 = p.2 ∧ SlotsAre ρ l
def updL (ρ : Env) : List (Nat × Value) → Env
  | [] => ρ
  | p :: l => upd (updL ρ l) p.1 p.2
theorem updL_same {ρ : Env} : ∀ {l : List (Nat × Value)}, SlotsAre ρ l → updL ρ l = ρ
  | [], _ => rfl
  | p :: l, ⟨h1, h2⟩ => by simp only [updL]; rw [updL_same h2]; exact upd_same h1
theorem gwp_slots {c : GCode} (l : List (Nat × Value)) (e : SlotsAre ρ l) (h : gwp P c Q (updL ρ l) d L) : gwp P c Q ρ d L := by rwa [updL_same e] at h
/-- A loop: 'x' is what goes from round to round; 'slots x': what the slots hold; 'inv x': data and blocks. -/
theorem w_loopS {α : Type} {a : GCode} (slots : α → List (Nat × Value)) (inv : α → PHeap → List PHeap → Prop) (meas : α → Nat) (x0 : α) (h0 : SlotsAre ρ (slots x0)) (i0 : inv x0 d L)
    (round : ∀ x ρ d L, inv x d L → gwp P a { Q with n := fun ρ d L => ∃ x', meas x' < meas x ∧ SlotsAre ρ (slots x') ∧ inv x' d L } (updL ρ (slots x)) d L) : gwp P (.loop a) Q ρ d L := by
  refine w_loop (fun m ρ d L => ∃ x, meas x = m ∧ SlotsAre ρ (slots x) ∧ inv x d L) (meas x0) ⟨x0, rfl, h0, i0⟩ ?_
  rintro m ρ d L ⟨x, rfl, h1, h2⟩
  refine gwp_slots _ h1 (gwp_mono (fun ρ' d' L' ⟨x', k1, k2, k3⟩ => ⟨meas x', k1, x', rfl, k2, k3⟩) (round x ρ d L h2))
/-- The same where the data stay, and the blocks are a function of 'x'. -/
theorem w_loopN {α : Type} {a : GCode} (slots : α → List (Nat × Value)) (Lx : α → List PHeap) (ok : α → Prop) (meas : α → Nat) (x0 : α) (h0 : SlotsAre ρ (slots x0)) (hL : L = Lx x0) (hok : ok x0)
    (round : ∀ x ρ, ok x → gwp P a { Q with n := fun ρ d' L' => ∃ x', meas x' < meas x ∧ SlotsAre ρ (slots x') ∧ d' = d ∧ L' = Lx x' ∧ ok x' } (updL ρ (slots x)) d (Lx x)) : gwp P (.loop a) Q ρ d L :=
  w_loopS slots (fun x d' L' => d' = d ∧ L' = Lx x ∧ ok x) meas x0 h0 ⟨rfl, hL, hok⟩ (fun x ρ d' L' ⟨h1, h2, h3⟩ => by subst h1; subst h2; exact round x ρ h3)
/-- Ways meet again: 'M' is what holds there. -/
theorem w_mid {a b : GCode} (M : Env → Post) (h1 : gwp P a { Q with n := M } ρ d L) (h2 : ∀ ρ d L, M ρ d L → gwp P b Q ρ d L) : gwp P (.seq a b) Q ρ d L :=
  w_sq (gwp_mono h2 h1)

/-- All blocks become data. -/
theorem Vs.frzAll (d : PHeap) : ∀ L : List PHeap, ∃ d', Vs d L d' [] ∧ Le d d' ∧ ∀ h ∈ L, Le h d'
  | [] => ⟨d, Vs.refl d [], Le.refl d, fun _ h => by cases h⟩
  | h :: L => by
    obtain ⟨d', h1, h2, h3⟩ := Vs.frzAll (Gk.join d h) L
    refine ⟨d', Vs.freeze.trans h1, (Le.join_left d h).trans h2, fun k hk => ?_⟩
    rcases List.mem_cons.1 hk with rfl | hk
    · exact (Le.join_right d k).trans h2
    · exact h3 k hk

/-! ### the end -/
theorem fin1F {R : Ending → PHeap → List PHeap → Prop} {t : Nat} {v : Value} (e : ρ t = v) (h : ∀ d', Le d d' → (∀ k ∈ L, Le k d') → R (.returned v) d' []) : retPost [.tmp t] R ρ d L :=
  let ⟨d', h1, h2, h3⟩ := Vs.frzAll d L
  ⟨[v], ⟨e.symm, trivial⟩, d', [], h1, h d' h2 h3⟩
theorem fin2F {R : Ending → PHeap → List PHeap → Prop} {t u : Nat} {v w : Value} (e : ρ t = v) (e' : ρ u = w) (h : ∀ d', Le d d' → (∀ k ∈ L, Le k d') → R (.returned (.tuple #[v, w])) d' []) : retPost [.tmp t, .tmp u] R ρ d L :=
  let ⟨d', h1, h2, h3⟩ := Vs.frzAll d L
  ⟨[v, w], ⟨e.symm, e'.symm, trivial⟩, d', [], h1, h d' h2 h3⟩
theorem fin1 {R : Ending → PHeap → List PHeap → Prop} {t : Nat} {v : Value} {L' : List PHeap} (e : ρ t = v) (hs : L'.Sublist L) (h : R (.returned v) d L') : retPost [.tmp t] R ρ d L :=
  ⟨[v], ⟨e.symm, trivial⟩, d, L', Vs.drop hs, h⟩
theorem fin1n {R : Ending → PHeap → List PHeap → Prop} {t : Nat} {v : Value} (e : ρ t = v) (h : R (.returned v) d []) : retPost [.tmp t] R ρ d L := fin1 e (List.nil_sublist L) h
theorem fin2 {R : Ending → PHeap → List PHeap → Prop} {t u : Nat} {v w : Value} {L' : List PHeap} (e : ρ t = v) (e' : ρ u = w) (hs : L'.Sublist L) (h : R (.returned (.tuple #[v, w])) d L') : retPost [.tmp t, .tmp u] R ρ d L :=
  ⟨[v, w], ⟨e.symm, e'.symm, trivial⟩, d, L', Vs.drop hs, h⟩
theorem fin2n {R : Ending → PHeap → List PHeap → Prop} {t u : Nat} {v w : Value} (e : ρ t = v) (e' : ρ u = w) (h : R (.returned (.tuple #[v, w])) d []) : retPost [.tmp t, .tmp u] R ρ d L := fin2 e e' (List.nil_sublist L) h
end

end Go.Gk
