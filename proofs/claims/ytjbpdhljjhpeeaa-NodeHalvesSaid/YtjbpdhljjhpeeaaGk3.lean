/-
  What each instruction does is what the program's operation does.
-/
import Derived.Test.YtjbpdhljjhpeeaaGk2
namespace Go.Gk
open Go

theorem info_run {P : Program} {t : TypeId} {i : TypeInfo} (h : P.info? t = some i) (w : World) : (typeInfo t).run P w = .ok i w := by
  simp [typeInfo, h]
theorem size_run {P : Program} {t : TypeId} {i : TypeInfo} (h : P.info? t = some i) (w : World) : (sizeOf t).run P w = .ok i.size w := by
  simp [sizeOf, info_run h]
theorem zero_run {P : Program} {t : TypeId} {i : TypeInfo} {z : Value} (h : P.info? t = some i) (hz : i.zero = some z) (w : World) : (zeroValue t).run P w = .ok z w := by
  simp [zeroValue, info_run h, hz]

/-! ### Reading -/
theorem run_ld1 {P : Program} {t : TypeId} (ht : aggOf P t = some none) (a : Addr) (v : Value) (W : World) (hc : W.cell? a = some v) :
    (Instr.loadAt t (.pointer (some a))).run P W = .ok v W := by
  have hu : ∃ d, P.underlying t = some d ∧ (match d with | .struct _ | .array _ _ => true | _ => false) = false := by
    unfold aggOf at ht
    split at ht <;> simp_all
  obtain ⟨d, hu, hd⟩ := hu
  simp only [Instr.loadAt, Instr.sureAddr, loadVar, isAgg, Sem.run_bind, run_underlying hu, Sem.run_pure, Result.andThen]
  cases d <;> simp_all

theorem run_ldn {P : Program} {t : TypeId} {n : Nat} (ht : aggOf P t = some (some n)) (b o : Nat) (cs : List Value) (hl : cs.length = n) (W : World)
    (hc : ∀ i u, cs[i]? = some u → W.cell? ⟨b, o + i, none⟩ = some u) :
    (Instr.loadAt t (.pointer (some ⟨b, o, none⟩))).run P W = .ok (.agg cs.toArray) W := by
  have hu : ∃ d i, P.underlying t = some d ∧ P.info? t = some i ∧ i.size = n ∧ (match d with | .struct _ | .array _ _ => true | _ => false) = true := by
    unfold aggOf at ht
    split at ht <;> simp_all
  obtain ⟨d, i, hu, hi, hn, hd⟩ := hu
  subst hl
  have hr := run_loadCells_list (P := P) W ⟨b, o, none⟩ cs (fun j v hj => by rw [Addr.add_lit]; exact hc j v hj)
  simp only [Instr.loadAt, Instr.sureAddr, loadVar, isAgg, Sem.run_bind, run_underlying hu, Sem.run_pure, Result.andThen]
  cases d <;> simp_all [size_run hi]

theorem binV_run {P : Program} {op : BinOp} {x y v : Value} (h : binV op x y = some v) (W : World) : (binOp op 0 x y).run P W = .ok v W := by
  unfold binV at h
  split at h
  · split at h
    · cases h
    · rename_i hn; simp_all [binOp, Op.shift, if_neg hn] <;> (try (intro hh; omega))
  · split at h
    · cases h
    · rename_i hn; simp_all [binOp, Op.shift, if_neg hn] <;> (try (intro hh; omega))
  · rename_i k a k' b _ _
    split at h
    · cases h
    · rename_i hk
      simp only [ne_eq, Decidable.not_not] at hk
      subst hk
      cases op <;> simp_all [binOp, Op.intArith, Op.intDiv, Op.intBits, Op.intCmp]
  · cases op <;> simp_all [binOp, Op.stringOp] <;> (split at h <;> simp_all)
  · cases h

theorem binV_op (op : BinOp) (t t' : TypeId) (x y : Value) (v : Value) (h : binV op x y = some v) : binOp op t x y = binOp op t' x y := by
  unfold binV at h
  split at h <;> first | (simp [binOp]; done) | (cases op <;> simp [binOp]; done) | cases h

theorem unV_run {P : Program} {op : UnOp} {x v : Value} (h : unV op x = some v) (W : World) : (Op.unary op x).run P W = .ok v W := by
  unfold unV at h
  split at h <;> simp_all [Op.unary, Op.intArith, Op.intBits]

theorem run_bound {P : Program} {k : IntKind} {i : Int} {y : Nat} (h : 0 ≤ i ∧ i ≤ y) (c : BoundsCode) (W : World) : (Instr.sliceBound (.int k i) y c).run P W = .ok i.toNat W := by
  simp [Instr.sliceBound, asIntOf, h]

theorem bnd_run {P : Program} {x : Value} {y r : Nat} (h : bnd x y = some r) (c : BoundsCode) (W : World) : (Instr.sliceBound x y c).run P W = .ok r W := by
  cases x <;> simp [bnd] at h
  rename_i k i
  obtain ⟨⟨h1, h2⟩, rfl⟩ := h
  exact run_bound ⟨h1, h2⟩ c W

theorem bnd_le {v : Value} {n i : Nat} (h : bnd v n = some i) : i ≤ n := by
  unfold bnd at h
  split at h
  · split at h
    · rename_i hh; simp at h; omega
    · cases h
  · cases h
theorem cut_le {n c : Nat} {lo hi mx : Option Value} {l h m : Nat} (e : cutV n c lo hi mx = some (l, h, m)) : m ≤ c ∧ (l ≤ h) ∧ (n ≤ c → h ≤ m ∨ h = n) := by
  simp only [cutV, Option.bind_eq_some_iff, Option.map_eq_some_iff, Prod.mk.injEq] at e
  obtain ⟨m', hm, h', hh, l', hl, rfl, rfl, rfl⟩ := e
  refine ⟨?_, ?_, ?_⟩
  · unfold cutM at hm
    split at hm
    · exact bnd_le hm
    · cases hm; exact Nat.le_refl _
  · unfold cutL at hl
    split at hl
    · exact bnd_le hl
    · cases hl; exact Nat.zero_le _
  · intro _
    unfold cutH at hh
    split at hh
    · exact .inl (bnd_le hh)
    · split at hh
      · cases hh
      · cases hh; exact .inr rfl
theorem cutV_run {P : Program} (isS : Bool) (n c : Nat) (lo hi mx : Option Value) (l h m : Nat) (e : cutV n c lo hi mx = some (l, h, m)) (W : World) :
    (Instr.sliceBounds isS n c lo hi mx).run P W = .ok (l, h, m) W := by
  simp only [cutV, Option.bind_eq_some_iff, Option.map_eq_some_iff, Prod.mk.injEq] at e
  obtain ⟨m', hm, h', hh, l', hl, rfl, rfl, rfl⟩ := e
  have hl' : ∀ w cd, lo = some w → (Instr.sliceBound w h' cd).run P W = .ok l' W := fun w cd e => bnd_run (by subst e; exact hl) cd W
  have hl0 : lo = none → l' = 0 := fun e => by subst e; simp [cutL] at hl; exact hl.symm
  cases mx with
  | none =>
    simp [cutM] at hm; subst hm
    cases hi with
    | none =>
      simp [cutH] at hh; subst hh
      cases lo with
      | none => simp [Instr.sliceBounds, hl0 rfl]
      | some w => simp [Instr.sliceBounds, hl' w _ rfl]
    | some v =>
      have := fun cd => bnd_run (P := P) hh cd W
      cases lo with
      | none => simp [Instr.sliceBounds, this, hl0 rfl]
      | some w => simp [Instr.sliceBounds, this, hl' w _ rfl]
  | some x =>
    have hx := fun cd => bnd_run (P := P) (show bnd x c = some m' from hm) cd W
    cases hi with
    | none => simp [cutH] at hh
    | some v =>
      have := fun cd => bnd_run (P := P) hh cd W
      cases lo with
      | none => simp [Instr.sliceBounds, hx, this, hl0 rfl]
      | some w => simp [Instr.sliceBounds, hx, this, hl' w _ rfl]

theorem foldl_bytes : ∀ (l : List UInt8) (r : ByteArray), ((l.map fun b => ((b.toNat : Nat) : Int)).foldl (fun (r : ByteArray) n => r.push (UInt8.ofNat n.toNat)) r) = ⟨(r.data.toList ++ l).toArray⟩
  | [], r => by simp
  | b :: l, r => by
    simp only [List.map_cons, List.foldl_cons]
    rw [foldl_bytes l]
    simp [ByteArray.push]

theorem run_b2s {P : Program} (a : Option Addr) (l : List UInt8) (c : Nat) (W : World) (h0 : a = none → l = [])
    (hc : ∀ a', a = some a' → ∀ i u, l[i]? = some u → W.cell? (a'.add i) = some (byteV u)) :
    (Conv.bytesToString (.slice a l.length c)).run P W = .ok (strV l) W := by
  cases a with
  | none => have := h0 rfl; subst this; simp [Conv.bytesToString, strV]; rfl
  | some a =>
    have hr := run_loadCells_list (P := P) W a (l.map byteV) (fun j v hj => by
      rw [List.getElem?_map] at hj
      cases e : l[j]? with
      | none => rw [e] at hj; cases hj
      | some u => rw [e] at hj; simp at hj; subst hj; exact hc a rfl j u e)
    rw [List.length_map] at hr
    have hm : l.map byteV = (l.map fun b => ((b.toNat : Nat) : Int)).map (Value.int .u8) := by simp [byteV]
    rw [hm] at hr
    rw [run_bytesToString W _ _ _ _ hr, foldl_bytes]
    simp [strV]

theorem equal_eq (t : TypeId) (x y : Value) : Op.equal t x y = Op.equalIn (9999 + 1) t x y := rfl

theorem eqIn_bool {P : Program} {t : TypeId} (d : Nat) (a b : Bool) (hu : P.underlying t = some .bool) (W : World) : (Op.equalIn (d + 1) t (.bool a) (.bool b)).run P W = .ok (a == b) W := by
  simp [Op.equalIn, run_underlying hu]
theorem eqIn_ptr {P : Program} {t e : TypeId} {i : TypeInfo} (d : Nat) (a b : Option Addr) (hu : P.underlying t = some (.pointer e)) (hi : P.info? e = some i) (hn : ¬ i.size = 0)
    (hab : a = none ∨ b = none ∨ a.map (·.block) = b.map (·.block)) (W : World) : (Op.equalIn (d + 1) t (.pointer a) (.pointer b)).run P W = .ok (a == b) W := by
  simp only [Op.equalIn, Sem.run_bind, run_underlying hu, Result.andThen]
  cases a with
  | none => cases b <;> simp
  | some a =>
    cases b with
    | none => simp
    | some b =>
      simp at hab
      simp [size_run hi, hn, sameAddr, hab]
theorem eqIn_slice {P : Program} {t e : TypeId} (d : Nat) (a : Option Addr) (n c n' c' : Nat) (hu : P.underlying t = some (.slice e)) (W : World) :
    (Op.equalIn (d + 1) t (.slice a n c) (.slice none n' c')).run P W = .ok a.isNone W := by
  simp only [Op.equalIn, Sem.run_bind, run_underlying hu, Result.andThen]
  cases a <;> simp

theorem bin_sound {P : Program} {dst : Option Tmp} {op : BinOp} {t yt type : TypeId} {x y : Operand} {pos : String} {after : Array Edge} {guard : Option (Nat × Bool)} {g : GI}
    (hd : decI P ⟨dst, .binOp op t x y yt, type, pos, after, guard⟩ = some g) {ρ : Env} {C : Addr → Value → Prop} {v : Value} (h : evq ρ C g v) {E : Operand → Value}
    (hx : E x = ev ρ x) (hy : E y = ev ρ y) {W : World} : (execOp E ⟨dst, .binOp op t x y yt, type, pos, after, guard⟩).run P W = .ok (.value v) W := by
  simp only [decI] at hd
  have plain : ∀ v, binV op (ev ρ x) (ev ρ y) = some v → (execOp E ⟨dst, .binOp op t x y yt, type, pos, after, guard⟩).run P W = .ok (.value v) W := by
    intro v hv
    have hg : (eqGuard op t x y (ev ρ x) (ev ρ y)).run P W = .ok () W := by
      unfold eqGuard
      unfold binV at hv
      split at hv <;> simp_all <;> split <;> simp
    simp [execOp, hx, hy, hg, binV_op op t 0 _ _ v hv, binV_run hv]
  have cmp : ∀ (neg : Bool), (op = .eql ∧ neg = false ∨ op = .neq ∧ neg = true) → ∀ (a b : Value) (r : Bool), (∀ (e : BinOp), eqGuard e t x y a b = pure ()) →
      ev ρ x = a → ev ρ y = b → (binOp .eql t a b = do pure (.bool (← Op.equal t a b))) → (binOp .neq t a b = do pure (.bool (!(← Op.equal t a b)))) → (Op.equal t a b).run P W = .ok r W →
      (execOp E ⟨dst, .binOp op t x y yt, type, pos, after, guard⟩).run P W = .ok (.value (.bool (neg ^^ r))) W := by
    intro neg ho a b r hg ha hb h1 h2 hr
    rcases ho with ⟨rfl, rfl⟩ | ⟨rfl, rfl⟩ <;> simp [execOp, hx, hy, ha, hb, hg, h1, h2, hr]
  have cmps : ∀ (neg : Bool) (g' : GI), (op = .eql ∧ neg = false ∨ op = .neq ∧ neg = true) → (match P.underlying t with
    | some (.int _) | some .string => some (GI.bin op x y)
    | some .bool => some (.eqb neg x y)
    | some (.pointer e) => match P.info? e with | some i => if i.size = 0 then none else some (.eqp neg x y) | none => none
    | some (.slice _) => some (.eqs neg x y)
    | _ => none) = some g' → evq ρ C g' v → (execOp E ⟨dst, .binOp op t x y yt, type, pos, after, guard⟩).run P W = .ok (.value v) W := by
    intro neg g' ho hd h
    split at hd <;> try cases hd
    · exact plain v h
    · exact plain v h
    · rename_i hu
      simp only [evq] at h; obtain ⟨a, b, ha, hb, rfl⟩ := h
      refine cmp neg ho _ _ _ (fun e => by simp [eqGuard]) ha hb (by simp [binOp]) (by simp [binOp]) ?_
      exact eqIn_bool 9999 a b hu W
    · rename_i e hu
      split at hd <;> try cases hd
      rename_i i hi
      split at hd <;> try cases hd
      rename_i hn
      simp only [evq] at h; obtain ⟨a, b, ha, hb, hab, rfl⟩ := h
      refine cmp neg ho _ _ _ (fun e => by simp [eqGuard]) ha hb (by simp [binOp]) (by simp [binOp]) ?_
      exact eqIn_ptr 9999 a b hu hi hn hab W
    · rename_i e hu
      simp only [evq] at h; obtain ⟨a, n, c, ha, ⟨n', c', hb⟩, rfl⟩ := h
      refine cmp neg ho _ _ _ (fun e => by simp [eqGuard]) ha hb (by simp [binOp]) (by simp [binOp]) ?_
      exact eqIn_slice 9999 a n c n' c' hu W
  cases op <;> simp only at hd
  case eql => exact cmps false g (.inl ⟨rfl, rfl⟩) hd h
  case neq => exact cmps true g (.inr ⟨rfl, rfl⟩) hd h
  all_goals (simp at hd; subst hd; exact plain v h)

theorem spot_none {W : World} {a : Addr} {v : Value} (h : W.cell? a = some v) : a.spot = none := by
  unfold World.cell? at h
  split at h
  · split at h
    · cases h
    · rename_i hs; simpa using hs
  · cases h
theorem add_zero (a : Addr) : a.add 0 = a := by simp [Addr.add]

theorem loadBytes_run {P : Program} (b o : Nat) (W : World) : ∀ (l : List UInt8) (i : Nat) (r : ByteArray), (∀ j u, l[j]? = some u → W.cell? ⟨b, o + (i + j), none⟩ = some (byteV u)) →
    (Extern.Bytes.loadBytes ⟨b, o + i, none⟩ l.length r).run P W = .ok ⟨(r.data.toList ++ l).toArray⟩ W
  | [], i, r, _ => by simp [Extern.Bytes.loadBytes]
  | u :: l, i, r, h => by
    have h0 := h 0 u rfl
    simp only [Nat.add_zero] at h0
    have ih := loadBytes_run (P := P) b o W l (i + 1) (r.push u) (fun j v hj => by have := h (j + 1) v (by simpa using hj); rwa [show i + (j + 1) = i + 1 + j by omega] at this)
    have e : (u.toNat : Int).toNat.toUInt8 = u := by simp
    simp only [List.length_cons, Extern.Bytes.loadBytes, Sem.run_bind, run_load, h0, Result.andThen, byteV, Addr.add_lit]
    rw [show o + i + 1 = o + (i + 1) by omega, e, ih]
    simp [ByteArray.push]

theorem bytesAt_run {P : Program} {C : Addr → Value → Prop} {v : Value} {l : List UInt8} (h : bytesAt C v l) {W : World} (hC : ∀ a v, C a v → W.cell? a = some v) : (Extern.Bytes.bytesOf v).run P W = .ok ⟨l.toArray⟩ W := by
  rcases h with rfl | ⟨a, c, rfl, h0, h1⟩
  · simp [Extern.Bytes.bytesOf, strV]
  · cases a with
    | none => rw [h0 rfl]; simp [Extern.Bytes.bytesOf]; rfl
    | some a =>
      obtain ⟨b, o, s⟩ := a
      have hc := h1 _ rfl
      cases l with
      | nil => simp [Extern.Bytes.bytesOf, Extern.Bytes.loadBytes]; rfl
      | cons u0 l =>
        have h0 := hC _ _ (hc 0 u0 rfl)
        rw [add_zero] at h0
        have hs := spot_none h0
        simp only at hs; subst hs
        have := loadBytes_run (P := P) b o W (u0 :: l) 0 ByteArray.empty (fun j u hj => by rw [Nat.zero_add, ← Addr.add_lit]; exact hC _ _ (hc j u hj))
        simpa [Extern.Bytes.bytesOf] using this

theorem cmp_find1 {fn : Func} (h : fn.name = "internal/bytealg.Compare") (h0 : fn.origin = "") : Extern.findNext fn = none ∧ Extern.find fn = some Extern.BytealgCompare.compare := by
  unfold Extern.findNext Extern.find
  rw [h, h0]
  exact ⟨by kernel_rfl, by kernel_rfl⟩
theorem cmp_find2 {fn : Func} (h : fn.name = "internal/bytealg.abigen_runtime_cmpstring") (h0 : fn.origin = "") : Extern.findNext fn = none ∧ Extern.find fn = some Extern.BytealgCompare.compare := by
  unfold Extern.findNext Extern.find
  rw [h, h0]
  exact ⟨by kernel_rfl, by kernel_rfl⟩

theorem bcmp_run {P : Program} {f : FuncId} (hf : isCmp P f = true) {C : Addr → Value → Prop} {x y : Value} {l m : List UInt8} (hx : bytesAt C x l) (hy : bytesAt C y m) {W : World} (hC : ∀ a v, C a v → W.cell? a = some v) :
    (callFunc f #[x, y]).run P W = .ok (.value (.int .i64 (Lib.compareBytes l m))) W := by
  unfold isCmp at hf
  split at hf
  · rename_i fn hfn
    simp only [Bool.and_eq_true, Bool.or_eq_true, beq_iff_eq] at hf
    obtain ⟨⟨hb, hn⟩, ho⟩ := hf
    have hne : (fn.name == "runtime.NumGoroutine") = false := by rcases hn with e | e <;> rw [e] <;> decide
    have hfind : Extern.findNext fn = none ∧ Extern.find fn = some Extern.BytealgCompare.compare := by
      rcases hn with e | e
      · exact cmp_find1 e ho
      · exact cmp_find2 e ho
    rw [run_callFunc_extern hfn hne hb hfind.1 hfind.2]
    have : (Extern.BytealgCompare.compare #[x, y]).run P W = .ok (.int .i64 (Lib.compareBytes l m)) W := by
      change Sem.run P (do pure (goInt (Extern.BytealgCompare.cmp (← Extern.Bytes.bytesOf x) (← Extern.Bytes.bytesOf y)))) W = _
      simp only [Sem.run_bind, bytesAt_run hx hC, bytesAt_run hy hC, Result.andThen, Sem.run_pure, goInt, Lib.cmp_eq]
    rw [this]; rfl
  · cases hf

/-- An instruction that only looks: the operation hands back what 'evq' says, and leaves the world. -/
theorem evq_sound {P : Program} {o : Oper} {g : GI} (hd : decI P o = some g) (hq : g.quiet = true) {ρ : Env} {C : Addr → Value → Prop} {v : Value} (h : evq ρ C g v) {E : Operand → Value}
    (hE : ∀ x ∈ o.op.operands, E x = ev ρ x) {W : World} (hC : ∀ a v, C a v → W.cell? a = some v) : (execOp E o).run P W = .ok (.value v) W := by
  obtain ⟨dst, op, type, pos, after, guard⟩ := o
  cases op <;> simp only [decI] at hd
  case move x =>
    simp at hd; subst hd; simp only [evq] at h; subst h
    simp [execOp, hE x (by simp [Op.operands])]
  case assign x =>
    simp at hd; subst hd; simp only [evq] at h; subst h
    simp [execOp, hE x (by simp [Op.operands])]
  case pick c a b =>
    simp at hd; subst hd; simp only [evq] at h; obtain ⟨t, ht, rfl⟩ := h
    simp [execOp, hE c (by simp [Op.operands]), hE a (by simp [Op.operands]), hE b (by simp [Op.operands]), ht, asBool]
  case fieldAddr s x f =>
    split at hd <;> try cases hd
    rename_i fs hu
    split at hd <;> try cases hd
    rename_i fl hf
    split at hd <;> try cases hd
    rename_i i hi
    split at hd <;> try cases hd
    rename_i hn
    simp only [evq] at h; obtain ⟨b, o, hx, rfl⟩ := h
    simp [execOp, Instr.fieldAt, run_underlying hu, hf, hE x (by simp [Op.operands]), hx, Instr.sureAddr, fieldPlace, size_run hi, hn, Addr.add_lit]
  case load t x =>
    cases ha : aggOf P t with
    | none => simp [ha] at hd
    | some n =>
      simp [ha] at hd; subst hd
      cases n with
      | none =>
        simp only [evq] at h; obtain ⟨b, o, hx, hc⟩ := h
        simp [execOp, hE x (by simp [Op.operands]), hx, run_ld1 ha _ _ W (hC _ _ hc)]
      | some n =>
        simp only [evq] at h; obtain ⟨b, o, cs, hx, hl, hc, rfl⟩ := h
        simp [execOp, hE x (by simp [Op.operands]), hx, run_ldn ha _ _ cs hl W (fun i u hu => hC _ _ (hc i u hu))]
  case binOp op t x y yt =>
    have hx := hE x (by simp [Op.operands])
    have hy := hE y (by simp [Op.operands])
    exact bin_sound hd h hx hy
  case unOp op t x =>
    simp at hd; subst hd; simp only [evq] at h
    simp [execOp, hE x (by simp [Op.operands]), unV_run h]
  case convert s t x =>
    have hx := hE x (by simp [Op.operands])
    split at hd <;> try cases hd
    · rename_i k k' h1 h2
      simp only [evq] at h; obtain ⟨j, n, hj, rfl⟩ := h
      simp [execOp, convert, run_underlying h1, run_underlying h2, hx, hj, Conv.intToInt]
    · rename_i h1 h2
      simp only [evq] at h; obtain ⟨⟨s', hs⟩, rfl⟩ := h
      simp [execOp, convert, run_underlying h1, run_underlying h2, hx, hs]
    · rename_i e h1 h2
      split at hd <;> try cases hd
      rename_i h3
      simp only [evq] at h; obtain ⟨a, l, c, ha, h0, hc, rfl⟩ := h
      have := run_b2s (P := P) a l c W h0 (fun a' e i u hu => hC _ _ (hc a' e i u hu))
      simp [execOp, convert, run_underlying h1, run_underlying h2, run_underlying h3, hx, ha, this]
  case indexAddr t x i =>
    have hx := hE x (by simp [Op.operands])
    have hi := hE i (by simp [Op.operands])
    split at hd <;> try cases hd
    · rename_i e hu
      split at hd <;> try cases hd
      rename_i f hf
      simp only [evq] at h; obtain ⟨b, o, n, c, k, j, h1, h2, h3, h4, rfl⟩ := h
      simp [execOp, Instr.indexAt, asIntOf, hx, hi, h1, h2, run_underlying hu, h3, h4, size_run hf, Addr.add_lit]
    · rename_i n e hu
      split at hd <;> try cases hd
      rename_i f hf
      simp only [evq] at h; obtain ⟨b, o, k, j, h1, h2, h3, h4, rfl⟩ := h
      simp [execOp, Instr.indexAt, Instr.sureAddr, asIntOf, hx, hi, h1, h2, run_underlying hu, h3, h4, size_run hf, Addr.add_lit]
  case index t x i =>
    have hx := hE x (by simp [Op.operands])
    have hi := hE i (by simp [Op.operands])
    split at hd <;> try cases hd
    rename_i hu
    simp only [evq] at h; obtain ⟨l, k, j, u, h1, h2, h3, h4, rfl⟩ := h
    have h5 : (⟨l.toArray⟩ : ByteArray)[j.toNat]? = some u := by
      obtain ⟨hl, hv⟩ := List.getElem?_eq_some_iff.1 h4
      have hs : j.toNat < (⟨l.toArray⟩ : ByteArray).size := by simpa [ByteArray.size] using hl
      rw [getElem?_pos (⟨l.toArray⟩ : ByteArray) j.toNat hs]
      exact congrArg some hv
    simp [execOp, Instr.index, asIntOf, hx, hi, h1, h2, strV, run_underlying hu, h3, h5, byteV]
  case slice t x lo hi mx =>
    have hx := hE x (by simp [Op.operands])
    have hlo : lo.map E = lo.map (ev ρ) := by cases lo <;> simp; exact hE _ (by simp [Op.operands])
    have hhi : hi.map E = hi.map (ev ρ) := by cases hi <;> simp; exact hE _ (by simp [Op.operands])
    have hmx : mx.map E = mx.map (ev ρ) := by cases mx <;> simp; exact hE _ (by simp [Op.operands])
    split at hd <;> try cases hd
    · rename_i e hu
      split at hd <;> try cases hd
      rename_i f hf
      simp only [evq] at h; obtain ⟨a, n, c, l, h, m, h1, h2, h3, rfl⟩ := h
      have hr := cutV_run (P := P) true n c _ _ _ l h m h3 W
      have ha : (if m = l then a else a.map (·.add (l * f.size))) = (if m = l then a else a.map fun a => ⟨a.block, a.off + l * f.size, none⟩) := by
        split
        · rfl
        · cases a with
          | none => rfl
          | some a =>
            rename_i hml
            obtain ⟨b, o, s⟩ := a; have := h2 hml _ rfl; simp only at this; subst this; simp [Addr.add_lit]
      simp [execOp, Instr.sliceAt, Instr.slice, run_underlying hu, hx, hlo, hhi, hmx, h1, hr, size_run hf, ha]
    · rename_i n e hu
      split at hd <;> try cases hd
      rename_i f hf
      simp only [evq] at h; obtain ⟨b, o, l, h, m, h1, h3, rfl⟩ := h
      have hr := cutV_run (P := P) false n n _ _ _ l h m h3 W
      simp [execOp, Instr.sliceAt, Instr.sureAddr, run_underlying hu, hx, hlo, hhi, hmx, h1, hr, size_run hf, Addr.add_lit]
    · rename_i hu
      split at hd <;> try cases hd
      rename_i hm
      simp only [Bool.not_eq_true, Option.isSome_eq_false_iff, Option.isNone_iff_eq_none] at hm
      subst hm
      simp only [evq] at h; obtain ⟨s, l, h, m, h1, h3, rfl⟩ := h
      have hr := cutV_run (P := P) false s.length s.length _ _ _ l h m h3 W
      have hsz : (⟨s.toArray⟩ : ByteArray).size = s.length := by simp [ByteArray.size]
      have hex : (⟨s.toArray⟩ : ByteArray).extract l h = ⟨((s.drop l).take (h - l)).toArray⟩ := by rw [Lib.extract_eq]
      simp only [execOp, Instr.sliceAt, Instr.slice, Sem.run_bind, run_underlying hu, hx, hlo, hhi, h1, strV, Result.andThen, Option.map_none, Option.isSome_none, Bool.false_eq_true, if_false, hsz, hr, Sem.run_pure, hex]
  case extract x i =>
    simp at hd; subst hd; simp only [evq] at h; obtain ⟨vs, h1, h2⟩ := h
    simp [execOp, Instr.extract, hE x (by simp [Op.operands]), h1, h2]
  case build t parts =>
    split at hd <;> try cases hd
    rename_i fs i hu hi
    split at hd <;> try cases hd
    rename_i z places hz hp
    simp only [evq] at h; obtain ⟨cs, h1, rfl⟩ := h
    have hparts : (parts.map fun (i, x) => (i, E x)).toList = parts.toList.map fun p => (p.1, ev ρ p.2) := by
      rw [Array.toList_map]
      apply List.map_congr_left
      rintro ⟨j, x⟩ hj
      have : E x = ev ρ x := hE x (by simp [Op.operands]; exact ⟨j, by simpa using hj⟩)
      simp [this]
    have hpl : (fs.mapM fun f => do pure (f.offset, ← sizeOf f.type) : Sem (Array (Nat × Nat))).run P W = .ok places.toArray W := by
      have key : ∀ (l : List Field) (r : List (Nat × Nat)), (l.mapM fun f => (P.info? f.type).map fun g => (f.offset, g.size)) = some r →
          (l.mapM fun f => do pure (f.offset, ← sizeOf f.type) : Sem (List (Nat × Nat))).run P W = .ok r W := by
        intro l
        induction l with
        | nil => intro r hr; simp at hr; subst hr; simp
        | cons f l ih =>
          intro r hr
          simp only [List.mapM_cons, Option.bind_eq_bind, Option.bind_eq_some_iff, Option.map_eq_some_iff, Option.pure_def, Option.some.injEq] at hr
          obtain ⟨p, ⟨g, hg, rfl⟩, r', hr', rfl⟩ := hr
          simp only [List.mapM_cons, Sem.run_bind, size_run hg, Result.andThen, Sem.run_pure, ih r' hr']
      rw [Array.mapM_eq_mapM_toList]
      have := key fs.toList places hp
      simp only [Sem.run_map, this, Result.andThen]
    have h1' : Instr.fill (fun (i : Nat) => places.toArray[i]?) z.cells (parts.toList.map fun p => (p.1, ev ρ p.2)) = some cs := by
      have : (fun (i : Nat) => places.toArray[i]?) = (fun (i : Nat) => places[i]?) := by funext i; simp
      rw [this]; simpa using h1
    simp only [execOp, Instr.build, Sem.run_bind, zero_run hi hz, run_underlying hu, hpl, Result.andThen, hparts, h1', Sem.run_pure]
  case field t x f =>
    have hx := hE x (by simp [Op.operands])
    split at hd <;> try cases hd
    rename_i fs hu
    split at hd <;> try cases hd
    rename_i fl hf
    cases ha : aggOf P fl.type with
    | none => simp [ha] at hd
    | some n =>
      simp [ha] at hd; subst hd
      have hu2 : ∃ d i, P.underlying fl.type = some d ∧ P.info? fl.type = some i ∧ (match d with | .struct _ | .array _ _ => true | _ => false) = n.isSome ∧ (∀ k, n = some k → k = i.size) := by
        unfold aggOf at ha
        split at ha <;> simp_all
        · subst ha; simp
        · subst ha; simp
        · subst ha; rename_i d i _ _ _ _; cases d <;> simp_all
      obtain ⟨d, i, hu2, hi2, hd2, hn2⟩ := hu2
      have hag : (isAgg fl.type).run P W = .ok n.isSome W := by
        simp only [isAgg, Sem.run_bind, run_underlying hu2, Result.andThen]
        cases d <;> simp_all
      cases n with
      | none =>
        simp only [evq] at h; obtain ⟨cs, h1, h2⟩ := h
        simp [execOp, Instr.field, run_underlying hu, hf, hx, h1, asAgg, part, hag, h2]
      | some n =>
        simp only [evq] at h; obtain ⟨cs, h1, rfl⟩ := h
        simp [execOp, Instr.field, run_underlying hu, hf, hx, h1, asAgg, part, hag, size_run hi2, hn2 n rfl]
  case makeFunc fn first cap =>
    simp at hd; subst hd; simp only [evq] at h; subst h
    have h1 : first.map E = (first.toList.map (ev ρ)).toArray := by
      apply Array.ext'
      simp
      intro x hx; exact hE x (by simp [Op.operands, hx])
    have h2 : cap.map E = (cap.toList.map (ev ρ)).toArray := by
      apply Array.ext'
      simp
      intro x hx; exact hE x (by simp [Op.operands, hx])
    simp only [execOp, Instr.makeFunc, Sem.run_bind, Sem.run_pure, Result.andThen, h1, h2]
  case makeInterface t x =>
    split at hd <;> try cases hd
    rename_i d hu hd2
    simp only [evq] at h; subst h
    have : (Instr.makeInterface t (ev ρ x)).run P W = .ok (.iface t (ev ρ x)) W := by
      simp only [Instr.makeInterface, Sem.run_bind, run_underlying hd2, Result.andThen]
      cases d <;> simp_all
    simp [execOp, hE x (by simp [Op.operands]), this]
  case nilCheck x =>
    simp at hd; subst hd; simp only [evq] at h; obtain ⟨⟨a, ha⟩, rfl⟩ := h
    simp [execOp, hE x (by simp [Op.operands]), ha]
  case call c =>
    obtain ⟨callee, args, ats⟩ := c
    cases callee with
    | value f =>
      cases f with
      | func f =>
        simp only at hd
        split at hd
        · rename_i hcmp
          split at hd <;> try cases hd
          rename_i x y h1
          have ha : args = #[x, y] := by rw [← Array.toArray_toList (xs := args), h1]
          subst ha
          have hx := hE x (by simp [Op.operands, Call.operands])
          have hy := hE y (by simp [Op.operands, Call.operands])
          have hf := hE (.func f) (by simp [Op.operands, Call.operands])
          simp only [evq] at h
          obtain ⟨l, m, h1, h2, rfl⟩ := h
          have hf' : E (.func f) = .func (.func f) #[] #[] := hf
          simp [execOp, resolve, hf', Deferred.ofValue, invoke, hx, hy, bcmp_run hcmp h1 h2 hC]
        · cases hd; simp [GI.quiet] at hq
      | _ => simp at hd; subst hd; simp [GI.quiet] at hq
    | invoke r m => simp at hd
    | builtin b =>
      have hargs : args.map E = (args.toList.map (ev ρ)).toArray := by
        apply Array.ext'
        simp
        intro x hx; exact hE x (by simp [Op.operands, Call.operands, hx])
      cases b <;> simp only at hd
      case len =>
        split at hd <;> try cases hd
        rename_i x t h1 h2
        have ha : args = #[x] := by rw [← Array.toArray_toList (xs := args), h1]
        have hts : ats = #[t] := by rw [← Array.toArray_toList (xs := ats), h2]
        subst ha; subst hts
        have hx := hE x (by simp [Op.operands, Call.operands])
        split at hd <;> try cases hd
        · rename_i hu
          simp only [evq] at h
          obtain ⟨l, h1, rfl⟩ := h
          have hsz : (⟨l.toArray⟩ : ByteArray).size = l.length := by simp [ByteArray.size]
          simp [execOp, resolve, invoke, builtin, Builtin.len_, run_underlying hu, hx, h1, strV, hsz, goInt]
        · rename_i e hu
          simp only [evq] at h
          obtain ⟨a, n, c, h1, rfl⟩ := h
          simp [execOp, resolve, invoke, builtin, Builtin.len_, run_underlying hu, hx, h1, goInt]
      case cap =>
        split at hd <;> try cases hd
        rename_i x t h1 h2
        have ha : args = #[x] := by rw [← Array.toArray_toList (xs := args), h1]
        have hts : ats = #[t] := by rw [← Array.toArray_toList (xs := ats), h2]
        subst ha; subst hts
        have hx := hE x (by simp [Op.operands, Call.operands])
        split at hd <;> try cases hd
        rename_i e hu
        simp only [evq] at h
        obtain ⟨a, n, c, h1, rfl⟩ := h
        simp [execOp, resolve, invoke, builtin, Builtin.cap_, run_underlying hu, hx, h1, goInt]
      case max =>
        split at hd <;> try cases hd
        rename_i x y h1
        have ha : args = #[x, y] := by rw [← Array.toArray_toList (xs := args), h1]
        subst ha
        have hx := hE x (by simp [Op.operands, Call.operands])
        have hy := hE y (by simp [Op.operands, Call.operands])
        simp only [evq] at h
        obtain ⟨k, a, b, h1, h2, rfl⟩ := h
        simp [execOp, resolve, invoke, builtin, Builtin.max_, Builtin.max2, hx, hy, h1, h2]
      case min =>
        split at hd <;> try cases hd
        rename_i x y h1
        have ha : args = #[x, y] := by rw [← Array.toArray_toList (xs := args), h1]
        subst ha
        have hx := hE x (by simp [Op.operands, Call.operands])
        have hy := hE y (by simp [Op.operands, Call.operands])
        simp only [evq] at h
        obtain ⟨k, a, b, h1, h2, rfl⟩ := h
        simp [execOp, resolve, invoke, builtin, Builtin.min_, Builtin.min2, hx, hy, h1, h2]
      case append =>
        split at hd <;> try cases hd
        split at hd <;> try cases hd
        split at hd <;> try cases hd
        split at hd <;> try cases hd
        split at hd <;> try cases hd
        simp [GI.quiet] at hq
      all_goals cases hd
  all_goals first
    | (cases hd; done)
    | (simp at hd; subst hd; simp [GI.quiet] at hq; done)
    | (split at hd <;> first | (cases hd; done) | (simp at hd; subst hd; simp [GI.quiet] at hq; done) | (simp at hd; obtain ⟨_, _, rfl⟩ := hd; simp [GI.quiet] at hq; done) | (split at hd <;> first | (cases hd; done) | (split at hd <;> first | (cases hd; done) | (simp at hd; subst hd; simp [GI.quiet] at hq; done) | (simp at hd; obtain ⟨_, rfl⟩ := hd; simp [GI.quiet] at hq; done))))


end Go.Gk
