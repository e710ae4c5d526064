/-
  Instructions whose types are resolved; what they do to data and owned blocks; the predicate transformer over structured code; the function 'dec' that turns a program's code into them.
-/
import Derived.Test.YtjbpdhljjhpeeaaGk1
import Derived.Lib.Strings
import Derived.Lib.Bytealg
namespace Go.Gk
open Go

abbrev Env := Nat → Value

def ev (ρ : Env) : Operand → Value
  | .tmp t => ρ t
  | .const v => v
  | .global g => .pointer (some ⟨g, 0, none⟩)
  | .func f => .func (.func f) #[] #[]

def upd (ρ : Env) (d : Nat) (v : Value) : Env := fun i => bif Nat.beq i d then v else ρ i
def put (ρ : Env) (d : Option Nat) (v : Value) : Env := match d with | some d => upd ρ d v | none => ρ

inductive GI where
  | mv (x : Operand)
  | pick (c a b : Operand)
  | fld (off : Nat) (x : Operand)
  | ld (n : Option Nat) (x : Operand)
  | bin (op : BinOp) (x y : Operand)
  | eqb (neg : Bool) (x y : Operand)
  | eqp (neg : Bool) (x y : Operand)
  | eqs (neg : Bool) (x y : Operand)
  | un (op : UnOp) (x : Operand)
  | cvi (k : IntKind) (x : Operand)
  | b2s (x : Operand)
  | s2s (x : Operand)
  | idx (sz : Nat) (x i : Operand)
  | idxa (len sz : Nat) (x i : Operand)
  | sidx (x i : Operand)
  | sl (sz : Nat) (x : Operand) (lo hi mx : Option Operand)
  | sls (x : Operand) (lo hi : Option Operand)
  | sla (len sz : Nat) (x : Operand) (lo hi mx : Option Operand)
  | len (x : Operand)
  | lens (x : Operand)
  | cap (x : Operand)
  | mx2 (x y : Operand)
  | mn2 (x y : Operand)
  | ext (x : Operand) (i : Nat)
  | bld (places : List (Nat × Nat)) (zero : List Value) (parts : List (Nat × Operand))
  | gf (n : Option Nat) (off : Nat) (x : Operand)
  | mkf (fn : Fn) (first captured : List Operand)
  | mki (t : TypeId) (x : Operand)
  | nilc (x : Operand)
  | bcmp (x y : Operand)
  | box (x : Operand)
  | alo (zero : Value)
  | st (n : Nat) (addr val : Operand)
  | bsl (len sz : Nat) (zero : List Value) (parts : List (Nat × Operand))
  | mks (sz bytes : Nat) (zero : List Value) (len cap : Operand)
  | app (sz bytes : Nat) (zero : List Value) (s x : Operand)
  | call (f : FuncId) (args : List Operand)
  | callv (f : Operand) (args : List Operand)
  | pan (x : Operand)

/-- It only looks: it leaves a value, and the world as it is. -/
def GI.quiet : GI → Bool
  | .box .. | .alo .. | .st .. | .bsl .. | .mks .. | .app .. | .call .. | .callv .. | .pan .. => false
  | _ => true

structure GOp where
  dst : Option Nat
  guard : Option (Nat × Bool)
  i : GI

inductive GS where
  | done
  | op (take : Bool) (g : GOp) (s : GS)
  | alt (g : GOp) (s t : GS)
  | bar (s : GS)

inductive GCode where
  | skip
  | reg (drawn : Bool) (s : GS)
  | seq (a b : GCode)
  | cond (c : Operand) (a b : GCode)
  | block (id : Nat) (a : GCode)
  | loop (a : GCode)
  | exit (id : Nat)
  | ret
  | bad

inductive GRes where
  | tmp (t : Nat)
  | cell (t : Nat) (n : Option Nat)

structure GFun where
  n : Nat
  res : List GRes
  code : GCode

/-! ### What an instruction that only looks yields -/

def binV (op : BinOp) (x y : Value) : Option Value :=
  match op, x, y with
  | .shl, .int k a, .int _ b => if b < 0 then none else some (.int k (k.wrap (a * 2 ^ (min b.toNat k.bits))))
  | .shr, .int k a, .int _ b => if b < 0 then none else some (.int k (a.fdiv (2 ^ (min b.toNat k.bits))))
  | op, .int k a, .int k' b =>
    if k ≠ k' then none else
    match op with
    | .add => some (.int k (k.wrap (a + b)))
    | .sub => some (.int k (k.wrap (a - b)))
    | .mul => some (.int k (k.wrap (a * b)))
    | .quo => if b = 0 then none else some (.int k (k.wrap (a.tdiv b)))
    | .rem => if b = 0 then none else some (.int k (a.tmod b))
    | .and => some (.int k (k.wrap (BitVec.ofInt k.bits a &&& BitVec.ofInt k.bits b).toNat))
    | .or => some (.int k (k.wrap (BitVec.ofInt k.bits a ||| BitVec.ofInt k.bits b).toNat))
    | .xor => some (.int k (k.wrap (BitVec.ofInt k.bits a ^^^ BitVec.ofInt k.bits b).toNat))
    | .andNot => some (.int k (k.wrap (BitVec.ofInt k.bits a &&& ~~~BitVec.ofInt k.bits b).toNat))
    | .eql => some (.bool (a == b))
    | .neq => some (.bool (a != b))
    | .lss => some (.bool (decide (a < b)))
    | .leq => some (.bool (decide (a ≤ b)))
    | .gtr => some (.bool (decide (b < a)))
    | .geq => some (.bool (decide (b ≤ a)))
    | _ => none
  | op, .string a, .string b =>
    match op with
    | .add => if ((a.size + b.size : Nat) : Int) > IntKind.i64.max then none else some (.string (a ++ b))
    | .eql => some (.bool (a.toList == b.toList))
    | .neq => some (.bool (!(a.toList == b.toList)))
    | .lss => some (.bool (Op.bytesLess a.toList b.toList))
    | .leq => some (.bool (Op.bytesLess a.toList b.toList || a.toList == b.toList))
    | .gtr => some (.bool (!(Op.bytesLess a.toList b.toList || a.toList == b.toList)))
    | .geq => some (.bool (!Op.bytesLess a.toList b.toList))
    | _ => none
  | _, _, _ => none

def unV (op : UnOp) (x : Value) : Option Value :=
  match op, x with
  | .neg, .int k n => some (.int k (k.wrap (0 - n)))
  | .xor, .int k n => some (.int k (k.wrap (BitVec.ofInt k.bits (if k.signed then -1 else k.max) ^^^ BitVec.ofInt k.bits n).toNat))
  | .not, .bool b => some (.bool (!b))
  | _, _ => none

/-- A slice expression's three numbers. -/
def bnd (x : Value) (y : Nat) : Option Nat := match x with | .int _ i => if 0 ≤ i ∧ i ≤ (y : Int) then some i.toNat else none | _ => none
def cutM (cap : Nat) (mx : Option Value) : Option Nat := match mx with | some v => bnd v cap | none => some cap
def cutH (len m : Nat) (full : Bool) (hi : Option Value) : Option Nat := match hi with | some v => bnd v m | none => if full then none else some len
def cutL (h : Nat) (lo : Option Value) : Option Nat := match lo with | some v => bnd v h | none => some 0
def cutV (len cap : Nat) (lo hi mx : Option Value) : Option (Nat × Nat × Nat) :=
  (cutM cap mx).bind fun m => (cutH len m mx.isSome hi).bind fun h => (cutL h lo).map fun l => (l, h, m)

def zrow (zero : List Value) (n : Nat) : List Value := (List.range n).map fun i => zero.getD (i % zero.length) undef
/-- 'l' with 'vs' from place 'o' on. -/
def patch (l : List Value) (o : Nat) (vs : List Value) : List Value := l.take o ++ vs ++ l.drop (o + vs.length)

def strV (l : List UInt8) : Value := .string ⟨l.toArray⟩
def byteV (b : UInt8) : Value := .int .u8 b.toNat

/-- A cell, in data or in one of the blocks. -/
def HC (d : PHeap) (L : List PHeap) (a : Addr) (v : Value) : Prop :=
  a.spot = none ∧ ∃ h, (h = d ∨ h ∈ L) ∧ ∃ c T fr, h a.block (.cells c T fr) ∧ c[a.off]? = some v

/-- A string or a slice of bytes that reads as 'l'. -/
def bytesAt (C : Addr → Value → Prop) (v : Value) (l : List UInt8) : Prop :=
  v = strV l ∨ ∃ a c, v = .slice a l.length c ∧ (a = none → l = []) ∧ ∀ a', a = some a' → ∀ i u, l[i]? = some u → C (a'.add i) (byteV u)

def evq (ρ : Env) (C : Addr → Value → Prop) : GI → Value → Prop
  | .mv x, v => v = ev ρ x
  | .pick c a b, v => ∃ t, ev ρ c = .bool t ∧ v = if t then ev ρ a else ev ρ b
  | .fld off x, v => ∃ b o, ev ρ x = .pointer (some ⟨b, o, none⟩) ∧ v = .pointer (some ⟨b, o + off, none⟩)
  | .ld none x, v => ∃ b o, ev ρ x = .pointer (some ⟨b, o, none⟩) ∧ C ⟨b, o, none⟩ v
  | .ld (some n) x, v => ∃ (b o : Nat) (cs : List Value), ev ρ x = .pointer (some ⟨b, o, none⟩) ∧ cs.length = n ∧ (∀ i u, cs[i]? = some u → C ⟨b, o + i, none⟩ u) ∧ v = .agg cs.toArray
  | .bin op x y, v => binV op (ev ρ x) (ev ρ y) = some v
  | .eqb neg x y, v => ∃ a b, ev ρ x = .bool a ∧ ev ρ y = .bool b ∧ v = .bool (neg ^^ (a == b))
  | .eqp neg x y, v => ∃ a b, ev ρ x = .pointer a ∧ ev ρ y = .pointer b ∧ (a = none ∨ b = none ∨ a.map (·.block) = b.map (·.block)) ∧ v = .bool (neg ^^ (a == b))
  | .eqs neg x y, v => ∃ a n c, ev ρ x = .slice a n c ∧ (∃ n c, ev ρ y = .slice none n c) ∧ v = .bool (neg ^^ a.isNone)
  | .un op x, v => unV op (ev ρ x) = some v
  | .cvi k x, v => ∃ j n, ev ρ x = .int j n ∧ v = .int k (k.wrap n)
  | .b2s x, v => ∃ a l c, ev ρ x = .slice a l.length c ∧ (a = none → l = []) ∧ (∀ a', a = some a' → ∀ i u, l[i]? = some u → C (a'.add i) (byteV u)) ∧ v = strV l
  | .s2s x, v => (∃ s, ev ρ x = .string s) ∧ v = ev ρ x
  | .idx sz x i, v => ∃ b o n c k j, ev ρ x = .slice (some ⟨b, o, none⟩) n c ∧ ev ρ i = .int k j ∧ 0 ≤ j ∧ j < n ∧ v = .pointer (some ⟨b, o + j.toNat * sz, none⟩)
  | .idxa len sz x i, v => ∃ b o k j, ev ρ x = .pointer (some ⟨b, o, none⟩) ∧ ev ρ i = .int k j ∧ 0 ≤ j ∧ j < len ∧ v = .pointer (some ⟨b, o + j.toNat * sz, none⟩)
  | .sidx x i, v => ∃ l k j u, ev ρ x = strV l ∧ ev ρ i = .int k j ∧ 0 ≤ j ∧ l[j.toNat]? = some u ∧ v = byteV u
  | .sl sz x lo hi mx, v => ∃ a n c l h m, ev ρ x = .slice a n c ∧ (m ≠ l → ∀ a', a = some a' → a'.spot = none) ∧ cutV n c (lo.map (ev ρ)) (hi.map (ev ρ)) (mx.map (ev ρ)) = some (l, h, m) ∧
      v = .slice (if m = l then a else a.map fun a => ⟨a.block, a.off + l * sz, none⟩) (h - l) (m - l)
  | .sls x lo hi, v => ∃ s l h m, ev ρ x = strV s ∧ cutV s.length s.length (lo.map (ev ρ)) (hi.map (ev ρ)) none = some (l, h, m) ∧ v = strV ((s.drop l).take (h - l))
  | .sla len sz x lo hi mx, v => ∃ b o l h m, ev ρ x = .pointer (some ⟨b, o, none⟩) ∧ cutV len len (lo.map (ev ρ)) (hi.map (ev ρ)) (mx.map (ev ρ)) = some (l, h, m) ∧
      v = .slice (some (if m = l then ⟨b, o, none⟩ else ⟨b, o + l * sz, none⟩)) (h - l) (m - l)
  | .len x, v => ∃ a n c, ev ρ x = .slice a n c ∧ v = .int .i64 n
  | .lens x, v => ∃ l, ev ρ x = strV l ∧ v = .int .i64 l.length
  | .cap x, v => ∃ a n c, ev ρ x = .slice a n c ∧ v = .int .i64 c
  | .mx2 x y, v => ∃ k a b, ev ρ x = .int k a ∧ ev ρ y = .int k b ∧ v = .int k (if b > a then b else a)
  | .mn2 x y, v => ∃ k a b, ev ρ x = .int k a ∧ ev ρ y = .int k b ∧ v = .int k (if b < a then b else a)
  | .ext x i, v => ∃ vs, ev ρ x = .tuple vs ∧ vs[i]? = some v
  | .bld places zero parts, v => ∃ cs, Instr.fill (places[·]?) zero.toArray (parts.map fun p => (p.1, ev ρ p.2)) = some cs ∧ v = .agg cs
  | .gf none off x, v => ∃ cs, ev ρ x = .agg cs ∧ cs[off]? = some v
  | .gf (some n) off x, v => ∃ cs, ev ρ x = .agg cs ∧ v = .agg (cs.extract off (off + n))
  | .mkf fn first captured, v => v = .func fn (first.map (ev ρ)).toArray (captured.map (ev ρ)).toArray
  | .mki t x, v => v = .iface t (ev ρ x)
  | .bcmp x y, v => ∃ l m, bytesAt C (ev ρ x) l ∧ bytesAt C (ev ρ y) m ∧ v = .int .i64 (Lib.compareBytes l m)
  | .nilc x, v => (∃ a, ev ρ x = .pointer (some a)) ∧ v = ev ρ x
  | _, _ => False

abbrev Post := PHeap → List PHeap → Prop

/-- What an instruction does; 'Lk' is where it may look, 'L' what it may change. -/
def gi (P : Program) (pan : List PanicEntry → Post) (ρ : Env) (d : PHeap) (Lk L : List PHeap) (K : Value → Post) : GI → Prop
  | .box x => ∀ b T, K (.pointer (some ⟨b, 0, none⟩)) d (bx b T (ev ρ x).cells.toList :: L)
  | .alo z => ∀ b T, K (.pointer (some ⟨b, 0, none⟩)) d (bx b T z.cells.toList :: L)
  | .st n addr val => ∃ i b o T l, L[i]? = some (bx b T l) ∧ ev ρ addr = .pointer (some ⟨b, o, none⟩) ∧ (ev ρ val).cells.size = n ∧ o + n ≤ l.length ∧
      ((ev ρ val).cells.toList.all (·.oneCell')) = true ∧ K undef d (L.set i (bx b T (patch l o (ev ρ val).cells.toList)))
  | .bsl n sz zero parts => n * sz ≤ 2 ^ 24 ∧ ∃ cs, Instr.fill (fun i => some (i * sz, sz)) (zrow zero (n * sz)).toArray (parts.map fun p => (p.1, ev ρ p.2)) = some cs ∧
      ∀ b T, K (.slice (some ⟨b, 0, none⟩) n n) d (bx b T cs.toList :: L)
  | .mks sz bytes zero len cap => ∃ k k' n c, ev ρ len = .int k (n : Nat) ∧ ev ρ cap = .int k' (c : Nat) ∧ n ≤ c ∧ c ≤ maxLen ∧ bytes * c ≤ 2 ^ 48 ∧
      ∀ b T, K (.slice (some ⟨b, 0, none⟩) n c) d (bx b T (zrow zero (c * sz)) :: L)
  | .app sz bytes zero s x => ∃ sa n c xa m xc news, ev ρ s = .slice sa n c ∧ ev ρ x = .slice xa m xc ∧ news.length = m * sz ∧ (news.all (·.oneCell')) = true ∧
      (xa = none → news = []) ∧ (∀ a', xa = some a' → ∀ i u, news[i]? = some u → HC d (Lk ++ L) (a'.add i) u) ∧ n + m ≤ maxLen ∧ c ≤ maxLen ∧
      (n + m ≤ c → (news = [] ∧ K (.slice sa (n + m) c) d L) ∨ ∃ i b o T l, sa = some ⟨b, o, none⟩ ∧ L[i]? = some (bx b T l) ∧ o + (n + m) * sz ≤ l.length ∧ K (.slice sa (n + m) c) d (L.set i (bx b T (patch l (o + n * sz) news)))) ∧
      (c < n + m → (n + m) * bytes ≤ 2 ^ 47 ∧ ∃ olds, olds.length = n * sz ∧ (sa = none → olds = []) ∧ (∀ a', sa = some a' → ∀ i u, olds[i]? = some u → HC d (Lk ++ L) (a'.add i) u) ∧
        ∀ b T c', n + m ≤ c' → c' ≤ maxLen → K (.slice (some ⟨b, 0, none⟩) (n + m) c') d (bx b T (olds ++ news ++ zrow zero ((c' - (n + m)) * sz)) :: L))
  | .call f args => ∃ L1 L2 R, L = L1 ++ L2 ∧ GCall P f (args.map (ev ρ)) d L1 R ∧ ∀ e d' L', Le d d' → R e d' L' →
      match e with | .returned v => K v d' (L' ++ L2) | .panicked c => pan c d' (L' ++ L2) | .outgrown => False
  | .callv f args => ∃ g first cap L1 L2 R, ev ρ f = .func (.func g) first cap ∧ L = L1 ++ L2 ∧ GCall P g (first.toList ++ args.map (ev ρ) ++ cap.toList) d L1 R ∧ ∀ e d' L', Le d d' → R e d' L' →
      match e with | .returned v => K v d' (L' ++ L2) | .panicked c => pan c d' (L' ++ L2) | .outgrown => False
  | .pan x => ∃ t v, ev ρ x = .iface t v ∧ pan [{ v := .iface t v, recovered := false }] d L
  | q => ∃ v, evq ρ (HC d Lk) q v ∧ K v d L

def gop (P : Program) (pan : List PanicEntry → Post) (g : GOp) (ρ : Env) (d : PHeap) (Lk L : List PHeap) (K : Env → Post) : Prop :=
  match g.guard with
  | none => gi P pan ρ d Lk L (fun v d' L' => K (put ρ g.dst v) d' L') g.i
  | some (t, want) => (∃ b, ρ t = .bool b ∧ (b = want → gi P pan ρ d Lk L (fun v d' L' => K (put ρ g.dst v) d' L') g.i) ∧ (b = !want → K (put ρ g.dst undef) d L)) ∨ (ρ t = undef ∧ K (put ρ g.dst undef) d L)

/-- A region: the schedule 's'; 'Ls': blocks that stay as they are up to the bar. -/
def gws (P : Program) (pan : List PanicEntry → Post) (Qn : Env → Post) : GS → List PHeap → Env → PHeap → List PHeap → Prop
  | .done, Ls, ρ, d, L => ∃ d1 L1, Vs d (Ls ++ L) d1 L1 ∧ Qn ρ d1 L1
  | .op true g s, Ls, ρ, d, L => gop P pan g ρ d Ls L (fun ρ' d' L' => gws P pan Qn s Ls ρ' d' L')
  | .op false g s, Ls, ρ, d, L => ∃ d1 L1, Vs d L d1 L1 ∧ gop P (fun c d' L' => pan c d' (Ls ++ L')) g ρ d1 (Ls ++ L1) L1 (fun ρ' d' L' => ∃ d2 L2, Vs d' L' d2 L2 ∧ gws P pan Qn s Ls ρ' d2 L2)
  | .alt g s t, Ls, ρ, d, L => (∃ d1 L1, Vs d L d1 L1 ∧ gop P (fun c d' L' => pan c d' (Ls ++ L')) g ρ d1 (Ls ++ L1) L1 (fun ρ' d' L' => ∃ d2 L2, Vs d' L' d2 L2 ∧ gws P pan Qn s Ls ρ' d2 L2)) ∧ gws P pan Qn t Ls ρ d L
  | .bar s, Ls, ρ, d, L => gws P pan Qn s [] ρ d (Ls ++ L)

structure GPost where
  n : Env → Post
  ex : Nat → Env → Post
  ret : Env → Post
  pan : List PanicEntry → Post

def gwp (P : Program) : GCode → GPost → Env → PHeap → List PHeap → Prop
  | .skip, Q => Q.n
  | .reg false s, Q => fun ρ d L => gws P Q.pan Q.n s [] ρ d L
  | .reg true s, Q => fun ρ d L => ∃ d1 Ls L1, Vs d L d1 (Ls ++ L1) ∧ gws P Q.pan Q.n s Ls ρ d1 L1
  | .seq a b, Q => gwp P a { Q with n := gwp P b Q }
  | .cond c a b, Q => fun ρ d L => ∃ t, ev ρ c = .bool t ∧ (t = true → gwp P a Q ρ d L) ∧ (t = false → gwp P b Q ρ d L)
  | .block id a, Q => gwp P a { Q with ex := fun j => if j = id then Q.n else Q.ex j }
  | .loop a, Q => fun ρ d L => ∃ I : Nat → Env → Post, (∃ m, I m ρ d L) ∧ ∀ m ρ d L, I m ρ d L → gwp P a { Q with n := fun ρ d L => ∃ m', m' < m ∧ I m' ρ d L } ρ d L
  | .exit id, Q => Q.ex id
  | .ret, Q => Q.ret
  | .bad, _ => fun _ _ _ => False

/-! ### From the program's code -/

def opndOk (n : Nat) : Operand → Bool
  | .tmp t => decide (t < n)
  | _ => true

def aggOf (P : Program) (t : TypeId) : Option (Option Nat) :=
  match P.underlying t, P.info? t with
  | some (.struct _), some i | some (.array _ _), some i => some (some i.size)
  | some _, some _ => some none
  | _, _ => none

def intK (P : Program) (t : TypeId) : Bool := match P.underlying t with | some (.int _) => true | _ => false

def isCmp (P : Program) (f : FuncId) : Bool :=
  match P.funcs[f]? with
  | some fn => fn.body.isNone && (fn.name == "internal/bytealg.Compare" || fn.name == "internal/bytealg.abigen_runtime_cmpstring") && fn.origin == ""
  | none => false

def decI (P : Program) (o : Oper) : Option GI :=
  match o.op with
  | .move x | .assign x => some (.mv x)
  | .pick c a b => some (.pick c a b)
  | .fieldAddr s x f =>
    match P.underlying s with
    | some (.struct fs) => match fs[f]? with
      | some fl => match P.info? fl.type with
        | some i => if i.size = 0 then none else some (.fld fl.offset x)
        | none => none
      | none => none
    | _ => none
  | .load t x => (aggOf P t).map fun n => .ld n x
  | .store t a x => match P.info? t with | some i => some (.st i.size a x) | none => none
  | .box t x => some (.box x)
  | .alloc t => match P.info? t with | some i => i.zero.map fun z => .alo z | none => none
  | .binOp op t x y _ =>
    match op with
    | .eql | .neq =>
      match P.underlying t with
      | some (.int _) | some .string => some (.bin op x y)
      | some .bool => some (.eqb (op matches .neq) x y)
      | some (.pointer e) => match P.info? e with | some i => if i.size = 0 then none else some (.eqp (op matches .neq) x y) | none => none
      | some (.slice _) => some (.eqs (op matches .neq) x y)
      | _ => none
    | _ => some (.bin op x y)
  | .unOp op _ x => some (.un op x)
  | .convert s t x =>
    match P.underlying s, P.underlying t with
    | some (.int _), some (.int k) => some (.cvi k x)
    | some .string, some .string => some (.s2s x)
    | some (.slice e), some .string => match P.underlying e with | some (.int .u8) => some (.b2s x) | _ => none
    | _, _ => none
  | .indexAddr t x i =>
    match P.underlying t with
    | some (.slice e) => match P.info? e with | some f => some (.idx f.size x i) | none => none
    | some (.array n e) => match P.info? e with | some f => some (.idxa n f.size x i) | none => none
    | _ => none
  | .index t x i => match P.underlying t with | some .string => some (.sidx x i) | _ => none
  | .slice t x lo hi mx =>
    match P.underlying t with
    | some (.slice e) => match P.info? e with | some f => some (.sl f.size x lo hi mx) | none => none
    | some (.array n e) => match P.info? e with | some f => some (.sla n f.size x lo hi mx) | none => none
    | some .string => if mx.isSome then none else some (.sls x lo hi)
    | _ => none
  | .extract x i => some (.ext x i)
  | .build t parts =>
    match P.underlying t, P.info? t with
    | some (.struct fs), some i => match i.zero, (fs.toList.mapM fun f => (P.info? f.type).map fun g => (f.offset, g.size)) with
      | some z, some places => some (.bld places z.cells.toList parts.toList)
      | _, _ => none
    | _, _ => none
  | .buildSlice t n parts =>
    match P.underlying t with
    | some (.slice e) => match P.info? e with
      | some i => match i.zero with | some z => if z.cells.size = i.size then some (.bsl n i.size z.cells.toList parts.toList) else none | none => none
      | none => none
    | _ => none
  | .makeSlice t l c =>
    match P.underlying t with
    | some (.slice e) => match P.info? e with
      | some i => match i.zero with | some z => if z.cells.size = i.size then some (.mks i.size i.bytes z.cells.toList l c) else none | none => none
      | none => none
    | _ => none
  | .field t x f =>
    match P.underlying t with
    | some (.struct fs) => match fs[f]? with
      | some fl => (aggOf P fl.type).map fun n => .gf n fl.offset x
      | none => none
    | _ => none
  | .makeFunc fn first cap => some (.mkf fn first.toList cap.toList)
  | .makeInterface t x => match P.underlying t with | some (.interface _) => none | some _ => some (.mki t x) | none => none
  | .nilCheck x => some (.nilc x)
  | .panic x => some (.pan x)
  | .call c =>
    match c.callee with
    | .value (.func f) => if isCmp P f then (match c.args.toList with | [x, y] => some (.bcmp x y) | _ => none) else some (.call f c.args.toList)
    | .value x => some (.callv x c.args.toList)
    | .builtin .len => match c.args.toList, c.argTypes.toList with
      | [x], [t] => match P.underlying t with | some .string => some (.lens x) | some (.slice _) => some (.len x) | _ => none
      | _, _ => none
    | .builtin .cap => match c.args.toList, c.argTypes.toList with
      | [x], [t] => match P.underlying t with | some (.slice _) => some (.cap x) | _ => none
      | _, _ => none
    | .builtin .max => match c.args.toList with | [x, y] => some (.mx2 x y) | _ => none
    | .builtin .min => match c.args.toList with | [x, y] => some (.mn2 x y) | _ => none
    | .builtin .append => match c.args.toList, c.argTypes.toList with
      | [s, x], [t, t'] => match P.underlying t, P.underlying t' with
        | some (.slice e), some (.slice _) => match P.info? e with
          | some i => match i.zero with
            | some z => if i.size = 0 ∨ i.bytes = 0 ∨ z.cells.size ≠ i.size then none else some (.app i.size i.bytes z.cells.toList s x)
            | none => none
          | none => none
        | _, _ => none
      | _, _ => none
    | _ => none
  | _ => none

def dstOk (n : Nat) : Option Nat → Bool | some t => decide (t < n) | none => true
def noSel : Op → Bool | .select .. => false | _ => true

def decOp (P : Program) (n : Nat) (ops : Array Oper) (o : Oper) : Option GOp :=
  if (o.op.operands.toList.all (opndOk n)) && dstOk n o.dst && noSel o.op then
    match decI P o with
    | none => none
    | some i => match o.guard with
      | none => some ⟨o.dst, none, i⟩
      | some (j, want) => match (ops[j]?).bind (·.dst) with
        | some t => if t < n then some ⟨o.dst, some (t, want), i⟩ else none
        | none => none
  else none

/-- A schedule, by the operations' numbers. -/
inductive SI where
  | done
  | op (take : Bool) (i : Nat) (s : SI)
  | alt (i : Nat) (s t : SI)
  | bar (s : SI)

def SI.heads : SI → List Nat
  | .op _ i _ => [i]
  | .alt i _ t => i :: t.heads
  | _ => []

def SI.steps : SI → Nat
  | .done => 0
  | .op _ _ s => s.steps + 1
  | .alt _ s t => max (s.steps + 1) t.steps
  | .bar s => s.steps

def waits (o : Oper) (i : Nat) : Bool := o.after.any fun e => Region.binds .any e && e.on == i

/-- Those that come behind all others. -/
def lastOk (ops : Array Oper) (bs : List Bool) : Bool :=
  (List.range ops.size).all fun j => !bs.getD j false || (List.range ops.size).all fun i => bs.getD i false || (ops[j]?).any (waits · i)

def lasts (ops : Array Oper) : List Bool :=
  let bs := ops.toList.map fun o => match o.op with | .store .. | .assign _ => true | _ => false
  if lastOk ops bs then bs else ops.toList.map fun _ => false

/-- Is the schedule one that speaks of every order? -/
def chk (ops : Array Oper) (q : Nat → Bool) (bs : List Bool) : Bool → Bool → Array Bool → SI → Bool
  | top, _, listed, .done => top && Region.ready .any ops listed == []
  | top, past, listed, .op true i s => top && q i && (past == bs.getD i false) && Region.free .any ops listed i && (Region.ready .any ops listed).contains i && chk ops q bs true past (listed.setIfInBounds i true) s
  | top, past, listed, .op false i s => (!top || Region.ready .any ops listed == [i]) && (past == bs.getD i false) && chk ops q bs true past (listed.setIfInBounds i true) s
  | top, past, listed, .alt i s t => (!top || Region.ready .any ops listed == i :: t.heads) && (past == bs.getD i false) && chk ops q bs true past (listed.setIfInBounds i true) s && chk ops q bs false past listed t
  | top, past, listed, .bar s => top && !past && chk ops q bs true true listed s

def mkSI (ops : Array Oper) (q : Nat → Bool) (bs : List Bool) : Nat → Bool → Array Bool → SI
  | 0, _, _ => .done
  | f + 1, past, listed =>
    let rs := Region.ready .any ops listed
    if !past && bs.any (·) && (List.range ops.size).all (fun i => listed.getD i true || bs.getD i false) then .bar (mkSI ops q bs f true listed) else
    match rs.find? fun i => q i && Region.free .any ops listed i with
    | some i => .op true i (mkSI ops q bs f past (listed.setIfInBounds i true))
    | none => (rs.foldr (fun i (acc : Option SI) => match acc with
      | none => some (.op false i (mkSI ops q bs f past (listed.setIfInBounds i true)))
      | some t => some (.alt i (mkSI ops q bs f past (listed.setIfInBounds i true)) t)) none).getD .done

def toGS (P : Program) (n : Nat) (ops : Array Oper) : SI → Option GS
  | .done => some .done
  | .op tk i s => match (ops[i]?).bind (decOp P n ops), toGS P n ops s with
    | some g, some s' => some (.op tk g s')
    | _, _ => none
  | .alt i s t => match (ops[i]?).bind (decOp P n ops), toGS P n ops s, toGS P n ops t with
    | some g, some s', some t' => some (.alt g s' t')
    | _, _, _ => none
  | .bar s => (toGS P n ops s).map .bar

def quietAt (P : Program) (ops : Array Oper) (i : Nat) : Bool := ((ops[i]?).bind (decI P)).any GI.quiet

/-- A load of what is stored to in the same region. -/
def clash (ops : Array Oper) (i : Nat) : Bool :=
  match (ops[i]?).map (fun o => o.op) with
  | some (Op.load _ (.tmp t)) => ops.any fun o => match o.op with | Op.store _ (.tmp t') _ => t == t' | _ => false
  | _ => false

def straight : List Nat → SI
  | [] => .done
  | i :: l => .op false i (straight l)

def decR (P : Program) (n : Nat) (ops : Array Oper) (drawn : Bool) : Option GS :=
  match drawn with
  | false => toGS P n ops (straight (List.range ops.size))
  | true =>
    let bs := lasts ops
    let si := mkSI ops (fun i => quietAt P ops i && !clash ops i) bs (2 * ops.size + 2) false (Array.replicate ops.size false)
    if Region.noSelect ops && lastOk ops bs && decide (si.steps ≤ ops.size) && chk ops (quietAt P ops) bs true false (Array.replicate ops.size false) si then toGS P n ops si else none

/-- What is not understood is 'bad': a walk may not come there. -/
def decC (P : Program) (n : Nat) : Code → GCode
  | .skip => .skip
  | .region _ ops drawn => match decR P n ops drawn with | some s => .reg drawn s | none => .bad
  | .seq a b => .seq (decC P n a) (decC P n b)
  | .cond c a b => if opndOk n c then .cond c (decC P n a) (decC P n b) else .bad
  | .block id a => .block id (decC P n a)
  | .loop a => .loop (decC P n a)
  | .exit id => .exit id
  | .ret => .ret
  | _ => .bad

def decRes (P : Program) (n : Nat) : ResultVar → Option GRes
  | .tmp t => if t < n then some (.tmp t) else none
  | .cell t ty => if t < n then (aggOf P ty).map (.cell t) else none

def dec (P : Program) (f : FuncId) : Option GFun :=
  match P.funcs[f]? with
  | some fn =>
    if fn.name == "runtime.NumGoroutine" || !P.follows .mixedOrders then none else
    match fn.body with
    | some c => (fn.results.toList.mapM (decRes P fn.ntmps)).map fun rs => ⟨fn.ntmps, rs, decC P fn.ntmps c⟩
    | none => none
  | none => none

end Go.Gk
