/-
  Our own texts, one behind the other: Gk1 Gk2 GkAb Gk3 Gk4 Gk4m Gk5 Gk5a.
-/
import Derived.WalkKit
import Derived.OrdersHeld
import Derived.Lib.Strings
import Derived.Lib.Bytealg
import Derived.MapKept
import Derived.Lib.ConvBytes
set_option linter.defProp false
set_option linter.unusedVariables false
set_option linter.unusedSimpArgs false
open Nat renaming le_refl→ZL,add_mul→Aai,eq_of_beq_eq_true→Abp,lt_or_ge→Acb
open List renaming append_assoc→Zy,replicate→ZI,mem_append→ZK,getElem?_eq_some_iff→ZO,mem_cons→ZR,range→Z8,mem_singleton→Z9,pairwise_cons→Aah,length_pos_iff→Aan,map_congr_left→Aap,getElem?_map→Aat,length_map→Aay,map_cons→Abc,getElem?_cons_zero→Abg,not_mem_nil→Abl,getD→Acd,perm_middle→Acs,toArray→Acx,getElem?_toArray→Acy
open Bool renaming and_eq_true→Zz,false_eq_true→ZX,or_eq_true→Aad,not_eq_true→Abk
open Option renaming bind_eq_some_iff→ZZ,map_eq_some_iff→Aaa
open List.Perm renaming swap→Z0,cons→Z1
open Int renaming toNat_natCast→Z2,natCast_mul→Aam
section
namespace Go.Gk
open Go
variable{W W':World}{b n c kd since last:Nat}{o:Oper}{o':Obj}{P:Program}{f:FuncId}{t e kt t':TypeId}{i:TypeInfo}{z x v:Value}{ds:List Deferred}{es:List MapEntry}{a:Act}{X:List Nat}
abbrev Ag:=Nat→Obj→Prop
def Sub(h:Ag)(W:World):Prop:=∀b o,h b o→W.heap[b]?=some o
def DG(h k:Ag):Prop:=∀b o o',h b o→k b o'→False
def Le(h k:Ag):Prop:=∀b o,h b o→k b o
def join(h k:Ag):Ag:=fun b o=>h b o∨k b o
def emp:Ag:=fun _ _=>False
def sg(b:Nat)(o:Obj):Ag:=fun b' o'=>b'=b∧o'=o
def bx(b:Nat)(T:TypeId)(l:List Value):Ag:=sg b (.cells l.toArray T (0,0))
def Ok(hs:List Ag)(W:World):Prop:=hs.Pairwise DG∧∀h∈hs,Sub h W
structure B6 (W W':World):Prop where
 os:W'.os=W.os
 tape:W'.tape=W.tape
 output:W'.output=W.output
 size:W.heap.size≤W'.heap.size
def B6.refl(W:World):B6 W W:=⟨rfl,rfl,rfl,ZL _⟩
def B6.trans{a b c}(h:B6 a b)(k:B6 b c):B6 a c:=
 ⟨k.os.trans h.os,k.tape.trans h.tape,k.output.trans h.output,Nat.le_trans h.size k.size⟩
def B6.of_heap(h1:W'.os=W.os)(h2:W'.tape=W.tape)(h3:W'.output=W.output)(h4:W.heap.size≤W'.heap.size):B6 W W':=⟨h1,h2,h3,h4⟩
def Le.refl(h:Ag):Le h h:=fun _ _ e=>e
def Le.trans{a b c}(h:Le a b)(k:Le b c):Le a c:=fun b o e=>k b o (h b o e)
def Sub.le{h k}(hs:Sub k W)(hl:Le h k):Sub h W:=fun b o e=>hs b o (hl b o e)
def DG.symm{h k}(x:DG h k):DG k h:=fun b o o' e e'=>x b o' o e' e
def DG.le{h h' k}(x:DG h k)(hl:Le h' h):DG h' k:=fun b o o' e e'=>x b o o' (hl b o e) e'
def Le.BD(h k:Ag):Le h (join h k):=fun _ _ e=>.inl e
def Le.BZ(h k:Ag):Le k (join h k):=fun _ _ e=>.inr e
def Sub.join{h k}(hs:Sub h W)(ks:Sub k W):Sub (join h k) W:=fun b o e=>e.elim (hs b o) (ks b o)
def DG.join{h k l}(x:DG h l)(y:DG k l):DG (join h k) l:=fun b o o' e e'=>e.elim (fun e=>x b o o' e e') (fun e=>y b o o' e e')
def Sub.lt{h}(hs:Sub h W){o:Obj}(e:h b o):b<W.heap.size:=by
 have:=hs b o e;rcases Acb b W.heap.size with h'|h'
 ·exact h'
 ·rw[Array.getElem?_eq_none h'] at this;cases this
def CI(b:Nat)(o:Obj):sg b o b o:=⟨rfl,rfl⟩
def F1{b':Nat}{o:Obj}(h:sg b o b' o'):b'=b∧o'=o:=h
def Ok.perm{hs hs'}(h:Ok hs W)(p:hs.Perm hs'):Ok hs' W:=
 ⟨(p.pairwise_iff (fun x=>DG.symm x)).1 h.1,fun x hx=>h.2 x (p.mem_iff.2 hx)⟩
def Ok.sub{hs hs'}(h:Ok hs W)(s:hs'.Sublist hs):Ok hs' W:=
 ⟨h.1.sublist s,fun x hx=>h.2 x (s.subset hx)⟩
def Ok.head{h hs}(x:Ok (h::hs) W):Sub h W:=x.2 h (List.mem_cons_self ..)
def Ok.tail{h hs}(x:Ok (h::hs) W):Ok hs W:=x.sub (List.sublist_cons_self ..)
def Ok.DD{h hs}:Ok (h::hs) W↔Sub h W∧(∀k∈hs,DG h k)∧Ok hs W:=by
 simp only[Ok,Aah,ZR,forall_eq_or_imp];constructor
 ·rintro⟨⟨a,b⟩,c,d⟩;exact⟨c,a,b,d⟩
 ·rintro⟨c,a,b,d⟩;exact⟨⟨a,b⟩,c,d⟩
def Ok.freeze{d h hs}(x:Ok (d::h::hs) W):Ok (join d h::hs) W:=by
 rw[Ok.DD,Ok.DD] at x;obtain⟨sd,dd,sh,dh,ok⟩:=x;rw[Ok.DD];exact⟨sd.join sh,fun k hk=>(dd k (List.mem_cons_of_mem _ hk)).join (dh k hk),ok⟩
def Ok.split{h k hs}(x:Ok (join h k::hs) W)(hd:DG h k):Ok (h::k::hs) W:=by
 rw[Ok.DD] at x;obtain⟨s,dd,ok⟩:=x;rw[Ok.DD,Ok.DD];refine⟨s.le (Le.BD h k),?_,s.le (Le.BZ h k),fun l hl=>(dd l hl).le (Le.BZ h k),ok⟩
 intro l hl;rcases ZR.1 hl with rfl|hl
 ·exact hd
 ·exact(dd l hl).le (Le.BD _ _)
def Ok.emp{hs}(x:Ok hs W):Ok (emp::hs) W:=by
 rw[Ok.DD];exact⟨fun b o e=>e.elim,fun k _ b _ _ e=>e.elim,x⟩
def Ok.same{hs}(x:Ok hs W)(e:W'.heap=W.heap):Ok hs W':=
 ⟨x.1,fun h hh b o eo=>by rw[e];exact x.2 h hh b o eo⟩
def Ok.drew{hs}(x:Ok hs W):Ok hs {W with drawn:=W.drawn+1}:=x.same rfl
def Ok.alloc{hs}(x:Ok hs W)(o:Obj):Ok (sg W.heap.size o::hs) (W.alloc o):=by
 rw[Ok.DD];refine⟨fun b o' e=>?_,fun k hk b o1 o2 e1 e2=>?_,x.1,fun h hh b o' e=>?_⟩
 ·obtain⟨rfl,rfl⟩:=F1 e;show(W.heap.push o')[W.heap.size]?=some o';simp
 ·obtain⟨rfl,rfl⟩:=F1 e1;exact absurd ((x.2 k hk).lt e2) (Nat.lt_irrefl _)
 ·have:=(x.2 h hh).lt e;have h1:=x.2 h hh b o' e;show(W.heap.push o)[b]?=_;rw[Array.getElem?_push,if_neg (by omega)];exact h1
def Ok.write{hs}{o:Obj}(x:Ok (sg b o::hs) W)(W':World)(e:W'.heap=W.heap.setIfInBounds b o'):Ok (sg b o'::hs) W':=by
 rw[Ok.DD] at x⊢;obtain⟨s,dd,ok⟩:=x;have hlt:=s.lt (CI b o);refine⟨fun b1 o1 e1=>?_,fun k hk b1 o1 o2 e1 e2=>?_,ok.1,fun h hh b1 o1 e1=>?_⟩
 ·obtain⟨rfl,rfl⟩:=F1 e1;rw[e,Array.getElem?_setIfInBounds,if_pos rfl,if_pos hlt]
 ·obtain⟨rfl,rfl⟩:=F1 e1;exact dd k hk b1 o o2 (CI b1 o) e2
 ·have hne:b1≠b:=by
   rintro rfl;exact dd h hh b1 o o1 (CI _ _) e1
  rw[e,Array.getElem?_setIfInBounds,if_neg (Ne.symm hne)];exact ok.2 h hh b1 o1 e1
def Vs(d:Ag)(L:List Ag)(d':Ag)(L':List Ag):Prop:=
 Le d d'∧∀F W,Ok (d::(L++F)) W→Ok (d'::(L'++F)) W
def Vs.refl(d:Ag)(L:List Ag):Vs d L d L:=⟨Le.refl d,fun _ _ h=>h⟩
def Vs.trans{d d' d'' L L' L''}(h:Vs d L d' L')(k:Vs d' L' d'' L''):Vs d L d'' L'':=
 ⟨h.1.trans k.1,fun F W x=>k.2 F W (h.2 F W x)⟩
def Vs.perm{d L L'}(p:L.Perm L'):Vs d L d L':=
 ⟨Le.refl d,fun F _ x=>x.perm ((p.append_right F).cons d)⟩
def Vs.drop{d L L'}(s:L'.Sublist L):Vs d L d L':=
 ⟨Le.refl d,fun F _ x=>x.sub ((s.append_right F).cons_cons d)⟩
def Vs.freeze{d h L}:Vs d (h::L) (join d h) L:=
 ⟨Le.BD d h,fun _ _ x=>x.freeze⟩
def Vs.split{d h k L}(hd:DG h k):Vs d (join h k::L) d (h::k::L):=
 ⟨Le.refl d,fun F W x=>by
  have y:Ok (join h k::d::(L++F)) W:=x.perm (Z0 _ _ _);have z:=y.split hd;exact z.perm ((Z1 h (Z0 d k _)).trans (Z0 d h _))⟩
def Vs.join{d h k L}:Vs d (h::k::L) d (join h k::L):=
 ⟨Le.refl d,fun F W x=>by
  have y:Ok (h::k::d::(L++F)) W:=x.perm ((Z0 h d _).trans (Z1 h (Z0 k d _)));exact(y.freeze).perm (Z0 _ _ _)⟩
def Vs.emp{d L}:Vs d L d (emp::L):=
 ⟨Le.refl d,fun _ _ x=>(x.emp).perm (Z0 _ _ _)⟩
def pick(L:List Ag)(is:List Nat):List Ag:=is.map fun i=>L.getD i emp
def TK(L:List Ag):pick L (Z8 L.length)=L:=by
 apply List.ext_getElem
 ·simp[pick]
 ·intro i h1 h2;simp[pick,Acd,h2]
def Vs.pick{d L}(is:List Nat)(h:is.isPerm (Z8 L.length)=true):Vs d L d (pick L is):=by
 have hp:is.Perm (Z8 L.length):=List.isPerm_iff.1 h;have:=hp.symm.map fun i=>L.getD i Gk.emp;have h2:(Gk.pick L (Z8 L.length)).Perm (Gk.pick L is):=this;rw[TK] at h2;exact Vs.perm h2
def Ey(P:Program)(f:FuncId):Prop:=∃fn,P.funcs[f]?=some fn∧fn.body.isSome=true∧(fn.name== "runtime.NumGoroutine")=false
def A8(P:Program)(f:FuncId)(args:List Value)(d:Ag)(L:List Ag)(R:Ending→Ag→List Ag→Prop):Prop:=
 Ey P f∧∀F W,Ok (d::(L++F)) W→Calls P f args.toArray W fun e W'=>∃d' L',Ok (d'::(L'++F)) W'∧Le d d'∧B6 W W'∧R e d' L'
def Ret(R:Value→Ag→List Ag→Prop):Ending→Ag→List Ag→Prop
 |.returned v,d,L=>R v d L
 |_,_,_=>False
def A8.mono{args d L R R'}
  (h:A8 P f args d L R) (hr:∀e d' L',Le d d'→R e d' L'→R' e d' L'):A8 P f args d L R':=
 ⟨h.1,fun F W x=>(h.2 F W x).mono fun _ _ ⟨d',L',a,b,c,r⟩=>⟨d',L',a,b,c,hr _ _ _ b r⟩⟩
def A8.vs{args d d1 L L1 R}
  (v:Vs d L d1 L1) (h:A8 P f args d1 L1 R):A8 P f args d L R:=
 ⟨h.1,fun F W x=>(h.2 F W (v.2 F W x)).mono fun _ _ ⟨d',L',a,b,c,r⟩=>⟨d',L',a,v.1.trans b,c,r⟩⟩
variable{d d0:Ag}{Lk L F:List Ag}
abbrev Env:=Nat→Value
def ev(ρ:Env):Operand→Value
 |.tmp t=>ρ t
 |.const v=>v
 |.global g=>.pointer (some ⟨g,0,none⟩)
 |.func f=>.func (.func f) #[] #[]
def upd(ρ:Env)(d:Nat)(v:Value):Env:=fun i=>bif Nat.beq i d then v else ρ i
def put(ρ:Env)(d:Option Nat)(v:Value):Env:=match d with|some d=>upd ρ d v|none=>ρ
inductive MI where
 |mk
 |lk (kd:Nat) (zero:Value) (ok:Bool) (x k:Operand)
 |ln (x:Operand)
 |up (kd:Nat) (x k v:Operand)
 |del (kd:Nat) (x k:Operand)
 |clr (x:Operand)
 |rng (x:Operand)
 |nxt (x:Operand)
 |ent (x:Operand)
 |mkc (bytes:Nat) (x:Operand)
 |cln (x:Operand)
 |cpy (sz:Nat) (x y:Operand)
 |zap (sz bytes:Nat) (zero:List Value) (s x:Operand)
 |clz (sz:Nat) (zero:List Value) (x:Operand)
 |ovl (x y:Operand)
 |s2b (x:Operand)
def MI.Ep:MI→List Operand
 |.mk=>[]
 |.ln x|.clr x|.rng x|.nxt x|.ent x|.mkc _ x|.cln x|.clz _ _ x|.s2b x=>[x]
 |.lk _ _ _ x k|.del _ x k|.cpy _ x k|.zap _ _ _ x k|.ovl x k=>[x,k]
 |.up _ x k v=>[x,k,v]
inductive GI where
 |mv (x:Operand)
 |pick (c a b:Operand)
 |fld (off:Nat) (x:Operand)
 |ld (n:Option Nat) (x:Operand)
 |bin (op:BinOp) (x y:Operand)
 |eqb (neg:Bool) (x y:Operand)
 |eqp (neg:Bool) (x y:Operand)
 |eqs (neg:Bool) (x y:Operand)
 |un (op:UnOp) (x:Operand)
 |cvi (k:IntKind) (x:Operand)
 |b2s (x:Operand)
 |s2s (x:Operand)
 |idx (sz:Nat) (x i:Operand)
 |idxa (len sz:Nat) (x i:Operand)
 |sidx (x i:Operand)
 |aidx (m:Option Nat) (len sz:Nat) (x i:Operand)
 |sl (sz:Nat) (x:Operand) (lo hi mx:Option Operand)
 |sls (x:Operand) (lo hi:Option Operand)
 |sla (len sz:Nat) (x:Operand) (lo hi mx:Option Operand)
 |len (x:Operand)
 |lens (x:Operand)
 |cap (x:Operand)
 |mx2 (x y:Operand)
 |mn2 (x y:Operand)
 |ext (x:Operand) (i:Nat)
 |bld (places:List (Nat×Nat)) (zero:List Value) (parts:List (Nat×Operand))
 |gf (n:Option Nat) (off:Nat) (x:Operand)
 |mkf (fn:Fn) (first captured:List Operand)
 |mki (t:TypeId) (x:Operand)
 |nilc (x:Operand)
 |bcmp (x y:Operand)
 |box (x:Operand)
 |alo (zero:Value)
 |st (n:Nat) (addr val:Operand)
 |bsl (len sz:Nat) (zero:List Value) (parts:List (Nat×Operand))
 |mks (sz bytes:Nat) (zero:List Value) (len cap:Operand)
 |app (sz bytes:Nat) (zero:List Value) (s x:Operand)
 |call (f:FuncId) (args:List Operand)
 |callv (f:Operand) (args:List Operand)
 |pan (x:Operand)
 |eqc (neg:Bool) (offs:List (Nat×Nat)) (x y:Operand)
 |r2s (x:Operand)
 |s2r (x:Operand)
 |tas (t:TypeId) (x:Operand)
 |eqm (neg:Bool) (x y:Operand)
 |s2a (n:Nat) (x:Operand)
 |mop (m:MI)
def GI.quiet:GI→Bool
 |.box .. |.alo .. |.st .. |.bsl .. |.mks .. |.app .. |.call .. |.callv .. |.pan .. |.s2r .. |.mop .. =>false
 |_=>true
structure GOp where
 dst:Option Nat
 guard:Option (Nat×Bool)
 i:GI
inductive GS where
 |done
 |op (take:Bool) (g:GOp) (s:GS)
 |alt (g:GOp) (s t:GS)
 |bar (s:GS)
 |par (a b s:GS)
inductive Cz where
 |skip
 |reg (drawn:Bool) (s:GS)
 |seq (a b:Cz)
 |cond (c:Operand) (a b:Cz)
 |block (id:Nat) (a:Cz)
 |loop (a:Cz)
 |exit (id:Nat)
 |ret
 |bad
inductive Is where
 |tmp (t:Nat)
 |cell (t:Nat) (n:Option Nat)
structure A6 where
 n:Nat
 res:List Is
 code:Cz
def GI.Ep:GI→List Operand
 |.mv x|.fld _ x|.ld _ x|.un _ x|.cvi _ x|.b2s x|.s2s x|.len x|.lens x|.cap x|.ext x _|.gf _ _ x|.mki _ x|.nilc x|.box x|.pan x|.r2s x|.s2r x|.tas _ x|.s2a _ x=>[x]
 |.pick c a b=>[c,a,b]
 |.bin _ x y|.eqb _ x y|.eqp _ x y|.eqs _ x y|.idx _ x y|.idxa _ _ x y|.aidx _ _ _ x y|.sidx x y|.mx2 x y|.mn2 x y|.bcmp x y|.st _ x y|.mks _ _ _ x y|.app _ _ _ x y|.eqc _ _ x y|.eqm _ x y=>[x,y]
 |.sl _ x lo hi mx|.sla _ _ x lo hi mx=>x::(lo.toList++(hi.toList++mx.toList))
 |.sls x lo hi=>x::(lo.toList++hi.toList)
 |.bld _ _ ps|.bsl _ _ _ ps=>ps.map (·.2)
 |.mkf _ f c=>f++c
 |.alo _=>[]
 |.call _ args=>args
 |.callv f args=>f::args
 |.mop m=>m.Ep
def Qo:Operand→List Nat
 |.tmp t=>[t]
 |_=>[]
def GOp.rds(g:GOp):List Nat:=g.i.Ep.flatMap Qo++(match g.guard with|some (t,_)=>[t]|none=>[])
def GS.rds:GS→List Nat
 |.done=>[]
 |.op _ g s=>g.rds++s.rds
 |.alt g s t=>g.rds++(s.rds++t.rds)
 |.bar s=>s.rds
 |.par a b s=>a.rds++(b.rds++s.rds)
def GS.Bu:GS→List Nat
 |.done=>[]
 |.op _ g s=>g.dst.toList++s.Bu
 |.alt g s t=>g.dst.toList++(s.Bu++t.Bu)
 |.bar s=>s.Bu
 |.par a b s=>a.Bu++(b.Bu++s.Bu)
def GS.plain:GS→Bool
 |.done=>true
 |.op _ _ s=>s.plain
 |.alt _ s t=>s.plain && t.plain
 |.par a b s=>a.plain && b.plain && s.plain
 |_=>false
def C2(op:BinOp)(x y:Value):Option Value:=
 match op,x,y with
 |.shl,.int k a,.int _ b=>if b<0 then none else some (.int k (k.wrap (a*2 ^(min b.toNat k.bits))))
 |.shr,.int k a,.int _ b=>if b<0 then none else some (.int k (a.fdiv (2 ^(min b.toNat k.bits))))
 |op,.int k a,.int k' b=>
  if k≠k' then none else
  match op with
  |.add=>some (.int k (k.wrap (a+b)))
  |.sub=>some (.int k (k.wrap (a - b)))
  |.mul=>some (.int k (k.wrap (a*b)))
  |.quo=>if b=0 then none else some (.int k (k.wrap (a.tdiv b)))
  |.rem=>if b=0 then none else some (.int k (a.tmod b))
  |.and=>some (.int k (k.wrap (BitVec.ofInt k.bits a &&& BitVec.ofInt k.bits b).toNat))
  |.or=>some (.int k (k.wrap (BitVec.ofInt k.bits a|||BitVec.ofInt k.bits b).toNat))
  |.xor=>some (.int k (k.wrap (BitVec.ofInt k.bits a ^^^ BitVec.ofInt k.bits b).toNat))
  |.andNot=>some (.int k (k.wrap (BitVec.ofInt k.bits a &&& ~~~BitVec.ofInt k.bits b).toNat))
  |.eql=>some (.bool (a==b))
  |.neq=>some (.bool (a !=b))
  |.lss=>some (.bool (decide (a<b)))
  |.leq=>some (.bool (decide (a≤b)))
  |.gtr=>some (.bool (decide (b<a)))
  |.geq=>some (.bool (decide (b≤a)))
  |_=>none
 |op,.string a,.string b=>
  match op with
  |.add=>if ((a.size+b.size:Nat):Int)>IntKind.i64.max then none else some (.string (a++b))
  |.eql=>some (.bool (a.toList==b.toList))
  |.neq=>some (.bool (!(a.toList==b.toList)))
  |.lss=>some (.bool (Op.bytesLess a.toList b.toList))
  |.leq=>some (.bool (Op.bytesLess a.toList b.toList||a.toList==b.toList))
  |.gtr=>some (.bool (!(Op.bytesLess a.toList b.toList||a.toList==b.toList)))
  |.geq=>some (.bool (!Op.bytesLess a.toList b.toList))
  |_=>none
 |_,_,_=>none
def eq1:Nat→Value→Value→Option Bool
 |0,.int k a,.int k' b=>if k=k' then some (a==b) else none
 |1,.string a,.string b=>some (a==b)
 |2,.bool a,.bool b=>some (a==b)
 |_,_,_=>none
def IA(xs ys:Array Value):List (Nat×Nat)→Option Bool
 |[]=>some true
 |(k,o)::l=>match xs[o]?,ys[o]? with
  |some x,some y=>(eq1 k x y).bind fun r=>if r then IA xs ys l else some false
  |_,_=>none
def BR(l:List UInt8):List Value:=(Conv.runesFrom ⟨l.toArray⟩ l.length 0 #[]).toList
def JP(r:Int):List UInt8:=(Utf8.encode r).data.toList
def unV(op:UnOp)(x:Value):Option Value:=
 match op,x with
 |.neg,.int k n=>some (.int k (k.wrap (0 - n)))
 |.xor,.int k n=>some (.int k (k.wrap (BitVec.ofInt k.bits (if k.signed then -1 else k.max)^^^ BitVec.ofInt k.bits n).toNat))
 |.not,.bool b=>some (.bool (!b))
 |_,_=>none
def bnd(x:Value)(y:Nat):Option Nat:=match x with|.int _ i=>if 0≤i∧i≤(y:Int) then some i.toNat else none|_=>none
def Iz(cap:Nat)(mx:Option Value):Option Nat:=match mx with|some v=>bnd v cap|none=>some cap
def Hr(len m:Nat)(full:Bool)(hi:Option Value):Option Nat:=match hi with|some v=>bnd v m|none=>if full then none else some len
def IB(h:Nat)(lo:Option Value):Option Nat:=match lo with|some v=>bnd v h|none=>some 0
def EU(len cap:Nat)(lo hi mx:Option Value):Option (Nat×Nat×Nat):=
 (Iz cap mx).bind fun m=>(Hr len m mx.isSome hi).bind fun h=>(IB h lo).map fun l=>(l,h,m)
def BC(zero:List Value)(n:Nat):List Value:=(Z8 n).map fun i=>zero.getD (i % zero.length) undef
def patch(l:List Value)(o:Nat)(vs:List Value):List Value:=l.take o++vs++l.drop (o+vs.length)
def Al(l:List UInt8):Value:=.string ⟨l.toArray⟩
def Bz(b:UInt8):Value:=.int .u8 b.toNat
def HC(d:Ag)(L:List Ag)(a:Addr)(v:Value):Prop:=
 a.spot=none∧∃h,(h=d∨h∈L)∧∃c T fr,h a.block (.cells c T fr)∧c[a.off]?=some v
def Fj(C:Addr→Value→Prop)(v:Value)(l:List UInt8):Prop:=
 v=Al l∨∃a c,v=.slice a l.length c∧(a=none→l=[])∧∀a',a=some a'→∀i u,l[i]?=some u→C (a'.add i) (Bz u)
def evq(ρ:Env)(C:Addr→Value→Prop):GI→Value→Prop
 |.mv x,v=>v=ev ρ x
 |.pick c a b,v=>∃t,ev ρ c=.bool t∧v=if t then ev ρ a else ev ρ b
 |.fld off x,v=>∃b o,ev ρ x=.pointer (some ⟨b,o,none⟩)∧v=.pointer (some ⟨b,o+off,none⟩)
 |.ld none x,v=>∃b o,ev ρ x=.pointer (some ⟨b,o,none⟩)∧C ⟨b,o,none⟩ v
 |.ld (some n) x,v=>∃(b o:Nat) (cs:List Value),ev ρ x=.pointer (some ⟨b,o,none⟩)∧cs.length=n∧(∀i u,cs[i]?=some u→C ⟨b,o+i,none⟩ u)∧v=.agg cs.toArray
 |.bin op x y,v=>C2 op (ev ρ x) (ev ρ y)=some v
 |.eqb neg x y,v=>∃a b,ev ρ x=.bool a∧ev ρ y=.bool b∧v=.bool (neg ^^(a==b))
 |.eqp neg x y,v=>∃a b,ev ρ x=.pointer a∧ev ρ y=.pointer b∧(a=none∨b=none∨a.map (·.block)=b.map (·.block))∧v=.bool (neg ^^(a==b))
 |.eqs neg x y,v=>∃a n c,ev ρ x=.slice a n c∧(∃n c,ev ρ y=.slice none n c)∧v=.bool (neg ^^ a.isNone)
 |.un op x,v=>unV op (ev ρ x)=some v
 |.cvi k x,v=>∃j n,ev ρ x=.int j n∧v=.int k (k.wrap n)
 |.b2s x,v=>∃a l c,ev ρ x=.slice a l.length c∧(a=none→l=[])∧(∀a',a=some a'→∀i u,l[i]?=some u→C (a'.add i) (Bz u))∧v=Al l
 |.s2s x,v=>(∃s,ev ρ x=.string s)∧v=ev ρ x
 |.idx sz x i,v=>∃b o n c k j,ev ρ x=.slice (some ⟨b,o,none⟩) n c∧ev ρ i=.int k j∧0≤j∧j<n∧v=.pointer (some ⟨b,o+j.toNat*sz,none⟩)
 |.idxa len sz x i,v=>∃b o k j,ev ρ x=.pointer (some ⟨b,o,none⟩)∧ev ρ i=.int k j∧0≤j∧j<len∧v=.pointer (some ⟨b,o+j.toNat*sz,none⟩)
 |.sidx x i,v=>∃l k j u,ev ρ x=Al l∧ev ρ i=.int k j∧0≤j∧l[j.toNat]?=some u∧v=Bz u
 |.aidx none len sz x i,v=>∃cs k j,ev ρ x=.agg cs∧ev ρ i=.int k j∧0≤j∧j<len∧cs[j.toNat*sz]?=some v
 |.aidx (some n) len sz x i,v=>∃cs k j,ev ρ x=.agg cs∧ev ρ i=.int k j∧0≤j∧j<len∧v=.agg (cs.extract (j.toNat*sz) (j.toNat*sz+n))
 |.sl sz x lo hi mx,v=>∃a n c l h m,ev ρ x=.slice a n c∧(m≠l→∀a',a=some a'→a'.spot=none)∧EU n c (lo.map (ev ρ)) (hi.map (ev ρ)) (mx.map (ev ρ))=some (l,h,m)∧
   v=.slice (if m=l then a else a.map fun a=>⟨a.block,a.off+l*sz,none⟩) (h - l) (m - l)
 |.sls x lo hi,v=>∃s l h m,ev ρ x=Al s∧EU s.length s.length (lo.map (ev ρ)) (hi.map (ev ρ)) none=some (l,h,m)∧v=Al ((s.drop l).take (h - l))
 |.sla len sz x lo hi mx,v=>∃b o l h m,ev ρ x=.pointer (some ⟨b,o,none⟩)∧EU len len (lo.map (ev ρ)) (hi.map (ev ρ)) (mx.map (ev ρ))=some (l,h,m)∧
   v=.slice (some (if m=l then⟨b,o,none⟩ else⟨b,o+l*sz,none⟩)) (h - l) (m - l)
 |.len x,v=>∃a n c,ev ρ x=.slice a n c∧v=.int .i64 n
 |.lens x,v=>∃l,ev ρ x=Al l∧v=.int .i64 l.length
 |.cap x,v=>∃a n c,ev ρ x=.slice a n c∧v=.int .i64 c
 |.mx2 x y,v=>∃k a b,ev ρ x=.int k a∧ev ρ y=.int k b∧v=.int k (if b>a then b else a)
 |.mn2 x y,v=>∃k a b,ev ρ x=.int k a∧ev ρ y=.int k b∧v=.int k (if b<a then b else a)
 |.ext x i,v=>∃vs,ev ρ x=.tuple vs∧vs[i]?=some v
 |.bld places zero parts,v=>∃cs,Instr.fill (places[·]?) zero.toArray (parts.map fun p=>(p.1,ev ρ p.2))=some cs∧v=.agg cs
 |.gf none off x,v=>∃cs,ev ρ x=.agg cs∧cs[off]?=some v
 |.gf (some n) off x,v=>∃cs,ev ρ x=.agg cs∧v=.agg (cs.extract off (off+n))
 |.mkf fn first captured,v=>v=.func fn (first.map (ev ρ)).toArray (captured.map (ev ρ)).toArray
 |.mki t x,v=>v=.iface t (ev ρ x)
 |.bcmp x y,v=>∃l m,Fj C (ev ρ x) l∧Fj C (ev ρ y) m∧v=.int .i64 (Lib.compareBytes l m)
 |.nilc x,v=>(∃a,ev ρ x=.pointer (some a))∧v=ev ρ x
 |.eqc neg offs x y,v=>∃xs ys r,ev ρ x=.agg xs∧ev ρ y=.agg ys∧IA xs ys offs=some r∧v=.bool (neg ^^ r)
 |.tas t x,v=>ev ρ x=.iface t v
 |.eqm neg x y,v=>∃m,ev ρ x=.map m∧ev ρ y=.map none∧v=.bool (neg ^^ m.isNone)
 |.s2a n x,v=>∃a len c,ev ρ x=.slice a len c∧n≤len∧v=.pointer a
 |.r2s x,v=>∃(a:Option Addr) (rs:List Int) (c:Nat),ev ρ x=.slice a rs.length c∧(a=none→rs=[])∧(∀a',a=some a'→∀i r,rs[i]?=some r→C (a'.add i) (.int .i32 r))∧v=Al (rs.flatMap JP)
 |_,_=>False
abbrev A0:=Ag→List Ag→Prop
def HO(d:Ag)(L:List Ag)(b:Nat)(o:Obj):Prop:=∃h,(h=d∨h∈L)∧h b o
def FK(kd:Nat)(k:Value):List MapEntry→Nat→Option (Option (Nat×Value))
 |[],_=>some none
 |e::es,i=>match eq1 kd k e.key with
  |some true=>some (some (i,e.val))
  |some false=>FK kd k es (i+1)
  |none=>none
def H9(d:Ag)(L:List Ag)(v:Value)(es:List MapEntry):Prop:=(v=.map none∧es=[])∨∃b c,v=.map (some b)∧HO d L b (.map es.toArray c)
def lkV(z:Value)(ok:Bool)(r:Option (Nat×Value)):Value:=
 match r with
 |some (_,v)=>if ok then .tuple #[v,.bool true] else v
 |none=>if ok then .tuple #[z,.bool false] else z
def upO(es:List MapEntry)(c:Nat)(k v:Value)(r:Option (Nat×Value)):Obj:=
 match r with
 |some (j,_)=>.map (es.modify j fun e:MapEntry=>{e with val:=v}).toArray c
 |none=>.map (es++[(⟨k,v,c⟩:MapEntry)]).toArray (c+1)
def QW(es:List MapEntry)(c:Nat)(r:Option (Nat×Value)):Obj:=
 match r with
 |some (j,_)=>.map (es.eraseIdx j).toArray c
 |none=>.map es.toArray c
def mi(ρ:Env)(d:Ag)(Lk L:List Ag)(K:Value→A0):MI→Prop
 |.mk=>∀b,K (.map (some b)) d (sg b (.map #[] 0)::L)
 |.lk kd z ok x k=>∃es r,H9 d (Lk++L) (ev ρ x) es∧FK kd (ev ρ k) es 0=some r∧K (lkV z ok r) d L
 |.ln x=>∃es,H9 d (Lk++L) (ev ρ x) es∧K (.int .i64 es.length) d L
 |.up kd x k v=>∃i b es c r,L[i]?=some (sg b (.map (Acx es) c))∧ev ρ x=.map (some b)∧FK kd (ev ρ k) es 0=some r∧K undef d (L.set i (sg b (upO es c (ev ρ k) (ev ρ v) r)))
 |.del kd x k=>∃i b es c r,L[i]?=some (sg b (.map (Acx es) c))∧ev ρ x=.map (some b)∧FK kd (ev ρ k) es 0=some r∧K (.tuple #[]) d (L.set i (sg b (QW es c r)))
 |.clr x=>∃i b es c,L[i]?=some (sg b (.map es c))∧ev ρ x=.map (some b)∧K (.tuple #[]) d (L.set i (sg b (.map #[] c)))
 |.rng x=>∃b es c,ev ρ x=.map (some b)∧HO d (Lk++L) b (.map es c)∧∀q,K (.pointer (some ⟨q,0,none⟩)) d (sg q (.mapIter (some b) c #[] c)::L)
 |.nxt x=>∃i q b since seen last es c,L[i]?=some (sg q (.mapIter (some b) since seen last))∧ev ρ x=.pointer (some ⟨q,0,none⟩)∧HO d (Lk++L) b (.map (Acx es) c)∧
   (seen= #[]∨∃e∈es,e.born<last)∧
   (∀e∈es,e.born∉seen→K (.tuple #[.bool true,e.key,e.val]) d (L.set i (sg q (.mapIter (some b) since (seen.push e.born) c))))∧
   ((∀e∈es,e.born<since→e.born∈seen)→K (.tuple #[.bool false]) d L)
 |.ent x=>∃q b since seen last j es e,ev ρ x=.pointer (some ⟨q,0,none⟩)∧HO d (Lk++L) q (.mapIter (some b) since seen last)∧seen.back?=some j∧HO d (Lk++L) b (.map (Acx es) last)∧es.find? (·.born==j)=some e∧K (.tuple #[e.key,e.val]) d L
 |.mkc by_ x=>∃k n,ev ρ x=.int k (n:Nat)∧by_*n+112≤2 ^ 48∧n<2 ^ 63∧∀b,K (.chan (some b)) d (sg b (.chan n #[] false 0 0 false)::L)
 |.cln x=>∃t b es c,ev ρ x=.iface t (.map (some b))∧HO d (Lk++L) b (.map es c)∧∀q,K (.iface t (.map (some q))) d (sg q (.map es c)::L)
 |.cpy sz x y=>∃sa n c xa m xc news,ev ρ x=.slice sa n c∧ev ρ y=.slice xa m xc∧news.length=min m n*sz∧(news.all (·.oneCell'))=true∧
   (xa=none→news=[])∧(∀a',xa=some a'→∀i u,news[i]?=some u→HC d (Lk++L) (a'.add i) u)∧
   ((news=[]∧K (.int .i64 ((min m n:Nat):Int)) d L)∨∃i b o T l,sa=some ⟨b,o,none⟩∧L[i]?=some (bx b T l)∧o+news.length≤l.length∧K (.int .i64 ((min m n:Nat):Int)) d (L.set i (bx b T (patch l o news))))
 |.zap sz by_ zero s x=>∃sa n c m olds,ev ρ s=.slice sa n c∧ev ρ x=.int .i64 ((m:Nat):Int)∧c<n+m∧n+m≤maxLen∧(n+m)*by_≤2 ^ 47∧olds.length=n*sz∧(sa=none→olds=[])∧
   (∀a',sa=some a'→∀i u,olds[i]?=some u→HC d (Lk++L) (a'.add i) u)∧∀b T c',n+m≤c'→c'≤maxLen→K (.slice (some ⟨b,0,none⟩) (n+m) c') d (bx b T (olds++BC zero ((c' - n)*sz))::L)
 |.clz sz zero x=>∃a n c,ev ρ x=.slice a n c∧((n=0∧K (.tuple #[]) d L)∨∃i b o T l,a=some ⟨b,o,none⟩∧L[i]?=some (bx b T l)∧o+n*sz≤l.length∧K (.tuple #[]) d (L.set i (bx b T (patch l o (BC zero (n*sz))))))
 |.s2b x=>∃l,ev ρ x=Al l∧l.length≤140737488355328∧∀b T fr c,l.length≤c→c≤maxLen→K (.slice (some ⟨b,0,none⟩) l.length c) d (sg b (.cells (l.map Bz++ZI (c - l.length) (Value.int .u8 0)).toArray T fr)::L)
 |.ovl x y=>∃a n c a' n' c',ev ρ x=.slice a n c∧ev ρ y=.slice a' n' c'∧K (.bool false) d L∧
   (n=0∨n'=0∨∃(i j b o:Nat) (T:TypeId) (l:List Value) (b' o':Nat) (T':TypeId) (l':List Value),a=some ⟨b,o,none⟩∧a'=some ⟨b',o',none⟩∧i≠j∧L[i]?=some (bx b T l)∧L[j]?=some (bx b' T' l')∧l'≠[])
def gi(P:Program)(pan:List PanicEntry→A0)(ρ:Env)(d:Ag)(Lk L:List Ag)(K:Value→A0):GI→Prop
 |.box x=>∀b T,K (.pointer (some ⟨b,0,none⟩)) d (bx b T (ev ρ x).cells.toList::L)
 |.alo z=>∀b T,K (.pointer (some ⟨b,0,none⟩)) d (bx b T z.cells.toList::L)
 |.st n addr val=>∃i b o T l,L[i]?=some (bx b T l)∧ev ρ addr=.pointer (some ⟨b,o,none⟩)∧(ev ρ val).cells.size=n∧o+n≤l.length∧
   ((ev ρ val).cells.toList.all (·.oneCell'))=true∧K undef d (L.set i (bx b T (patch l o (ev ρ val).cells.toList)))
 |.bsl n sz zero parts=>n*sz≤2 ^ 24∧∃cs,Instr.fill (fun i=>some (i*sz,sz)) (BC zero (n*sz)).toArray (parts.map fun p=>(p.1,ev ρ p.2))=some cs∧
   ∀b T,K (.slice (some ⟨b,0,none⟩) n n) d (bx b T cs.toList::L)
 |.mks sz bytes zero len cap=>∃k k' n c,ev ρ len=.int k (n:Nat)∧ev ρ cap=.int k' (c:Nat)∧n≤c∧c≤maxLen∧bytes*c≤2 ^ 48∧
   ∀b T,K (.slice (some ⟨b,0,none⟩) n c) d (bx b T (BC zero (c*sz))::L)
 |.app sz bytes zero s x=>∃sa n c xa m xc news,ev ρ s=.slice sa n c∧ev ρ x=.slice xa m xc∧news.length=m*sz∧(news.all (·.oneCell'))=true∧
   (xa=none→news=[])∧(∀a',xa=some a'→∀i u,news[i]?=some u→HC d (Lk++L) (a'.add i) u)∧n+m≤maxLen∧c≤maxLen∧
   (n+m≤c→(news=[]∧K (.slice sa (n+m) c) d L)∨∃i b o T l,sa=some ⟨b,o,none⟩∧L[i]?=some (bx b T l)∧o+(n+m)*sz≤l.length∧K (.slice sa (n+m) c) d (L.set i (bx b T (patch l (o+n*sz) news))))∧
   (c<n+m→(n+m)*bytes≤2 ^ 47∧∃olds,olds.length=n*sz∧(sa=none→olds=[])∧(∀a',sa=some a'→∀i u,olds[i]?=some u→HC d (Lk++L) (a'.add i) u)∧
    ∀b T c',n+m≤c'→c'≤maxLen→K (.slice (some ⟨b,0,none⟩) (n+m) c') d (bx b T (olds++news++BC zero ((c' - (n+m))*sz))::L))
 |.call f args=>(∃L1 L2 R,L=L1++L2∧A8 P f (args.map (ev ρ)) d L1 R∧∀e d' L',Le d d'→R e d' L'→
   match e with|.returned v=>K v d' (L'++L2)|.panicked c=>pan c d' (L'++L2)|.outgrown=>False)∨
  ∃B R,Lk=B++L∧A8 P f (args.map (ev ρ)) d (B++L) R∧∀e d' L',Le d d'→R e d' L'→∃L'',L'=B++L''∧
   match e with|.returned v=>K v d' L''|.panicked c=>pan c d' L''|.outgrown=>False
 |.callv f args=>∃g first cap L1 L2 R,ev ρ f=.func (.func g) first cap∧L=L1++L2∧A8 P g (first.toList++args.map (ev ρ)++cap.toList) d L1 R∧∀e d' L',Le d d'→R e d' L'→
   match e with|.returned v=>K v d' (L'++L2)|.panicked c=>pan c d' (L'++L2)|.outgrown=>False
 |.s2r x=>∃l,ev ρ x=Al l∧(BR l).length≤140737488355328∧∀b T c,(BR l).length≤c→c≤maxLen→K (.slice (some ⟨b,0,none⟩) (BR l).length c) d (bx b T (BR l++ZI (c - (BR l).length) (.int .i32 0))::L)
 |.pan x=>∃t v,ev ρ x=.iface t v∧pan [{v:=.iface t v,recovered:=false}] d L
 |.mop m=>mi ρ d Lk L K m
 |q=>∃v,evq ρ (HC d Lk) q v∧K v d L
def gop(P:Program)(pan:List PanicEntry→A0)(g:GOp)(ρ:Env)(d:Ag)(Lk L:List Ag)(K:Env→A0):Prop:=
 match g.guard with
 |none=>gi P pan ρ d Lk L (fun v d' L'=>K (put ρ g.dst v) d' L') g.i
 |some (t,want)=>(∃b,ρ t=.bool b∧(b=want→gi P pan ρ d Lk L (fun v d' L'=>K (put ρ g.dst v) d' L') g.i)∧(b= !want→K (put ρ g.dst undef) d L))∨(ρ t=undef∧K (put ρ g.dst undef) d L)
def Off(X:List Nat)(ρ ρ':Env):Prop:=∀t,t∉X→ρ' t=ρ t
def Mr(X:List Nat)(R:Env→A0):Prop:=∀ρ ρ' d d' L,Off X ρ ρ'→Le d d'→R ρ d L→R ρ' d' L
def Ce:List PanicEntry→A0:=fun _ _ _=>False
def FI(Ls:List Ag)(R:Env→A0):Env→A0:=fun ρ d L=>∃M,L=Ls++M∧R ρ d M
def gws(P:Program)(pan:List PanicEntry→A0)(Qn:Env→A0)(s:GS)(Ls:List Ag)(ρ:Env)(d:Ag)(L:List Ag):Prop:=
 match s,Ls,ρ,d,L with
 |.done,Ls,ρ,d,L=>∃d1 L1,Vs d (Ls++L) d1 L1∧Qn ρ d1 L1
 |.op true g s,Ls,ρ,d,L=>gop P pan g ρ d Ls L (fun ρ' d' L'=>gws P pan Qn s Ls ρ' d' L')
 |.op false g s,Ls,ρ,d,L=>∃d1 L1,Vs d L d1 L1∧gop P (fun c d' L'=>pan c d' (Ls++L')) g ρ d1 (Ls++L1) L1 (fun ρ' d' L'=>∃d2 L2,Vs d' L' d2 L2∧gws P pan Qn s Ls ρ' d2 L2)
 |.alt g s t,Ls,ρ,d,L=>(∃d1 L1,Vs d L d1 L1∧gop P (fun c d' L'=>pan c d' (Ls++L')) g ρ d1 (Ls++L1) L1 (fun ρ' d' L'=>∃d2 L2,Vs d' L' d2 L2∧gws P pan Qn s Ls ρ' d2 L2))∧gws P pan Qn t Ls ρ d L
 |.bar s,Ls,ρ,d,L=>gws P pan Qn s [] ρ d (Ls++L)
 |.par a b s,Ls,ρ,d,L=>∃(Ra Rb:Env→A0) (d1:Ag) (L1 L2:List Ag),Vs d L d1 (L1++L2)∧Mr b.Bu Ra∧Mr a.Bu Rb∧gws P Ce (FI Ls Ra) a Ls ρ d1 L1∧gws P Ce (FI Ls Rb) b Ls ρ d1 L2∧
   ∀ρ' d' M1 M2,Le d1 d'→Off (a.Bu++b.Bu) ρ ρ'→Ra ρ' d' M1→Rb ρ' d' M2→gws P pan Qn s Ls ρ' d' (M1++M2)
structure Er where
 n:Env→A0
 ex:Nat→Env→A0
 ret:Env→A0
 pan:List PanicEntry→A0
def gwp(P:Program):Cz→Er→Env→Ag→List Ag→Prop
 |.skip,Q=>Q.n
 |.reg false s,Q=>fun ρ d L=>gws P Q.pan Q.n s [] ρ d L
 |.reg true s,Q=>fun ρ d L=>∃d1 Ls L1,Vs d L d1 (Ls++L1)∧gws P Q.pan Q.n s Ls ρ d1 L1
 |.seq a b,Q=>gwp P a {Q with n:=gwp P b Q}
 |.cond c a b,Q=>fun ρ d L=>∃t,ev ρ c=.bool t∧(t=true→gwp P a Q ρ d L)∧(t=false→gwp P b Q ρ d L)
 |.block id a,Q=>gwp P a {Q with ex:=fun j=>if j=id then Q.n else Q.ex j}
 |.loop a,Q=>fun ρ d L=>∃I:Nat→Env→A0,(∃m,I m ρ d L)∧∀m ρ d L,I m ρ d L→gwp P a {Q with n:=fun ρ d L=>∃m',m'<m∧I m' ρ d L} ρ d L
 |.exit id,Q=>Q.ex id
 |.ret,Q=>Q.ret
 |.bad,_=>fun _ _ _=>False
def FC(n:Nat):Operand→Bool
 |.tmp t=>decide (t<n)
 |_=>true
def DK(P:Program)(t:TypeId):Option (Option Nat):=
 match P.underlying t,P.info? t with
 |some (.struct _),some i|some (.array _ _),some i=>some (some i.size)
 |some _,some _=>some none
 |_,_=>none
def Ti(P:Program)(f:FuncId):Bool:=
 match P.funcs[f]? with
 |some fn=>fn.body.isNone &&(fn.name== "internal/bytealg.Compare" ||fn.name== "internal/bytealg.abigen_runtime_cmpstring")&& fn.origin== ""
 |none=>false
def Oz(P:Program)(f:FuncId):Bool:=
 match P.funcs[f]? with
 |some fn=>fn.body.isNone && fn.name== "maps.clone" && fn.origin== ""
 |none=>false
def S3(P:Program)(f:FuncId):Bool:=
 match P.funcs[f]? with
 |some fn=>fn.body.isNone &&(fn.name== "slices.overlaps[[]byte]" ||fn.name== "slices.overlaps[int]")&& fn.origin== "slices.overlaps" &&(match fn.params[0]? with|some t=>(match P.underlying t with|some (.slice e)=>(P.info? e).isSome|_=>false)|none=>false)
 |none=>false
def PF(P:Program)(f:Field):Option (Nat×Nat):=
 if f.name== "_" ||DK P f.type !=some none then none else
  match P.underlying f.type with
  |some (.int _)=>some (0,f.offset)
  |some .string=>some (1,f.offset)
  |some .bool=>some (2,f.offset)
  |_=>none
def KE(P:Program)(t:TypeId)(fs:Array Field):Option (List (Nat×Nat)):=
 if P.stoodInHeld t||P.eqGuardType P.depth t then none else fs.toList.mapM (PF P)
def Fz(P:Program)(t:TypeId):Option Nat:=
 match P.underlying t with
 |some (.int _)=>some 0
 |some .string=>some 1
 |some .bool=>some 2
 |_=>none
def Qb(P:Program)(o:Oper):Option MI:=
 match o.op with
 |.makeMap t none=>match P.underlying t with|some (.map _ _)=>some .mk|_=>none
 |.lookup t x k ok=>match P.underlying t with
  |some (.map kt e)=>match Fz P kt,P.info? e with
   |some kd,some i=>i.zero.map fun z=>.lk kd z ok x k
   |_,_=>none
  |_=>none
 |.mapUpdate t x k v|.insert t x k v=>match P.underlying t with
  |some (.map kt _)=>(Fz P kt).map fun kd=>.up kd x k v
  |_=>none
 |.range t x=>match P.underlying t with|some (.map _ _)=>some (.rng x)|_=>none
 |.next x isS=>if isS then none else some (.nxt x)
 |.entry x=>some (.ent x)
 |.makeChan t x=>match P.underlying t with|some (.chan _ e)=>(P.info? e).map fun i=>.mkc i.bytes x|_=>none
 |.call ⟨.value (.func f),⟨[x]⟩,_⟩=>if Oz P f then some (.cln x) else none
 |.call ⟨.value (.func f),⟨[x,y]⟩,_⟩=>if S3 P f then some (.ovl x y) else none
 |.call ⟨.builtin .append,⟨[s,x]⟩,⟨[t,t']⟩⟩=>match P.underlying t,P.underlying t' with
  |some (.slice e),some (.int _)=>match P.info? e with
   |some i=>match i.zero with|some z=>if i.size=0∨i.bytes=0∨z.cells.size≠i.size then none else some (.zap i.size i.bytes z.cells.toList s x)|none=>none
   |none=>none
  |_,_=>none
 |.call ⟨.builtin .copy,⟨[x,y]⟩,⟨[t,t']⟩⟩=>match P.underlying t,P.underlying t' with
  |some (.slice e),some (.slice _)=>(P.info? e).map fun i=>.cpy i.size x y
  |_,_=>none
 |.call ⟨.builtin .len,⟨[x]⟩,⟨[t]⟩⟩=>match P.underlying t with|some (.map _ _)=>some (.ln x)|_=>none
 |.call ⟨.builtin .delete,⟨[x,k]⟩,⟨t::_⟩⟩=>match P.underlying t with|some (.map kt _)=>(Fz P kt).map fun kd=>.del kd x k|_=>none
 |.call ⟨.builtin .clear,⟨[x]⟩,⟨[t]⟩⟩=>match P.underlying t with
  |some (.map _ _)=>some (.clr x)
  |some (.slice e)=>match P.info? e with
   |some i=>match i.zero with|some z=>if i.size=0∨z.cells.size≠i.size∨(z.cells.toList.all (·.oneCell'))=false then none else some (.clz i.size z.cells.toList x)|none=>none
   |none=>none
  |_=>none
 |.convert s t x=>match P.underlying s,P.underlying t with
  |some .string,some (.slice e)=>match P.underlying e with|some (.int .u8)=>some (.s2b x)|_=>none
  |_,_=>none
 |_=>none
def Lt(P:Program)(o:Oper):Option GI:=
 match o.op with
 |.move x|.assign x=>some (.mv x)
 |.pick c a b=>some (.pick c a b)
 |.fieldAddr s x f=>
  match P.underlying s with
  |some (.struct fs)=>match fs[f]? with
   |some fl=>match P.info? fl.type with
    |some i=>if i.size=0 then none else some (.fld fl.offset x)
    |none=>none
   |none=>none
  |_=>none
 |.load t x=>(DK P t).map fun n=>.ld n x
 |.store t a x=>match P.info? t with|some i=>some (.st i.size a x)|none=>none
 |.box _ x=>some (.box x)
 |.alloc t=>match P.info? t with|some i=>i.zero.map fun z=>.alo z|none=>none
 |.binOp op t x y _=>
  match op with
  |.eql|.neq=>
   match P.underlying t with
   |some (.int _)|some .string=>some (.bin op x y)
   |some .bool=>some (.eqb (op matches .neq) x y)
   |some (.pointer e)=>match P.info? e with|some i=>if i.size=0 then none else some (.eqp (op matches .neq) x y)|none=>none
   |some (.slice _)=>some (.eqs (op matches .neq) x y)
   |some (.map _ _)=>some (.eqm (op matches .neq) x y)
   |some (.struct fs)=>(KE P t fs).map fun offs=>.eqc (op matches .neq) offs x y
   |_=>none
  |_=>some (.bin op x y)
 |.unOp op _ x=>some (.un op x)
 |.convert s t x=>
  match P.underlying s,P.underlying t with
  |some (.int _),some (.int k)=>some (.cvi k x)
  |some .string,some .string=>some (.s2s x)
  |some (.slice e),some .string=>match P.underlying e with|some (.int .u8)=>some (.b2s x)|some (.int .i32)=>some (.r2s x)|_=>none
  |some .string,some (.slice e)=>match P.underlying e with|some (.int .i32)=>some (.s2r x)|_=>none
  |_,_=>none
 |.indexAddr t x i=>
  match P.underlying t with
  |some (.slice e)=>match P.info? e with|some f=>some (.idx f.size x i)|none=>none
  |some (.array n e)=>match P.info? e with|some f=>some (.idxa n f.size x i)|none=>none
  |_=>none
 |.index t x i=>match P.underlying t with
  |some .string=>some (.sidx x i)
  |some (.array n e)=>match P.info? e with
   |some f=>(DK P e).map fun m=>.aidx m n f.size x i
   |none=>none
  |_=>none
 |.slice t x lo hi mx=>
  match P.underlying t with
  |some (.slice e)=>match P.info? e with|some f=>some (.sl f.size x lo hi mx)|none=>none
  |some (.array n e)=>match P.info? e with|some f=>some (.sla n f.size x lo hi mx)|none=>none
  |some .string=>if mx.isSome then none else some (.sls x lo hi)
  |_=>none
 |.extract x i=>some (.ext x i)
 |.build t parts=>
  match P.underlying t,P.info? t with
  |some (.struct fs),some i=>match i.zero,(fs.toList.mapM fun f=>(P.info? f.type).map fun g=>(f.offset,g.size)) with
   |some z,some places=>some (.bld places z.cells.toList parts.toList)
   |_,_=>none
  |some (.array n e),some i=>match i.zero,P.info? e with
   |some z,some f=>some (.bld ((Z8 n).map fun k=>(k*f.size,f.size)) z.cells.toList parts.toList)
   |_,_=>none
  |_,_=>none
 |.buildSlice t n parts=>
  match P.underlying t with
  |some (.slice e)=>match P.info? e with
   |some i=>match i.zero with|some z=>if z.cells.size=i.size then some (.bsl n i.size z.cells.toList parts.toList) else none|none=>none
   |none=>none
  |_=>none
 |.makeSlice t l c=>
  match P.underlying t with
  |some (.slice e)=>match P.info? e with
   |some i=>match i.zero with|some z=>if z.cells.size=i.size then some (.mks i.size i.bytes z.cells.toList l c) else none|none=>none
   |none=>none
  |_=>none
 |.field t x f=>
  match P.underlying t with
  |some (.struct fs)=>match fs[f]? with
   |some fl=>(DK P fl.type).map fun n=>.gf n fl.offset x
   |none=>none
  |_=>none
 |.makeFunc fn first cap=>some (.mkf fn first.toList cap.toList)
 |.makeInterface t x=>match P.underlying t with|some (.interface _)=>none|some _=>some (.mki t x)|none=>none
 |.nilCheck x=>some (.nilc x)
 |.typeAssert x _ t ok=>if ok then none else match P.underlying t with|some (.interface _)=>none|some _=>some (.tas t x)|none=>none
 |.sliceToArrayPointer t x=>match P.underlying t with|some (.array n _)=>some (.s2a n x)|_=>none
 |.panic x=>some (.pan x)
 |.call c=>
  match c.callee with
  |.value (.func f)=>if Ti P f then(match c.args.toList with|[x,y]=>some (.bcmp x y)|_=>none) else some (.call f c.args.toList)
  |.value x=>some (.callv x c.args.toList)
  |.builtin .len=>match c.args.toList,c.argTypes.toList with
   |[x],[t]=>match P.underlying t with|some .string=>some (.lens x)|some (.slice _)=>some (.len x)|_=>none
   |_,_=>none
  |.builtin .cap=>match c.args.toList,c.argTypes.toList with
   |[x],[t]=>match P.underlying t with|some (.slice _)=>some (.cap x)|_=>none
   |_,_=>none
  |.builtin .max=>match c.args.toList with|[x,y]=>some (.mx2 x y)|_=>none
  |.builtin .min=>match c.args.toList with|[x,y]=>some (.mn2 x y)|_=>none
  |.builtin .append=>match c.args.toList,c.argTypes.toList with
   |[s,x],[t,t']=>match P.underlying t,P.underlying t' with
    |some (.slice e),some (.slice _)=>match P.info? e with
     |some i=>match i.zero with
      |some z=>if i.size=0∨i.bytes=0∨z.cells.size≠i.size then none else some (.app i.size i.bytes z.cells.toList s x)
      |none=>none
     |none=>none
    |_,_=>none
   |_,_=>none
  |_=>none
 |_=>none
def LV(P:Program)(o:Oper):Option GI:=match Qb P o with|some m=>some (.mop m)|none=>Lt P o
def WZ(n:Nat):Option Nat→Bool|some t=>decide (t<n)|none=>true
def W3:Op→Bool|.select .. =>false|_=>true
def GD(P:Program)(n:Nat)(ops:Array Oper)(o:Oper):Option GOp:=
 if (o.op.operands.toList.all (FC n))&& WZ n o.dst && W3 o.op then
  match LV P o with
  |none=>none
  |some i=>match o.guard with
   |none=>some ⟨o.dst,none,i⟩
   |some (j,want)=>match (ops[j]?).bind (·.dst) with
    |some t=>if t<n then some ⟨o.dst,some (t,want),i⟩ else none
    |none=>none
 else none
inductive SI where
 |done
 |op (take:Bool) (i:Nat) (s:SI)
 |alt (i:Nat) (s t:SI)
 |bar (s:SI)
 |par (la lb:List Nat) (a b s:SI)
def SI.fin:SI→Bool
 |.done=>true
 |.par _ _ a b s=>a.fin && b.fin && s.fin
 |_=>false
def SI.Cp:SI→List Nat
 |.op _ i _=>[i]
 |.alt i _ t=>i::t.Cp
 |.par _ _ a b s=>if a.fin && b.fin then s.Cp else a.Cp++b.Cp
 |_=>[]
def SI.front:SI→Option Nat
 |.op true i _=>some i
 |.par _ _ a b s=>match a.front with
  |some i=>some i
  |none=>match b.front with
   |some i=>some i
   |none=>if a.fin && b.fin then s.front else none
 |_=>none
def SI.steps:SI→Nat
 |.done=>0
 |.op _ _ s=>s.steps+1
 |.alt _ s t=>max (s.steps+1) t.steps
 |.bar s=>s.steps
 |.par _ _ a b s=>a.steps+b.steps+s.steps
def waits(o:Oper)(i:Nat):Bool:=o.after.any fun e=>Region.binds .any e && e.on==i
def NR(ops:Array Oper)(bs:List Bool):Bool:=
 (Z8 ops.size).all fun j=> !bs.getD j false||(Z8 ops.size).all fun i=>bs.getD i false||(ops[j]?).any (waits · i)
def LA(ops:Array Oper)(j:Nat):List Nat:=((ops[j]?).map fun o=>(o.after.toList.filter fun e=>Region.binds .any e).map (·.on)).getD []
def Q3(ops:Array Oper):List Nat→List Nat→List Nat
 |[],m=>m
 |i::l,m=>Q3 ops l (if m.contains i then LA ops i++m else m)
def cover(ops:Array Oper)(j:Nat):List Nat:=Q3 ops (Z8 ops.size).reverse (LA ops j)
def Xl(bs:List Bool)(n:Nat)(m:List Nat):Bool:=(Z8 n).all fun i=>bs.getD i false||m.contains i
def HI(ops:Array Oper)(bs:List Bool):Bool:=
 NR ops bs||(Z8 ops.size).all fun j=> !bs.getD j false||Xl bs ops.size (cover ops j)
def Y9(ops:Array Oper):List Bool:=
 let bs:=ops.toList.map fun o=>match o.op with|.store .. |.assign _=>true|_=>false
 if NR ops bs then bs else ops.toList.map fun _=>false
def Uv(ops:Array Oper):List Bool:=
 let st:=(Z8 ops.size).filter fun i=>(ops[i]?).any fun o=>match o.op with|.store .. |.assign _=>true|_=>false
 (Z8 ops.size).map fun j=>st.contains j||(ops[j]?).any fun o=>st.any fun i=>waits o i
def YO(pr:Bool)(ops:Array Oper):List Bool:=
 let bs:=Y9 ops
 if pr && !bs.any (·)&& HI ops (Uv ops) then Uv ops else bs
def marked(listed:Array Bool)(l:List Nat):Array Bool:=l.foldl (fun a i=>a.setIfInBounds i true) listed
def Hj(ops:Array Oper)(bs:List Bool)(la lb:List Nat):Bool:=
 (la++lb).all (fun i=> !bs.getD i false && decide (i<ops.size))&& la.all (fun i=> !lb.contains i)&& la.all (fun i=>(ops[i]?).all fun o=>lb.all fun j=> !waits o j)&& lb.all (fun i=>(ops[i]?).all fun o=>la.all fun j=> !waits o j)
def B7(ops:Array Oper)(q:Nat→Bool)(bs:List Bool)(la:List Nat)(tgt:Array Bool):Bool→Array Bool→Array Bool→SI→Bool
 |top,listed,_,.done=>top && listed==tgt
 |top,listed,lm,.op true i s=>top && q i && Region.free .any ops lm i &&(Region.ready .any ops listed).contains i && la.contains i && B7 ops q bs la tgt true (listed.setIfInBounds i true) (lm.setIfInBounds i true) s
 |top,listed,lm,.op false i s=>(!top||Region.ready .any ops listed==[i])&& la.contains i && B7 ops q bs la tgt true (listed.setIfInBounds i true) (lm.setIfInBounds i true) s
 |top,listed,lm,.alt i s t=>(!top||Region.ready .any ops listed==i::t.Cp)&& la.contains i && B7 ops q bs la tgt true (listed.setIfInBounds i true) (lm.setIfInBounds i true) s && B7 ops q bs la tgt false listed lm t
 |top,listed,lm,.par xa xb a b s=>top && Hj ops bs xa xb &&(xa++xb).all la.contains &&(marked (marked listed xb) xa==marked (marked listed xa) xb)&&
   B7 ops q bs xa (marked (marked listed xb) xa) true (marked listed xb) lm a && B7 ops q bs xb (marked (marked listed xb) xa) true (marked listed xa) lm b && B7 ops q bs la tgt true (marked (marked listed xb) xa) (marked (marked lm xb) xa) s
 |_,_,_,_=>false
def chk(ops:Array Oper)(q:Nat→Bool)(bs:List Bool):Bool→Bool→Array Bool→SI→Bool
 |top,_,listed,.done=>top && Region.ready .any ops listed==[]
 |top,past,listed,.op true i s=>top && q i &&(past==bs.getD i false)&& Region.free .any ops listed i &&(Region.ready .any ops listed).contains i && chk ops q bs true past (listed.setIfInBounds i true) s
 |top,past,listed,.op false i s=>(!top||Region.ready .any ops listed==[i])&&(past==bs.getD i false)&& chk ops q bs true past (listed.setIfInBounds i true) s
 |top,past,listed,.alt i s t=>(!top||Region.ready .any ops listed==i::t.Cp)&&(past==bs.getD i false)&& chk ops q bs true past (listed.setIfInBounds i true) s && chk ops q bs false past listed t
 |top,past,listed,.bar s=>top && !past && chk ops q bs true true listed s
 |top,past,listed,.par la lb a b s=>top && !past && Hj ops bs la lb &&(marked (marked listed lb) la==marked (marked listed la) lb)&&
   B7 ops q bs la (marked (marked listed lb) la) true (marked listed lb) listed a && B7 ops q bs lb (marked (marked listed la) lb) true (marked listed la) listed b && chk ops q bs true past (marked (marked listed lb) la) s
def Fy{α}(n:Nat)(k:Nat→α):α:=match n with|0=>k 0|m+1=>k (Nat.succ m)
def Fg{α}:List Nat→(List Nat→α)→α
 |[],k=>k []
 |x::l,k=>Fy x fun x=>Fg l fun l=>k (x::l)
def N9{α}:List (List Nat)→(List (List Nat)→α)→α
 |[],k=>k []
 |x::l,k=>Fg x fun x=>N9 l fun l=>k (x::l)
def QA{α}:List Bool→(List Bool→α)→α
 |[],k=>k []
 |true::l,k=>QA l fun l=>k (true::l)
 |false::l,k=>QA l fun l=>k (false::l)
def Ql{α}(a:Array Bool)(k:Array Bool→α):α:=QA a.toList fun l=>k (Array.mk l)
def Sq(ops:Array Oper):List (List Nat):=ops.toList.map fun o=>(o.after.toList.filter fun e=>Region.binds .any e).map (·.on)
def QE(f:Nat→Nat):List Nat→Nat→Nat
 |[],a=>a
 |x::l,a=>Fy (a|||f x) fun a=>QE f l a
def HR(l:List Nat):Nat:=QE (fun x=>2 ^ x) l 0
def YR(pend:Nat):List (List Nat)→Nat→List Nat→List Nat
 |[],_,m=>m
 |es::l,x,m=>Fy (if pend.testBit x then QE (fun e=>if pend.testBit e then m.getD e 0|||2 ^ e else 0) es 0 else 0) fun v=>YR pend l (x+1) (m++[v])
def close(rts:List Nat):Nat→Nat→Nat
 |0,g=>g
 |f+1,g=>close rts f (rts.foldl (fun g r=>Fy g fun g=>if r &&& g !=0 then g|||r else g) g)
def M0(imp:Nat)(pr:List (Nat×Nat×Nat))(g:Nat):Option (List Nat×List Nat):=
 Fg ((pr.filter fun p=>p.2.1 &&& g==p.2.1).map (·.1)) fun la=>Fg ((pr.filter fun p=>p.2.1 &&& g==0).map (·.1)) fun lb=>
 if la.isEmpty||lb.isEmpty then none else
 Fy (HR (la++lb)) fun all=>Fy (HR ((pr.map (·.1)).filter fun x=> !all.testBit x)) fun rmk=>
 if pr.all fun p=>all.testBit p.1||p.2.2 &&& rmk !=0||p.2.2 &&& imp &&& all==imp &&& all then some (la,lb) else none
def YH:List Nat→List Nat→List Nat→List (Nat×Nat×Nat)
 |a::l,b::m,c::n=>(a,b,c)::YH l m n
 |_,_,_=>[]
def split(imp:Nat)(edges:List (List Nat))(inn:List Nat)(pend:Nat)(rs:List Nat):Option (List Nat×List Nat):=
 if rs.length<2 then none else
 Fg (YR pend edges 0 []) fun m=>
 Fy (HR rs) fun rmask=>
 Fg (inn.map fun x=>m.getD x 0) fun as=>
 Fg (inn.map fun x=>(m.getD x 0|||2 ^ x)&&& rmask) fun rts=>
 Fy (close rts rs.length (2 ^ rs.headD 0)) fun comp=>
 (comp::(rs.reverse.map (2 ^ ·)++rts)).findSome? (M0 imp (YH inn rts as))
def YY(listed:Array Bool)(bs:List Bool):Nat:=HR ((Z8 listed.size).filter fun x=> !listed.getD x true && !bs.getD x false)
def mkT(ops:Array Oper)(edges:List (List Nat))(q:Nat→Bool)(bs:List Bool):Nat→List Nat→Array Bool→Array Bool→SI
 |0,_,_,_=>.done
 |f+1,la,listed,lm=>Ql listed fun listed=>Ql lm fun lm=>
  Fg ((Region.ready .any ops listed).filter la.contains) fun rs=>
  Fg (la.filter fun x=> !listed.getD x true) fun la=>
  match rs.find? fun i=>q i && Region.free .any ops lm i with
  |some i=>.op true i (mkT ops edges q bs f la (listed.setIfInBounds i true) (lm.setIfInBounds i true))
  |none=>match Fy (HR la) fun pend=>split (HR (la.filter fun x=> !q x)) edges la pend rs with
  |some (xa,xb)=>.par xa xb (mkT ops edges q bs f xa (marked listed xb) lm) (mkT ops edges q bs f xb (marked listed xa) lm) (mkT ops edges q bs f (la.filter fun x=> !xa.contains x && !xb.contains x) (marked (marked listed xb) xa) (marked (marked lm xb) xa))
  |none=>(rs.foldr (fun i (acc:Option SI)=>match acc with
   |none=>some (.op false i (mkT ops edges q bs f la (listed.setIfInBounds i true) (lm.setIfInBounds i true)))
   |some t=>some (.alt i (mkT ops edges q bs f la (listed.setIfInBounds i true) (lm.setIfInBounds i true)) t)) none).getD .done
def Og(pr:Bool)(ops:Array Oper)(q:Nat→Bool)(bs:List Bool):Nat→Bool→Array Bool→SI
 |0,_,_=>.done
 |f+1,past,listed=>
  let rs:=Region.ready .any ops listed
  if !past && bs.any (·)&&(Z8 ops.size).all (fun i=>listed.getD i true||bs.getD i false) then .bar (Og pr ops q bs f true listed) else
  match rs.find? fun i=>q i && Region.free .any ops listed i with
  |some i=>.op true i (Og pr ops q bs f past (listed.setIfInBounds i true))
  |none=>match (if pr && !past then Fg rs fun rs=>Fy (YY listed bs) fun pend=>Fg ((Z8 ops.size).filter fun x=>pend.testBit x) fun inn=>N9 (Sq ops) fun edges=>split (HR (inn.filter fun x=> !q x)) edges inn pend rs else none) with
  |some (la,lb)=>N9 (Sq ops) fun edges=>Ql listed fun listed=>.par la lb (mkT ops edges q bs f la (marked listed lb) listed) (mkT ops edges q bs f lb (marked listed la) listed) (Og pr ops q bs f past (marked (marked listed lb) la))
  |none=>(rs.foldr (fun i (acc:Option SI)=>match acc with
   |none=>some (.op false i (Og pr ops q bs f past (listed.setIfInBounds i true)))
   |some t=>some (.alt i (Og pr ops q bs f past (listed.setIfInBounds i true)) t)) none).getD .done
def CB(P:Program)(n:Nat)(ops:Array Oper):SI→Option GS
 |.done=>some .done
 |.op tk i s=>match (ops[i]?).bind (GD P n ops),CB P n ops s with
  |some g,some s'=>some (.op tk g s')
  |_,_=>none
 |.alt i s t=>match (ops[i]?).bind (GD P n ops),CB P n ops s,CB P n ops t with
  |some g,some s',some t'=>some (.alt g s' t')
  |_,_,_=>none
 |.bar s=>(CB P n ops s).map .bar
 |.par _ _ a b s=>match CB P n ops a,CB P n ops b,CB P n ops s with
  |some a',some b',some s'=>if a'.plain && b'.plain && a'.Bu.all (fun t=> !b'.rds.contains t && !b'.Bu.contains t)&& b'.Bu.all (fun t=> !a'.rds.contains t) then some (.par a' b' s') else none
  |_,_,_=>none
def quietAt(P:Program)(ops:Array Oper)(i:Nat):Bool:=((ops[i]?).bind (LV P)).any GI.quiet
def clash(ops:Array Oper)(i:Nat):Bool:=
 match (ops[i]?).map (fun o=>o.op) with
 |some (Op.load _ (.tmp t))=>ops.any fun o=>match o.op with|Op.store _ (.tmp t') _=>t==t'|_=>false
 |_=>false
def Y0(P:Program)(ops:Array Oper)(bs:List Bool)(i:Nat):Bool:=
 match (ops[i]?).map (fun o=>o.op) with
 |some (Op.load t _)=>match DK P t with
  |some (some _)=> !bs.any (·)&& ops.any fun o=>match o.op with|Op.store t' _ _=>t==t'|_=>false
  |_=>false
 |_=>false
def rootOf(ops:Array Oper):Nat→Operand→Option (Nat×List Nat)
 |0,_=>none
 |f+1,.tmp t=>match ops.toList.find? fun o=>o.dst==some t with
  |none=>some (t,[])
  |some o=>match o.op with
   |.move x=>rootOf ops f x
   |.assign x=>rootOf ops f x
   |.nilCheck x=>rootOf ops f x
   |.fieldAddr _ x i=>(rootOf ops f x).map fun p=>(p.1,i::p.2)
   |_=>none
 |_,_=>none
def YD(ops:Array Oper)(bs:List Bool)(i:Nat):Bool:=
 !bs.any (·)&& match (ops[i]?).map (fun o=>o.op) with
 |some (Op.load _ x)=>ops.any (fun o=>match o.op with|Op.store .. =>true|_=>false)&& match rootOf ops 8 x with
  |some (r,_::_)=>ops.any fun o=>match o.op with|Op.store _ y _=>(rootOf ops 8 y).any fun q=>q.1==r && !q.2.isEmpty|_=>false
  |_=>false
 |_=>false
def Hv:List Nat→SI
 |[]=>.done
 |i::l=>.op false i (Hv l)
def QT(pr:Bool)(P:Program)(n:Nat)(ops:Array Oper)(drawn:Bool):Option GS:=
 match drawn with
 |false=>CB P n ops (Hv (Z8 ops.size))
 |true=>
  let bs:=YO pr ops
  let si:=Og pr ops (fun i=>quietAt P ops i && !clash ops i && !Y0 P ops bs i && !YD ops bs i) bs (2*ops.size+2) false (Array.replicate ops.size false)
  if Region.noSelect ops && HI ops bs && decide (si.steps≤ops.size)&& chk ops (quietAt P ops) bs true false (Array.replicate ops.size false) si then CB P n ops si else none
def It(pr:Bool)(P:Program)(n:Nat):Code→Cz
 |.skip=>.skip
 |.region _ ops drawn=>match QT pr P n ops drawn with|some s=>.reg drawn s|none=>.bad
 |.seq a b=>.seq (It pr P n a) (It pr P n b)
 |.cond c a b=>if FC n c then .cond c (It pr P n a) (It pr P n b) else .bad
 |.block id a=>.block id (It pr P n a)
 |.loop a=>.loop (It pr P n a)
 |.exit id=>.exit id
 |.ret=>.ret
 |_=>.bad
def M8(P:Program)(n:Nat):ResultVar→Option Is
 |.tmp t=>if t<n then some (.tmp t) else none
 |.cell t ty=>if t<n then(DK P ty).map (.cell t) else none
def QX(pr:Bool)(P:Program)(f:FuncId):Option A6:=
 match P.funcs[f]? with
 |some fn=>
  if fn.name== "runtime.NumGoroutine" || !P.follows .mixedOrders then none else
  match fn.body with
  |some c=>(fn.results.toList.mapM (M8 P fn.ntmps)).map fun rs=>⟨fn.ntmps,rs,It pr P fn.ntmps c⟩
  |none=>none
 |none=>none
abbrev dec(P:Program)(f:FuncId):Option A6:=QX false P f
abbrev I7(P:Program)(f:FuncId):Option A6:=QX true P f
variable{g:GI}{ρ ρ':Env}{pan:List PanicEntry→A0}{m:MI}
abbrev tP(n:Nat):Operand:=.tmp n
instance (n:Nat):OfNat Operand n:=⟨.tmp (OfNat.ofNat n)⟩
abbrev kZ(n:Int):Operand:=.const (.int .i64 n)
abbrev z0:Operand:=.const (.int .i64 0)
abbrev z1:Operand:=.const (.int .i64 1)
abbrev z2:Operand:=.const (.int .i64 2)
abbrev rG(s:GS):Cz:=.reg false s
abbrev sR(s:GS)(c:Cz):Cz:=.seq (.reg false s) c
abbrev nS:Operand:=.const (.slice none 0 0)
abbrev o1(t:Nat)(i:GI)(s:GS):GS:=.op false ⟨some t,none,i⟩ s
abbrev o0(i:GI)(s:GS):GS:=.op false ⟨none,none,i⟩ s
abbrev oT(t g:Nat)(i:GI)(s:GS):GS:=.op false ⟨some t,some (g,true),i⟩ s
abbrev oF(t g:Nat)(i:GI)(s:GS):GS:=.op false ⟨some t,some (g,false),i⟩ s
abbrev om(t x:Nat)(s:GS):GS:=.op false ⟨some t,none,.mv (.tmp x)⟩ s
abbrev ol(t x:Nat)(s:GS):GS:=.op false ⟨some t,none,.ld none (.tmp x)⟩ s
abbrev oj(t k x:Nat)(s:GS):GS:=.op false ⟨some t,none,.fld k (.tmp x)⟩ s
abbrev oe(t x k:Nat)(s:GS):GS:=.op false ⟨some t,none,.ext (.tmp x) k⟩ s
abbrev oL(t x:Nat)(s:GS):GS:=.op false ⟨some t,none,.len (.tmp x)⟩ s
abbrev oc(t:Nat)(f:FuncId)(l:List Operand)(s:GS):GS:=.op false ⟨some t,none,.call f l⟩ s
abbrev ob(t:Nat)(b:BinOp)(x y:Operand)(s:GS):GS:=.op false ⟨some t,none,.bin b x y⟩ s
abbrev oI(t n x i:Nat)(s:GS):GS:=.op false ⟨some t,none,.idx n (.tmp x) (.tmp i)⟩ s
abbrev pm(t x:Nat)(s:GS):GS:=.op true ⟨some t,none,.mv (.tmp x)⟩ s
abbrev pl(t x:Nat)(s:GS):GS:=.op true ⟨some t,none,.ld none (.tmp x)⟩ s
abbrev p1(t:Nat)(i:GI)(s:GS):GS:=.op true ⟨some t,none,i⟩ s
abbrev gT(t g x:Nat)(s:GS):GS:=.op false ⟨some t,some (g,true),.mv (.tmp x)⟩ s
abbrev gF(t g x:Nat)(s:GS):GS:=.op false ⟨some t,some (g,false),.mv (.tmp x)⟩ s
abbrev pZ (b:Nat):Value:=.pointer (some ⟨b,0,none⟩)
abbrev vZ (n:Int):Value:=.int .i64 n
abbrev gP(t c a:Nat)(s:GS):GS:=.op false ⟨some t,none,.pick (.tmp c) (.tmp a) (.const (.bool false))⟩ s
def Fe(h:P.info? t=some i)(w:World):(typeInfo t).run P w=.ok i w:=by
 simp[typeInfo,h]
def B3(h:P.info? t=some i)(w:World):(sizeOf t).run P w=.ok i.size w:=by
 simp[sizeOf,Fe h]
def DY(h:P.info? t=some i)(hz:i.zero=some z)(w:World):(zeroValue t).run P w=.ok z w:=by
 simp[zeroValue,Fe h,hz]
def Sa(ht:DK P t=some none)(a:Addr)(v:Value)(W:World)(hc:W.cell? a=some v):
  (Instr.loadAt t (.pointer (some a))).run P W=.ok v W:=by
 have hu:∃d,P.underlying t=some d∧(match d with|.struct _|.array _ _=>true|_=>false)=false:=by
  unfold DK at ht;split at ht<;>simp_all
 obtain⟨d,hu,hd⟩:=hu
 simp only[Instr.loadAt,Instr.sureAddr,loadVar,isAgg,Sem.run_bind,run_underlying hu,Sem.run_pure,Result.andThen]
 cases d<;>simp_all
def R4(ht:DK P t=some (some n))(b o:Nat)(cs:List Value)(hl:cs.length=n)(W:World)
  (hc:∀i u,cs[i]?=some u→W.cell? ⟨b,o+i,none⟩=some u):
  (Instr.loadAt t (.pointer (some ⟨b,o,none⟩))).run P W=.ok (.agg cs.toArray) W:=by
 have hu:∃d i,P.underlying t=some d∧P.info? t=some i∧i.size=n∧(match d with|.struct _|.array _ _=>true|_=>false)=true:=by
  unfold DK at ht;split at ht<;>simp_all
 obtain⟨d,i,hu,hi,hn,hd⟩:=hu
 subst hl
 have hr:=run_loadCells_list (P:=P) W ⟨b,o,none⟩ cs (fun j v hj=>by rw[Addr.add_lit];exact hc j v hj)
 simp only[Instr.loadAt,Instr.sureAddr,loadVar,isAgg,Sem.run_bind,run_underlying hu,Sem.run_pure,Result.andThen]
 cases d<;>simp_all [B3 hi]
def VQ{op:BinOp}{y}(h:C2 op x y=some v)(W:World):(binOp op 0 x y).run P W=.ok v W:=by
 unfold C2 at h;split at h
 ·split at h
  ·cases h
  ·rename_i hn;simp_all [binOp,Op.shift,if_neg hn]<;>(try (intro hh;omega))
 ·split at h
  ·cases h
  ·rename_i hn;simp_all [binOp,Op.shift,if_neg hn]<;>(try (intro hh;omega))
 ·rename_i k a k' b _ _;split at h
  ·cases h
  ·rename_i hk;simp only[ne_eq,Decidable.not_not] at hk;subst hk;cases op<;>simp_all [binOp,Op.intArith,Op.intDiv,Op.intBits,Op.intCmp]
 ·cases op<;>simp_all [binOp,Op.stringOp]<;>(split at h<;>simp_all)
 ·cases h
def XZ(op:BinOp)(t t':TypeId)(x y:Value)(v:Value)(h:C2 op x y=some v):binOp op t x y=binOp op t' x y:=by
 unfold C2 at h;split at h<;>first|(simp[binOp];done)|(cases op<;>simp[binOp];done)|cases h
def Xs{op:UnOp}(h:unV op x=some v)(W:World):(Op.unary op x).run P W=.ok v W:=by
 unfold unV at h;split at h<;>simp_all [Op.unary,Op.intArith,Op.intBits]
def Ug{k}{i:Int}{y:Nat}(h:0≤i∧i≤y)(c:BoundsCode)(W:World):(Instr.sliceBound (.int k i) y c).run P W=.ok i.toNat W:=by
 simp[Instr.sliceBound,asIntOf,h]
def K9{y r:Nat}(h:bnd x y=some r)(c:BoundsCode)(W:World):(Instr.sliceBound x y c).run P W=.ok r W:=by
 cases x<;>simp[bnd] at h
 rename_i k i;obtain⟨⟨h1,h2⟩,rfl⟩:=h;exact Ug ⟨h1,h2⟩ c W
def Mq(isS:Bool)(n c:Nat)(lo hi mx:Option Value)(l h m:Nat)(e:EU n c lo hi mx=some (l,h,m))(W:World):
  (Instr.sliceBounds isS n c lo hi mx).run P W=.ok (l,h,m) W:=by
 simp only[EU,ZZ,Aaa,Prod.mk.injEq] at e
 obtain⟨m',hm,h',hh,l',hl,rfl,rfl,rfl⟩:=e
 have hl':∀w cd,lo=some w→(Instr.sliceBound w h' cd).run P W=.ok l' W:=fun w cd e=>K9 (by subst e;exact hl) cd W
 have hl0:lo=none→l'=0:=fun e=>by subst e;simp[IB] at hl;exact hl.symm
 cases mx with
 |none=>
  simp[Iz] at hm;subst hm
  cases hi with
  |none=>
   simp[Hr] at hh;subst hh
   cases lo with
   |none=>simp[Instr.sliceBounds,hl0 rfl]
   |some w=>simp[Instr.sliceBounds,hl' w _ rfl]
  |some v=>
   have:=fun cd=>K9 (P:=P) hh cd W
   cases lo with
   |none=>simp[Instr.sliceBounds,this,hl0 rfl]
   |some w=>simp[Instr.sliceBounds,this,hl' w _ rfl]
 |some x=>
  have hx:=fun cd=>K9 (P:=P) (show bnd x c=some m' from hm) cd W
  cases hi with
  |none=>simp[Hr] at hh
  |some v=>
   have:=fun cd=>K9 (P:=P) hh cd W
   cases lo with
   |none=>simp[Instr.sliceBounds,hx,this,hl0 rfl]
   |some w=>simp[Instr.sliceBounds,hx,this,hl' w _ rfl]
def LN:∀(l:List UInt8) (r:ByteArray),((l.map fun b=>((b.toNat:Nat):Int)).foldl (fun(r:ByteArray) n=>r.push (UInt8.ofNat n.toNat)) r)=⟨(r.data.toList++l).toArray⟩
 |[],r=>by simp
 |b::l,r=>by
  simp only[Abc,List.foldl_cons];rw[LN l];simp[ByteArray.push]
def X8(a:Option Addr)(l:List UInt8)(c:Nat)(W:World)(h0:a=none→l=[])
  (hc:∀a',a=some a'→∀i u,l[i]?=some u→W.cell? (a'.add i)=some (Bz u)):
  (Conv.bytesToString (.slice a l.length c)).run P W=.ok (Al l) W:=by
 cases a with
 |none=>have:=h0 rfl;subst this;simp[Conv.bytesToString,Al];rfl
 |some a=>
  have hr:=run_loadCells_list (P:=P) W a (l.map Bz) (fun j v hj=>by
   rw[Aat] at hj;cases e:l[j]? with
   |none=>rw[e] at hj;cases hj
   |some u=>rw[e] at hj;simp at hj;subst hj;exact hc a rfl j u e)
  rw[Aay] at hr
  have hm:l.map Bz=(l.map fun b=>((b.toNat:Nat):Int)).map (Value.int .u8):=by simp[Bz]
  rw[hm] at hr
  rw[run_bytesToString W _ _ _ _ hr,LN]
  simp[Al]
def QB(t:TypeId)(x y:Value):Op.equal t x y=Op.equalIn (9999+1) t x y:=rfl
def Ud(d:Nat)(a b:Bool)(hu:P.underlying t=some .bool)(W:World):(Op.equalIn (d+1) t (.bool a) (.bool b)).run P W=.ok (a==b) W:=by
 simp[Op.equalIn,run_underlying hu]
def VA(d:Nat)(a b:Option Addr)(hu:P.underlying t=some (.pointer e))(hi:P.info? e=some i)(hn:¬i.size=0)
  (hab:a=none∨b=none∨a.map (·.block)=b.map (·.block)) (W:World):(Op.equalIn (d+1) t (.pointer a) (.pointer b)).run P W=.ok (a==b) W:=by
 simp only[Op.equalIn,Sem.run_bind,run_underlying hu,Result.andThen]
 cases a with
 |none=>cases b<;>simp
 |some a=>
  cases b with
  |none=>simp
  |some b=>
   simp at hab
   simp[B3 hi,hn,sameAddr,hab]
def SR(d:Nat)(a:Option Addr)(n c n' c':Nat)(hu:P.underlying t=some (.slice e))(W:World):
  (Op.equalIn (d+1) t (.slice a n c) (.slice none n' c')).run P W=.ok a.isNone W:=by
 simp only[Op.equalIn,Sem.run_bind,run_underlying hu,Result.andThen]
 cases a<;>simp
def Sx(P:Program)(t:TypeId):Nat→Prop
 |0=>∃i,P.underlying t=some (.int i)
 |1=>P.underlying t=some .string
 |2=>P.underlying t=some .bool
 |_=>False
def TE{f:Field}{k o:Nat}(h:PF P f=some (k,o)):¬f.name= "_" ∧DK P f.type=some none∧o=f.offset∧Sx P f.type k:=by
 unfold PF at h;split at h
 ·cases h
 rename_i hn;simp only[Aad,not_or,beq_iff_eq,bne_iff_ne,ne_eq,Decidable.not_not] at hn;refine⟨hn.1,hn.2,?_⟩
 split at h
 ·rename_i i hi;cases h;exact⟨rfl,i,hi⟩
 ·cases h;exact⟨rfl,by assumption⟩
 ·cases h;exact⟨rfl,by assumption⟩
 ·cases h
def Yq{k:Nat}(d:Nat){y}{r:Bool}(h:eq1 k x y=some r)(hu:Sx P t k)(W:World):
  (Op.equalIn (d+1) t x y).run P W=.ok r W:=by
 unfold eq1 at h
 split at h
 ·rename_i k1 a k2 b
  obtain⟨i,hu⟩:=hu
  split at h
  ·rename_i e;subst e;cases h
   simp[Op.equalIn,run_underlying hu]
  ·cases h
 ·cases h
  have hu:P.underlying t=some .string:=hu
  simp[Op.equalIn,run_underlying hu]
 ·cases h
  have hu:P.underlying t=some .bool:=hu
  simp[Op.equalIn,run_underlying hu]
 ·cases h
def SH(h:DK P t=some none)(W:World):(isAgg t).run P W=.ok false W:=by
 unfold DK at h;split at h<;>simp_all
 rename_i d i h1 h2 h3 h4;simp only[isAgg,Sem.run_bind,run_underlying h3,Result.andThen];cases d<;>simp_all
def P0(h:DK P t=some none){cs:Array Value}{o:Nat}(hv:cs[o]?=some v)(W:World):(part t cs o).run P W=.ok v W:=by
 simp[part,SH h,hv]
def RW{fs:Array Field}{offs:List (Nat×Nat)}(d:Nat)(hu:P.underlying t=some (.struct fs))(ho:KE P t fs=some offs){xs ys:Array Value}{r:Bool}(h:IA xs ys offs=some r)(W:World):
  (Op.equalIn (d+2) t (.agg xs) (.agg ys)).run P W=.ok r W:=by
 unfold KE at ho
 split at ho
 ·cases ho
 rename_i hg
 simp only[Aad,not_or,Abk] at hg
 have hs:P.stoodInHeld t=false:=hg.1
 rw[Op.equalIn]
 simp only[Sem.run_bind,run_underlying hu,Result.andThen,run_program,hs,ZX,if_false]
 rw[←Array.forIn_toList]
 have key:∀(l:List Field) (offs:List (Nat×Nat)) (r:Bool),l.mapM (PF P)=some offs→IA xs ys offs=some r→
   Sem.run P (forIn l ((none:Option Bool),()) fun f __s=>
     if f.name≠ "_" then do
      let a←part f.type xs f.offset
      let b←part f.type ys f.offset
      let c←Op.equalIn (d+1) f.type a b
      if (!c)=true then pure (ForInStep.done (some false,())) else pure (ForInStep.yield (none,()))
     else pure (ForInStep.yield (none,()))) W=.ok (if r then(none,()) else(some false,())) W:=by
  intro l
  induction l with
  |nil=>
   intro offs r h1 h2
   simp at h1;subst h1
   simp[IA] at h2;subst h2
   simp
  |cons f l ih=>
   intro offs r h1 h2
   simp only[List.mapM_cons,Option.bind_eq_bind,ZZ,Option.pure_def,Option.some.injEq] at h1
   obtain⟨p,hp,l',hl,rfl⟩:=h1
   obtain⟨k,o⟩:=p
   obtain⟨hn1,hn2,rfl,hk⟩:=TE hp
   simp only[IA] at h2
   split at h2
   ·rename_i x y hx hy
    rw[ZZ] at h2
    obtain⟨b,hb,h3⟩:=h2
    have e1:=P0 hn2 hx W
    have e2:=P0 hn2 hy W
    have e3:=Yq d hb hk W
    simp only[List.forIn_cons,ne_eq,hn1,not_false_eq_true,if_true,Sem.run_bind,e1,e2,e3,Result.andThen]
    cases b with
    |false=>
     simp only[ZX,if_false,Option.some.injEq] at h3
     subst h3
     simp
    |true=>
     simp only[if_true] at h3
     have:=ih _ _ hl h3
     simp only[ne_eq] at this
     simp only[Bool.not_true,ZX,if_false,Sem.run_pure]
     exact this
   ·cases h2
 rw[key _ _ _ ho h]
 cases r<;>simp
def Yp(a:Option Addr)(rs:List Int)(c:Nat)(W:World)(h0:a=none→rs=[])(hc:∀a',a=some a'→∀i r,rs[i]?=some r→W.cell? (a'.add i)=some (.int .i32 r)):
  (Conv.runesToString (.slice a rs.length c)).run P W=.ok (Al (rs.flatMap JP)) W:=by
 cases a with
 |none=>have:=h0 rfl;subst this;simp[Conv.runesToString,Al];rfl
 |some a=>
  have hr:=run_loadCells_list (P:=P) W a (rs.map (Value.int .i32)) (fun j v hj=>by
   rw[Aat] at hj;cases e:rs[j]? with
   |none=>rw[e] at hj;cases hj
   |some u=>rw[e] at hj;simp at hj;subst hj;exact hc a rfl j u e)
  rw[Aay] at hr
  simp only[Conv.runesToString,Sem.run_bind,hr,Result.andThen]
  rw[←Array.forIn_toList]
  have key:∀(body:Value→ByteArray→Sem (ForInStep ByteArray)),(∀n s,body (.int .i32 n) s=pure (ForInStep.yield (s++Utf8.encode n)))→∀(rs:List Int) (s:ByteArray),Sem.run P (forIn (rs.map (Value.int .i32)) s body) W=.ok ⟨(s.data.toList++rs.flatMap JP).toArray⟩ W:=by
   intro body hb rs;induction rs with
   |nil=>intro s;simp
   |cons r rs ih=>
    intro s
    simp only[Abc,List.forIn_cons,Sem.run_bind,hb,Sem.run_pure,Result.andThen,ih,List.flatMap_cons,JP]
    congr 2
    simp
  rw[show((List.map (Value.int IntKind.i32) rs).toArray).toList=rs.map (Value.int .i32) from rfl,key _ (fun _ _=>rfl)]
  simp[Al,ByteArray.empty,ByteArray.emptyWithCapacity]
  rfl
def Yu(e:TypeId)(l:List UInt8)(W:World)(hl:(BR l).length≤140737488355328):
  ∃c,(BR l).length≤c∧c≤maxLen∧(Conv.stringToRunes e ⟨l.toArray⟩).run P W=.ok (.slice (some ⟨W.heap.size,0,none⟩) (BR l).length c) (W.drew.alloc (.cells (BR l++ZI (c - (BR l).length) (Value.int .i32 0)).toArray e)):=by
 have hsz:(⟨l.toArray⟩:ByteArray).size=l.length:=by simp[ByteArray.size]
 have hrl:(BR l).length=(Conv.runesFrom ⟨l.toArray⟩ l.length 0 #[]).size:=by simp[BR]
 have hmax:(BR l).length≤maxLen:=by simp only[maxLen];omega
 refine⟨grownCap W (BR l).length 0 e,grownCap_ge W _ _ _,grownCap_le_maxLen W _ _ _ hmax,?_⟩
 simp only[Conv.stringToRunes,Sem.run_bind,hsz]
 rw[hrl]
 simp[Question.forced,grownCap,newRow,BR]
 congr 2
 apply Array.ext'
 simp
def OZ{p p':Nat→Option (Nat×Nat)}(hp:∀i x,p i=some x→p' i=some x):∀(l:List (Nat×Value)) (cells cs:Array Value),Instr.fill p cells l=some cs→Instr.fill p' cells l=some cs
 |[],_,_,h=>h
 |(i,v)::l,cells,cs,h=>by
  simp only[Instr.fill] at h⊢;cases e:p i with
  |none=>rw[e] at h;cases h
  |some x=>
   rw[e] at h
   rw[hp i x e]
   obtain⟨off,size⟩:=x
   simp only at h⊢
   split at h
   ·cases h
   ·rename_i hc
    rw[if_neg hc]
    exact OZ hp l _ _ h
def VE{k}(d:Nat)(m:Option Nat)(hu:P.underlying t=some (.map k e))(W:World):
  (Op.equalIn (d+1) t (.map m) (.map none)).run P W=.ok m.isNone W:=by
 simp only[Op.equalIn,Sem.run_bind,run_underlying hu,Result.andThen]
 cases m<;>simp
def UG{dst:Option Tmp}{op:BinOp}{yt type x y}{pos:String}{after:Array Edge}{guard:Option (Nat×Bool)}
  (hd:Lt P ⟨dst,.binOp op t x y yt,type,pos,after,guard⟩=some g) {ρ}{C:Addr→Value→Prop}{v}(h:evq ρ C g v) {E:Operand→Value}
  (hx:E x=ev ρ x) (hy:E y=ev ρ y) {W}:(execOp E ⟨dst,.binOp op t x y yt,type,pos,after,guard⟩).run P W=.ok (.value v) W:=by
 simp only[Lt] at hd
 have plain:∀v,C2 op (ev ρ x) (ev ρ y)=some v→(execOp E ⟨dst,.binOp op t x y yt,type,pos,after,guard⟩).run P W=.ok (.value v) W:=by
  intro v hv;have hg:(eqGuard op t x y (ev ρ x) (ev ρ y)).run P W=.ok () W:=by
   unfold eqGuard;unfold C2 at hv;split at hv<;>simp_all<;>split<;>simp
  simp[execOp,hx,hy,hg,XZ op t 0 _ _ v hv,VQ hv]
 have cmp:∀(neg:Bool),(op=.eql∧neg=false∨op=.neq∧neg=true)→∀(a b:Value) (r:Bool),(∀(e:BinOp),eqGuard e t x y a b=pure ())→
   ev ρ x=a→ev ρ y=b→(binOp .eql t a b=do pure (.bool (←Op.equal t a b)))→(binOp .neq t a b=do pure (.bool (!(←Op.equal t a b))))→(Op.equal t a b).run P W=.ok r W→
   (execOp E ⟨dst,.binOp op t x y yt,type,pos,after,guard⟩).run P W=.ok (.value (.bool (neg ^^ r))) W:=by
  intro neg ho a b r hg ha hb h1 h2 hr
  rcases ho with ⟨rfl,rfl⟩|⟨rfl,rfl⟩<;>simp[execOp,hx,hy,ha,hb,hg,h1,h2,hr]
 have cmps:∀(neg:Bool) (g':GI),(op=.eql∧neg=false∨op=.neq∧neg=true)→(match P.underlying t with
  |some (.int _)|some .string=>some (GI.bin op x y)
  |some .bool=>some (.eqb neg x y)
  |some (.pointer e)=>match P.info? e with|some i=>if i.size=0 then none else some (.eqp neg x y)|none=>none
  |some (.slice _)=>some (.eqs neg x y)
  |some (.map _ _)=>some (.eqm neg x y)
  |some (.struct fs)=>(KE P t fs).map fun offs=>.eqc neg offs x y
  |_=>none)=some g'→evq ρ C g' v→(execOp E ⟨dst,.binOp op t x y yt,type,pos,after,guard⟩).run P W=.ok (.value v) W:=by
  intro neg g' ho hd h
  split at hd<;>try cases hd
  ·exact plain v h
  ·exact plain v h
  ·rename_i hu
   simp only[evq] at h;obtain⟨a,b,ha,hb,rfl⟩:=h
   refine cmp neg ho _ _ _ (fun e=>by simp[eqGuard]) ha hb (by simp[binOp]) (by simp[binOp]) ?_
   exact Ud 9999 a b hu W
  ·rename_i e hu
   split at hd<;>try cases hd
   rename_i i hi
   split at hd<;>try cases hd
   rename_i hn
   simp only[evq] at h;obtain⟨a,b,ha,hb,hab,rfl⟩:=h
   refine cmp neg ho _ _ _ (fun e=>by simp[eqGuard]) ha hb (by simp[binOp]) (by simp[binOp]) ?_
   exact VA 9999 a b hu hi hn hab W
  ·rename_i e hu
   simp only[evq] at h;obtain⟨a,n,c,ha,⟨n',c',hb⟩,rfl⟩:=h
   refine cmp neg ho _ _ _ (fun e=>by simp[eqGuard]) ha hb (by simp[binOp]) (by simp[binOp]) ?_
   exact SR 9999 a n c n' c' hu W
  ·rename_i kt et hu
   simp only[evq] at h;obtain⟨m,ha,hb,rfl⟩:=h
   refine cmp neg ho _ _ _ (fun e=>by simp[eqGuard]) ha hb (by simp[binOp]) (by simp[binOp]) ?_
   exact VE 9999 m hu W
  ·rename_i fs hu
   rw[Aaa] at hd
   obtain⟨offs,ho,rfl⟩:=hd
   simp only[evq] at h;obtain⟨xs,ys,r,ha,hb,hr,rfl⟩:=h
   have hgt:P.eqGuardType P.depth t=false:=by
    unfold KE at ho;split at ho
    ·cases ho
    ·rename_i hg;simp only[Aad,not_or,Abk] at hg;exact hg.2
   have hrun:=RW 9998 hu ho hr W
   rcases ‹op=.eql∧neg=false∨op=.neq∧neg=true› with ⟨rfl,rfl⟩|⟨rfl,rfl⟩
   ·simp[execOp,hx,hy,ha,hb,eqGuard,hgt,binOp,QB,hrun]
   ·simp[execOp,hx,hy,ha,hb,eqGuard,hgt,binOp,QB,hrun]
 cases op<;>simp only at hd
 case eql=>exact cmps false g (.inl ⟨rfl,rfl⟩) hd h
 case neq=>exact cmps true g (.inr ⟨rfl,rfl⟩) hd h
 all_goals (simp at hd;subst hd;exact plain v h)
def OQ{a:Addr}(h:W.cell? a=some v):a.spot=none:=by
 unfold World.cell? at h;split at h
 ·split at h
  ·cases h
  ·rename_i hs;simpa using hs
 ·cases h
def add_zero(a:Addr):a.add 0=a:=by simp[Addr.add]
def JX{P:Program}(b o:Nat)(W:World):∀(l:List UInt8) (i:Nat) (r:ByteArray),(∀j u,l[j]?=some u→W.cell? ⟨b,o+(i+j),none⟩=some (Bz u))→
  (Extern.Bytes.loadBytes ⟨b,o+i,none⟩ l.length r).run P W=.ok ⟨(r.data.toList++l).toArray⟩ W
 |[],i,r,_=>by simp[Extern.Bytes.loadBytes]
 |u::l,i,r,h=>by
  have h0:=h 0 u rfl;simp only[Nat.add_zero] at h0;have ih:=JX (P:=P) b o W l (i+1) (r.push u) (fun j v hj=>by have:=h (j+1) v (by simpa using hj);rwa [show i+(j+1)=i+1+j by omega] at this);have e:(u.toNat:Int).toNat.toUInt8=u:=by simp
  simp only[List.length_cons,Extern.Bytes.loadBytes,Sem.run_bind,run_load,h0,Result.andThen,Bz,Addr.add_lit];rw[show o+i+1=o+(i+1) by omega,e,ih];simp[ByteArray.push]
def LS{C:Addr→Value→Prop}{l}(h:Fj C v l)(hC:∀a v,C a v→W.cell? a=some v):(Extern.Bytes.bytesOf v).run P W=.ok ⟨l.toArray⟩ W:=by
 rcases h with rfl|⟨a,c,rfl,h0,h1⟩
 ·simp[Extern.Bytes.bytesOf,Al]
 ·cases a with
  |none=>rw[h0 rfl];simp[Extern.Bytes.bytesOf];rfl
  |some a=>
   obtain⟨b,o,s⟩:=a
   have hc:=h1 _ rfl
   cases l with
   |nil=>simp[Extern.Bytes.bytesOf,Extern.Bytes.loadBytes];rfl
   |cons u0 l=>
    have h0:=hC _ _ (hc 0 u0 rfl)
    rw[add_zero] at h0
    have hs:=OQ h0
    simp only at hs;subst hs
    have:=JX (P:=P) b o W (u0::l) 0 ByteArray.empty (fun j u hj=>by rw[Nat.zero_add,←Addr.add_lit];exact hC _ _ (hc j u hj))
    simpa [Extern.Bytes.bytesOf] using this
def UZ{fn:Func}(h:fn.name= "internal/bytealg.Compare")(h0:fn.origin= ""):Extern.findNext fn=none∧Extern.find fn=some Extern.BytealgCompare.compare:=by
 unfold Extern.findNext Extern.find;rw[h,h0];exact⟨by kernel_rfl,by kernel_rfl⟩
def Vh{fn:Func}(h:fn.name= "internal/bytealg.abigen_runtime_cmpstring")(h0:fn.origin= ""):Extern.findNext fn=none∧Extern.find fn=some Extern.BytealgCompare.compare:=by
 unfold Extern.findNext Extern.find;rw[h,h0];exact⟨by kernel_rfl,by kernel_rfl⟩
def VK(hf:Ti P f=true){C:Addr→Value→Prop}{y l m}(hx:Fj C x l)(hy:Fj C y m)(hC:∀a v,C a v→W.cell? a=some v):
  (callFunc f #[x,y]).run P W=.ok (.value (vZ (Lib.compareBytes l m))) W:=by
 unfold Ti at hf
 split at hf
 ·rename_i fn hfn
  simp only[Zz,Aad,beq_iff_eq] at hf
  obtain⟨⟨hb,hn⟩,ho⟩:=hf
  have hne:(fn.name== "runtime.NumGoroutine")=false:=by rcases hn with e|e<;>rw[e]<;>decide
  have hfind:Extern.findNext fn=none∧Extern.find fn=some Extern.BytealgCompare.compare:=by
   rcases hn with e|e
   ·exact UZ e ho
   ·exact Vh e ho
  rw[run_callFunc_extern hfn hne hb hfind.1 hfind.2]
  have:(Extern.BytealgCompare.compare #[x,y]).run P W=.ok (vZ (Lib.compareBytes l m)) W:=by
   change Sem.run P (do pure (goInt (Extern.BytealgCompare.cmp (←Extern.Bytes.bytesOf x) (←Extern.Bytes.bytesOf y)))) W=_;simp only[Sem.run_bind,LS hx hC,LS hy hC,Result.andThen,Sem.run_pure,goInt,Lib.cmp_eq]
  rw[this];rfl
 ·cases hf
def Si(h:LV P o=some g):(∃m,Qb P o=some m∧g=.mop m)∨Lt P o=some g:=by
 unfold LV at h;cases hm:Qb P o with
 |some m=>rw[hm] at h;cases h;exact .inl ⟨m,rfl,rfl⟩
 |none=>rw[hm] at h;exact .inr h
def GV(hd:LV P o=some g)(hq:g.quiet=true){C:Addr→Value→Prop}(h:evq ρ C g v){E:Operand→Value}
  (hE:∀x∈o.op.operands,E x=ev ρ x) {W}(hC:∀a v,C a v→W.cell? a=some v):(execOp E o).run P W=.ok (.value v) W:=by
 replace hd:=Si hd
 rcases hd with ⟨m,_,rfl⟩|hd
 ·cases hq
 obtain⟨dst,op,type,pos,after,guard⟩:=o
 cases op<;>simp only[Lt] at hd
 case move x=>
  simp at hd;subst hd;simp only[evq] at h;subst h
  simp[execOp,hE x (by simp[Op.operands])]
 case assign x=>
  simp at hd;subst hd;simp only[evq] at h;subst h
  simp[execOp,hE x (by simp[Op.operands])]
 case pick c a b=>
  simp at hd;subst hd;simp only[evq] at h;obtain⟨t,ht,rfl⟩:=h
  simp[execOp,hE c (by simp[Op.operands]),hE a (by simp[Op.operands]),hE b (by simp[Op.operands]),ht,asBool]
 case fieldAddr s x f=>
  split at hd<;>try cases hd
  rename_i fs hu
  split at hd<;>try cases hd
  rename_i fl hf
  split at hd<;>try cases hd
  rename_i i hi
  split at hd<;>try cases hd
  rename_i hn
  simp only[evq] at h;obtain⟨b,o,hx,rfl⟩:=h
  simp[execOp,Instr.fieldAt,run_underlying hu,hf,hE x (by simp[Op.operands]),hx,Instr.sureAddr,fieldPlace,B3 hi,hn,Addr.add_lit]
 case load t x=>
  cases ha:DK P t with
  |none=>simp[ha] at hd
  |some n=>
   simp[ha] at hd;subst hd
   cases n with
   |none=>
    simp only[evq] at h;obtain⟨b,o,hx,hc⟩:=h
    simp[execOp,hE x (by simp[Op.operands]),hx,Sa ha _ _ W (hC _ _ hc)]
   |some n=>
    simp only[evq] at h;obtain⟨b,o,cs,hx,hl,hc,rfl⟩:=h
    simp[execOp,hE x (by simp[Op.operands]),hx,R4 ha _ _ cs hl W (fun i u hu=>hC _ _ (hc i u hu))]
 case binOp op t x y yt=>
  have hx:=hE x (by simp[Op.operands])
  have hy:=hE y (by simp[Op.operands])
  exact UG hd h hx hy
 case unOp op t x=>
  simp at hd;subst hd;simp only[evq] at h
  simp[execOp,hE x (by simp[Op.operands]),Xs h]
 case convert s t x=>
  have hx:=hE x (by simp[Op.operands])
  split at hd<;>try cases hd
  ·rename_i k k' h1 h2
   simp only[evq] at h;obtain⟨j,n,hj,rfl⟩:=h
   simp[execOp,convert,run_underlying h1,run_underlying h2,hx,hj,Conv.intToInt]
  ·rename_i h1 h2
   simp only[evq] at h;obtain⟨⟨s',hs⟩,rfl⟩:=h
   simp[execOp,convert,run_underlying h1,run_underlying h2,hx,hs]
  ·rename_i e h1 h2
   split at hd<;>try cases hd
   rename_i h3
   simp only[evq] at h;obtain⟨a,l,c,ha,h0,hc,rfl⟩:=h
   have:=X8 (P:=P) a l c W h0 (fun a' e i u hu=>hC _ _ (hc a' e i u hu))
   simp[execOp,convert,run_underlying h1,run_underlying h2,run_underlying h3,hx,ha,this]
   rename_i h3
   simp only[evq] at h;obtain⟨a,rs,c,ha,h0,hc,rfl⟩:=h
   have:=Yp (P:=P) a rs c W h0 (fun a' e i u hu=>hC _ _ (hc a' e i u hu))
   simp[execOp,convert,run_underlying h1,run_underlying h2,run_underlying h3,hx,ha,this]
  ·rename_i e h1 h2
   split at hd<;>try cases hd
   simp[GI.quiet] at hq
 case indexAddr t x i=>
  have hx:=hE x (by simp[Op.operands])
  have hi:=hE i (by simp[Op.operands])
  split at hd<;>try cases hd
  ·rename_i e hu
   split at hd<;>try cases hd
   rename_i f hf
   simp only[evq] at h;obtain⟨b,o,n,c,k,j,h1,h2,h3,h4,rfl⟩:=h
   simp[execOp,Instr.indexAt,asIntOf,hx,hi,h1,h2,run_underlying hu,h3,h4,B3 hf,Addr.add_lit]
  ·rename_i n e hu
   split at hd<;>try cases hd
   rename_i f hf
   simp only[evq] at h;obtain⟨b,o,k,j,h1,h2,h3,h4,rfl⟩:=h
   simp[execOp,Instr.indexAt,Instr.sureAddr,asIntOf,hx,hi,h1,h2,run_underlying hu,h3,h4,B3 hf,Addr.add_lit]
 case index t x i=>
  have hx:=hE x (by simp[Op.operands])
  have hi:=hE i (by simp[Op.operands])
  split at hd<;>try cases hd
  ·rename_i hu
   simp only[evq] at h;obtain⟨l,k,j,u,h1,h2,h3,h4,rfl⟩:=h
   have h5:(⟨l.toArray⟩:ByteArray)[j.toNat]?=some u:=by
    obtain⟨hl,hv⟩:=ZO.1 h4;have hs:j.toNat<(⟨l.toArray⟩:ByteArray).size:=by simpa [ByteArray.size] using hl
    rw[getElem?_pos (⟨l.toArray⟩:ByteArray) j.toNat hs];exact congrArg some hv
   simp[execOp,Instr.index,asIntOf,hx,hi,h1,h2,Al,run_underlying hu,h3,h5,Bz]
  ·rename_i n e hu
   split at hd<;>try cases hd
   rename_i f hf
   cases ha:DK P e with
   |none=>simp[ha] at hd
   |some m=>
    simp[ha] at hd;subst hd
    have hu2:∃d i,P.underlying e=some d∧P.info? e=some i∧(match d with|.struct _|.array _ _=>true|_=>false)=m.isSome∧(∀k,m=some k→k=i.size):=by
     unfold DK at ha;split at ha<;>simp_all
     ·subst ha;simp
     ·subst ha;simp
     ·subst ha;rename_i d i _ _ _ _;cases d<;>simp_all
    obtain⟨d,i',hu2,hi2,hd2,hn2⟩:=hu2
    obtain rfl:f=i':=Option.some.inj (hf.symm.trans hi2)
    have hag:(isAgg e).run P W=.ok m.isSome W:=by
     simp only[isAgg,Sem.run_bind,run_underlying hu2,Result.andThen];cases d<;>simp_all
    cases m with
    |none=>
     simp only[evq] at h;obtain⟨cs,k,j,h1,h2,h3,h4,h5⟩:=h
     simp[execOp,Instr.index,asIntOf,run_underlying hu,hx,hi,h1,h2,h3,h4,B3 hf,part,hag,h5]
    |some n=>
     simp only[evq] at h;obtain⟨cs,k,j,h1,h2,h3,h4,rfl⟩:=h
     simp[execOp,Instr.index,asIntOf,run_underlying hu,hx,hi,h1,h2,h3,h4,B3 hf,part,hag,B3 hi2,hn2 n rfl]
 case slice t x lo hi mx=>
  have hx:=hE x (by simp[Op.operands])
  have hlo:lo.map E=lo.map (ev ρ):=by cases lo<;>simp;exact hE _ (by simp[Op.operands])
  have hhi:hi.map E=hi.map (ev ρ):=by cases hi<;>simp;exact hE _ (by simp[Op.operands])
  have hmx:mx.map E=mx.map (ev ρ):=by cases mx<;>simp;exact hE _ (by simp[Op.operands])
  split at hd<;>try cases hd
  ·rename_i e hu
   split at hd<;>try cases hd
   rename_i f hf
   simp only[evq] at h;obtain⟨a,n,c,l,h,m,h1,h2,h3,rfl⟩:=h
   have hr:=Mq (P:=P) true n c _ _ _ l h m h3 W
   have ha:(if m=l then a else a.map (·.add (l*f.size)))=(if m=l then a else a.map fun a=>⟨a.block,a.off+l*f.size,none⟩):=by
    split
    ·rfl
    ·cases a with
     |none=>rfl
     |some a=>
      rename_i hml
      obtain⟨b,o,s⟩:=a;have:=h2 hml _ rfl;simp only at this;subst this;simp[Addr.add_lit]
   simp[execOp,Instr.sliceAt,Instr.slice,run_underlying hu,hx,hlo,hhi,hmx,h1,hr,B3 hf,ha]
  ·rename_i n e hu
   split at hd<;>try cases hd
   rename_i f hf
   simp only[evq] at h;obtain⟨b,o,l,h,m,h1,h3,rfl⟩:=h
   have hr:=Mq (P:=P) false n n _ _ _ l h m h3 W
   simp[execOp,Instr.sliceAt,Instr.sureAddr,run_underlying hu,hx,hlo,hhi,hmx,h1,hr,B3 hf,Addr.add_lit]
  ·rename_i hu
   split at hd<;>try cases hd
   rename_i hm
   simp only[Abk,Option.isSome_eq_false_iff,Option.isNone_iff_eq_none] at hm
   subst hm
   simp only[evq] at h;obtain⟨s,l,h,m,h1,h3,rfl⟩:=h
   have hr:=Mq (P:=P) false s.length s.length _ _ _ l h m h3 W
   have hsz:(⟨s.toArray⟩:ByteArray).size=s.length:=by simp[ByteArray.size]
   have hex:(⟨s.toArray⟩:ByteArray).extract l h=⟨((s.drop l).take (h - l)).toArray⟩:=by rw[Lib.extract_eq]
   simp only[execOp,Instr.sliceAt,Instr.slice,Sem.run_bind,run_underlying hu,hx,hlo,hhi,h1,Al,Result.andThen,Option.map_none,Option.isSome_none,ZX,if_false,hsz,hr,Sem.run_pure,hex]
 case typeAssert x xt t ok=>
  cases ok with
  |true=>simp at hd
  |false=>
   simp only[ZX,if_false] at hd
   split at hd<;>try cases hd
   rename_i td hni hu
   simp only[evq] at h
   simp only[execOp,hE x (by simp[Op.operands]),h,Instr.typeAssert,Sem.run_bind,run_underlying hu,Result.andThen]
   cases td<;>first|(exact absurd rfl (hni _))|simp
 case sliceToArrayPointer t x=>
  split at hd<;>try cases hd
  rename_i n e hu
  simp only[evq] at h
  obtain⟨a,len,c,hx,hle,rfl⟩:=h
  simp[execOp,hE x (by simp[Op.operands]),hx,Instr.arrayAt,run_underlying hu,Nat.not_lt.2 hle]
 case extract x i=>
  simp at hd;subst hd;simp only[evq] at h;obtain⟨vs,h1,h2⟩:=h
  simp[execOp,Instr.extract,hE x (by simp[Op.operands]),h1,h2]
 case build t parts=>
  split at hd<;>try cases hd
  rename_i fs i hu hi
  split at hd<;>try cases hd
  rename_i z places hz hp
  simp only[evq] at h;obtain⟨cs,h1,rfl⟩:=h
  have hparts:(parts.map fun(i,x)=>(i,E x)).toList=parts.toList.map fun p=>(p.1,ev ρ p.2):=by
   rw[Array.toList_map];apply Aap;rintro⟨j,x⟩ hj;have:E x=ev ρ x:=hE x (by simp[Op.operands];exact⟨j,by simpa using hj⟩);simp[this]
  have hpl:(fs.mapM fun f=>do pure (f.offset,←sizeOf f.type):Sem (Array (Nat×Nat))).run P W=.ok places.toArray W:=by
   have key:∀(l:List Field) (r:List (Nat×Nat)),(l.mapM fun f=>(P.info? f.type).map fun g=>(f.offset,g.size))=some r→
     (l.mapM fun f=>do pure (f.offset,←sizeOf f.type):Sem (List (Nat×Nat))).run P W=.ok r W:=by
    intro l
    induction l with
    |nil=>intro r hr;simp at hr;subst hr;simp
    |cons f l ih=>
     intro r hr
     simp only[List.mapM_cons,Option.bind_eq_bind,ZZ,Aaa,Option.pure_def,Option.some.injEq] at hr
     obtain⟨p,⟨g,hg,rfl⟩,r',hr',rfl⟩:=hr
     simp only[List.mapM_cons,Sem.run_bind,B3 hg,Result.andThen,Sem.run_pure,ih r' hr']
   rw[Array.mapM_eq_mapM_toList];have:=key fs.toList places hp;simp only[Sem.run_map,this,Result.andThen]
  have h1':Instr.fill (fun(i:Nat)=>places.toArray[i]?) z.cells (parts.toList.map fun p=>(p.1,ev ρ p.2))=some cs:=by
   have:(fun(i:Nat)=>places.toArray[i]?)=(fun(i:Nat)=>places[i]?):=by funext i;simp
   rw[this];simpa using h1
  simp only[execOp,Instr.build,Sem.run_bind,DY hi hz,run_underlying hu,hpl,Result.andThen,hparts,h1',Sem.run_pure]
  rename_i n e i hu hi
  split at hd<;>try cases hd
  rename_i z f hz hf
  simp only[evq] at h;obtain⟨cs,h1,rfl⟩:=h
  have hparts:(parts.map fun(i,x)=>(i,E x)).toList=parts.toList.map fun p=>(p.1,ev ρ p.2):=by
   rw[Array.toList_map];apply Aap;rintro⟨j,x⟩ hj;have:E x=ev ρ x:=hE x (by simp[Op.operands];exact⟨j,by simpa using hj⟩);simp[this]
  have h1':Instr.fill (fun(i:Nat)=>some (i*f.size,f.size)) z.cells (parts.toList.map fun p=>(p.1,ev ρ p.2))=some cs:=by
   refine OZ (fun i x hx=>?_) _ _ _ (by simpa using h1);cases e:(Z8 n)[i]? with
   |none=>rw[e] at hx;cases hx
   |some k=>
    rw[e] at hx
    have:k=i:=by have:=(ZO.1 e).2;simpa using this.symm
    subst this;exact hx
  simp only[execOp,Instr.build,Sem.run_bind,DY hi hz,run_underlying hu,B3 hf,Result.andThen,hparts,h1',Sem.run_pure]
 case field t x f=>
  have hx:=hE x (by simp[Op.operands])
  split at hd<;>try cases hd
  rename_i fs hu
  split at hd<;>try cases hd
  rename_i fl hf
  cases ha:DK P fl.type with
  |none=>simp[ha] at hd
  |some n=>
   simp[ha] at hd;subst hd
   have hu2:∃d i,P.underlying fl.type=some d∧P.info? fl.type=some i∧(match d with|.struct _|.array _ _=>true|_=>false)=n.isSome∧(∀k,n=some k→k=i.size):=by
    unfold DK at ha;split at ha<;>simp_all
    ·subst ha;simp
    ·subst ha;simp
    ·subst ha;rename_i d i _ _ _ _;cases d<;>simp_all
   obtain⟨d,i,hu2,hi2,hd2,hn2⟩:=hu2
   have hag:(isAgg fl.type).run P W=.ok n.isSome W:=by
    simp only[isAgg,Sem.run_bind,run_underlying hu2,Result.andThen];cases d<;>simp_all
   cases n with
   |none=>
    simp only[evq] at h;obtain⟨cs,h1,h2⟩:=h
    simp[execOp,Instr.field,run_underlying hu,hf,hx,h1,asAgg,part,hag,h2]
   |some n=>
    simp only[evq] at h;obtain⟨cs,h1,rfl⟩:=h
    simp[execOp,Instr.field,run_underlying hu,hf,hx,h1,asAgg,part,hag,B3 hi2,hn2 n rfl]
 case makeFunc fn first cap=>
  simp at hd;subst hd;simp only[evq] at h;subst h
  have h1:first.map E=(first.toList.map (ev ρ)).toArray:=by
   apply Array.ext';simp;intro x hx;exact hE x (by simp[Op.operands,hx])
  have h2:cap.map E=(cap.toList.map (ev ρ)).toArray:=by
   apply Array.ext';simp;intro x hx;exact hE x (by simp[Op.operands,hx])
  simp only[execOp,Instr.makeFunc,Sem.run_bind,Sem.run_pure,Result.andThen,h1,h2]
 case makeInterface t x=>
  split at hd<;>try cases hd
  rename_i d hu hd2
  simp only[evq] at h;subst h
  have:(Instr.makeInterface t (ev ρ x)).run P W=.ok (.iface t (ev ρ x)) W:=by
   simp only[Instr.makeInterface,Sem.run_bind,run_underlying hd2,Result.andThen];cases d<;>simp_all
  simp[execOp,hE x (by simp[Op.operands]),this]
 case nilCheck x=>
  simp at hd;subst hd;simp only[evq] at h;obtain⟨⟨a,ha⟩,rfl⟩:=h
  simp[execOp,hE x (by simp[Op.operands]),ha]
 case call c=>
  obtain⟨callee,args,ats⟩:=c
  cases callee with
  |value f=>
   cases f with
   |func f=>
    simp only at hd
    split at hd
    ·rename_i hcmp
     split at hd<;>try cases hd
     rename_i x y h1
     have ha:args= #[x,y]:=by rw[←Array.toArray_toList (xs:=args),h1]
     subst ha
     have hx:=hE x (by simp[Op.operands,Call.operands])
     have hy:=hE y (by simp[Op.operands,Call.operands])
     have hf:=hE (.func f) (by simp[Op.operands,Call.operands])
     simp only[evq] at h
     obtain⟨l,m,h1,h2,rfl⟩:=h
     have hf':E (.func f)=.func (.func f) #[] #[]:=hf
     simp[execOp,resolve,hf',Deferred.ofValue,invoke,hx,hy,VK hcmp h1 h2 hC]
    ·cases hd;simp[GI.quiet] at hq
   |_=>simp at hd;subst hd;simp[GI.quiet] at hq
  |invoke r m=>simp at hd
  |builtin b=>
   have hargs:args.map E=(args.toList.map (ev ρ)).toArray:=by
    apply Array.ext';simp;intro x hx;exact hE x (by simp[Op.operands,Call.operands,hx])
   cases b<;>simp only at hd
   case len=>
    split at hd<;>try cases hd
    rename_i x t h1 h2
    have ha:args= #[x]:=by rw[←Array.toArray_toList (xs:=args),h1]
    have hts:ats= #[t]:=by rw[←Array.toArray_toList (xs:=ats),h2]
    subst ha;subst hts
    have hx:=hE x (by simp[Op.operands,Call.operands])
    split at hd<;>try cases hd
    ·rename_i hu
     simp only[evq] at h
     obtain⟨l,h1,rfl⟩:=h
     have hsz:(⟨l.toArray⟩:ByteArray).size=l.length:=by simp[ByteArray.size]
     simp[execOp,resolve,invoke,builtin,Builtin.len_,run_underlying hu,hx,h1,Al,hsz,goInt]
    ·rename_i e hu
     simp only[evq] at h
     obtain⟨a,n,c,h1,rfl⟩:=h
     simp[execOp,resolve,invoke,builtin,Builtin.len_,run_underlying hu,hx,h1,goInt]
   case cap=>
    split at hd<;>try cases hd
    rename_i x t h1 h2
    have ha:args= #[x]:=by rw[←Array.toArray_toList (xs:=args),h1]
    have hts:ats= #[t]:=by rw[←Array.toArray_toList (xs:=ats),h2]
    subst ha;subst hts
    have hx:=hE x (by simp[Op.operands,Call.operands])
    split at hd<;>try cases hd
    rename_i e hu
    simp only[evq] at h
    obtain⟨a,n,c,h1,rfl⟩:=h
    simp[execOp,resolve,invoke,builtin,Builtin.cap_,run_underlying hu,hx,h1,goInt]
   case max=>
    split at hd<;>try cases hd
    rename_i x y h1
    have ha:args= #[x,y]:=by rw[←Array.toArray_toList (xs:=args),h1]
    subst ha
    have hx:=hE x (by simp[Op.operands,Call.operands])
    have hy:=hE y (by simp[Op.operands,Call.operands])
    simp only[evq] at h
    obtain⟨k,a,b,h1,h2,rfl⟩:=h
    simp[execOp,resolve,invoke,builtin,Builtin.max_,Builtin.max2,hx,hy,h1,h2]
   case min=>
    split at hd<;>try cases hd
    rename_i x y h1
    have ha:args= #[x,y]:=by rw[←Array.toArray_toList (xs:=args),h1]
    subst ha
    have hx:=hE x (by simp[Op.operands,Call.operands])
    have hy:=hE y (by simp[Op.operands,Call.operands])
    simp only[evq] at h
    obtain⟨k,a,b,h1,h2,rfl⟩:=h
    simp[execOp,resolve,invoke,builtin,Builtin.min_,Builtin.min2,hx,hy,h1,h2]
   case append=>
    split at hd<;>try cases hd
    split at hd<;>try cases hd
    split at hd<;>try cases hd
    split at hd<;>try cases hd
    split at hd<;>try cases hd
    simp[GI.quiet] at hq
   all_goals cases hd
 all_goals first
  |(cases hd;done)
  |(simp at hd;subst hd;simp[GI.quiet] at hq;done)
  |(split at hd<;>first|(cases hd;done)|(simp at hd;subst hd;simp[GI.quiet] at hq;done)|(simp at hd;obtain⟨_,_,rfl⟩:=hd;simp[GI.quiet] at hq;done)|(split at hd<;>first|(cases hd;done)|(split at hd<;>first|(cases hd;done)|(simp at hd;subst hd;simp[GI.quiet] at hq;done)|(simp at hd;obtain⟨_,rfl⟩:=hd;simp[GI.quiet] at hq;done))))
def act(n:Nat)(ρ:Env)(ds:List Deferred):Act:=⟨Array.ofFn (n:=n) fun i=>ρ i,ds⟩
def Bp{x}(h:FC n x=true):(act n ρ ds).eval x=ev ρ x:=by
 cases x with
 |tmp t=>
  have:t<n:=by simpa [FC] using h
  simp[Act.eval,act,ev,this,Array.getD]
 |_=>rfl
def IU{d:Option Tmp}(h:∀t,d=some t→t<n)(v:Value):(act n ρ ds).put d v=act n (put ρ d v) ds:=by
 cases d with
 |none=>rfl
 |some t=>
  have ht:=h t rfl
  simp only[Act.put,act,put,Act.mk.injEq,and_true]
  apply Array.ext
  ·simp
  ·intro i h1 h2
   simp only[Array.size_setIfInBounds,Array.size_ofFn] at h1
   rw[Array.getElem_setIfInBounds (by simpa using h1)]
   by_cases e:t=i
   ·subst e;simp[upd]
   ·have:Nat.beq i t=false:=by
     cases hb:Nat.beq i t with
     |false=>rfl
     |true=>exact absurd (Abp hb).symm e
    simp[e,upd,this]
def HC.cell{a:Addr}(h:HC d Lk a v)(hd:Sub d W)(hl:∀k∈Lk,Sub k W):W.cell? a=some v:=by
 obtain⟨hs,k,hk,c,T,fr,hb,hc⟩:=h;have hW:W.heap[a.block]?=some (.cells c T fr):=by
  rcases hk with rfl|hk
  ·exact hd _ _ hb
  ·exact hl k hk _ _ hb
 simp[World.cell?,hW,hs,hc]
def Hy(h:Ey P f)(args:Array Value)(W:World):(callFunc f args).run P W=.ok (.enter f args) W:=by
 obtain⟨fn,hf,hb,hn⟩:=h;have hb':fn.body.isNone=false:=by cases e:fn.body<;>simp_all
 simp only[callFunc,Sem.run_bind,run_program,Result.andThen,hf,hn,hb',ZX,if_false,Sem.run_pure]
def Gx{i:Nat}{h}(e:L[i]?=some h)(h':Ag):∃A B,L=A++h::B∧L.set i h'=A++h'::B:=by
 obtain⟨hi,rfl⟩:=ZO.1 e;exact⟨L.take i,L.drop (i+1),by simp,by rw[List.set_eq_take_append_cons_drop,if_pos hi]⟩
def Ok.front{h A B}:Ok (d::((A++h::B)++F)) W↔Ok (h::d::((A++B)++F)) W:=by
 have p:List.Perm (d::((A++h::B)++F)) (h::d::((A++B)++F)):=by
  refine(Z1 d ?_).trans (Z0 h d _);simp only[Zy,List.cons_append];exact Acs
 exact⟨fun x=>x.perm p,fun x=>x.perm p.symm⟩
def XL{T l}(h:Sub (bx b T l) W):W.heap[b]?=some (.cells l.toArray T (0,0)):=h b _ (CI _ _)
def Ul(W:World)(g:Nat)(cs cs':Array Value)(T:TypeId)(fr:Nat×Nat)(h:W.heap[g]?=some (.cells cs T fr)):(W.setRow g cs').heap=W.heap.setIfInBounds g (.cells cs' T fr):=by
 simp only[World.setRow];apply Array.ext_getElem?;intro i;rw[Array.getElem?_modify,Array.getElem?_setIfInBounds];obtain⟨hg,_⟩:=Array.getElem?_eq_some_iff.1 h;by_cases e:g=i
 ·subst e;obtain⟨_,hv⟩:=Array.getElem?_eq_some_iff.1 h;simp[hg,hv]
 ·simp[e]
def Ok.Ll{i o:Nat}{T l vs}(x:Ok (d::(L++F)) W)(hi:L[i]?=some (bx b T l))(hl:o+vs.length≤l.length)
  (h1:(vs.all (·.oneCell'))=true) (P:Program):∃W',(storeCells ⟨b,o,none⟩ vs).run P W=.ok () W'∧Ok (d::(L.set i (bx b T (patch l o vs))++F)) W'∧B6 W W':=by
 obtain⟨A,B,rfl,e2⟩:=Gx hi (bx b T (patch l o vs))
 have y:=Ok.front.1 x
 have hb:=XL y.head
 have hr:=run_storeCells_at P b o T vs 0 l.toArray W hb (by simpa using hl) (by simpa using h1)
 refine⟨_,hr,?_,?_⟩
 ·rw[e2]
  refine Ok.front.2 ?_
  refine y.write _ ?_
  rw[Ul W b _ _ T (0,0) hb]
  simp[patch]
 ·exact⟨rfl,rfl,rfl,by simp[World.setRow]⟩
def Ob(z:Array Value)(n:Nat)(hz:n≠0→0<z.size):((Array.range n).map (z[·% z.size]!))=(BC z.toList n).toArray:=by
 apply Array.ext';simp only[Array.toList_map,Array.toList_range,BC];apply Aap;intro i hi;have hn:n≠0:=by rintro rfl;simp at hi
 have:=Nat.mod_lt i (hz hn);simp[Acd,this,Array.length_toList]
def Ge(z:Array Value)(n sz:Nat)(hz:z.size=sz)(h0:0<sz):Builtin.zeroCells z n=(BC z.toList (n*sz)).toArray:=by
 subst hz;unfold Builtin.zeroCells;exact Ob z _ (fun _=>h0)
def HO.at{o:Obj}(h:HO d Lk b o)(hd:Sub d W)(hl:∀k∈Lk,Sub k W):W.heap[b]?=some o:=by
 obtain⟨k,hk,hb⟩:=h;rcases hk with rfl|hk
 ·exact hd _ _ hb
 ·exact hl k hk _ _ hb
def HO.up(hl:Le d d0){o:Obj}(h:HO d Lk b o):HO d0 Lk b o:=by
 obtain⟨k,hk,hb⟩:=h;rcases hk with rfl|hk
 ·exact⟨d0,.inl rfl,hl _ _ hb⟩
 ·exact⟨k,.inr hk,hb⟩
def H9.up(hl:Le d d0)(h:H9 d Lk v es):H9 d0 Lk v es:=
 h.imp id fun⟨b,c,e,ho⟩=>⟨b,c,e,ho.up hl⟩
def Ok.setAt{i:Nat}{o:Obj}(x:Ok (d::(L++F)) W)(hi:L[i]?=some (sg b o)):
  Ok (d::(L.set i (sg b o')++F)) {W with heap:=W.heap.setIfInBounds b o'}:=by
 obtain⟨A,B,rfl,e2⟩:=Gx hi (sg b o')
 rw[e2]
 exact Ok.front.2 ((Ok.front.1 x).write _ rfl)
def HN(W:World)(b:Nat)(o:Obj):B6 W {W with heap:=W.heap.setIfInBounds b o}:=⟨rfl,rfl,rfl,by simp⟩
def Em{es:Array MapEntry}(h:W.heap[b]?=some (.map es c)):(getObj b).run P W=.ok (.map es c) W:=MapKept.run_getObj_map h
def LL(h:Fz P t=some kd):∃td,P.underlying t=some td∧(∀x y,Instr.sameNow td x y=eq1 kd x y)∧∀(e:Bool) (n:Nat) (k:Value) (W:World),(Instr.checkKey e (n+1) t k).run P W=.ok () W:=by
 unfold Fz at h;cases hu:P.underlying t with
 |none=>rw[hu] at h;cases h
 |some td=>
  rw[hu] at h
  refine⟨td,rfl,?_,fun e n k W=>?_⟩
  ·cases td<;>try (cases h;done)
   all_goals
    cases h
    intro x y
    cases x<;>cases y<;>rfl
  ·unfold Instr.checkKey
   simp only[Sem.run_bind,run_underlying hu,Result.andThen]
   cases td<;>try (cases h;done)
   all_goals rfl
def M6{td:TypeDesc}(h:∀x y,Instr.sameNow td x y=eq1 kd x y)(k:Value):∀(es:List MapEntry) (i:Nat),Instr.findNow td k es i=FK kd k es i
 |[],i=>rfl
 |e::es,i=>by
  rw[Instr.findNow,FK,h,M6 h k es (i+1)];cases eq1 kd k e.key with
  |none=>rfl
  |some b=>cases b<;>rfl
def ID(h:Fz P t=some kd){k}{r:Option (Nat×Value)}(hf:FK kd k es 0=some r)(W:World):(Instr.findKey t k es).run P W=.ok r W:=by
 obtain⟨td,hu,hs,_⟩:=LL h;simp only[Instr.findKey,Sem.run_bind,run_underlying hu,Result.andThen,M6 hs,hf,Sem.run_pure]
def HV(h:Fz P t=some kd)(e:Bool)(k:Value)(W:World):(Instr.checkKey e 10000 t k).run P W=.ok () W:=by
 obtain⟨_,_,_,hc⟩:=LL h;exact hc e 9999 k W
def Wq{y}(h:eq1 kd x y=some true):x=y∧∀n,Instr.sameBits n x y=true:=by
 unfold eq1 at h;split at h
 ·rename_i k a k' b;by_cases hk:k=k'
  ·rw[if_pos hk] at h;have hab:a=b:=by simpa using h
   subst hk;subst hab;exact⟨rfl,fun n=>MapKept.sameBits_self (d:=.int k) (k:=.int k a) rfl n⟩
  ·rw[if_neg hk] at h;cases h
 ·rename_i a b;have hab:a=b:=by
   have h1:(a==b)=true:=by simpa using h
   have h2:a.data==b.data:=h1;have h3:a.data=b.data:=eq_of_beq h2;cases a;cases b;simp at h3;rw[h3]
  subst hab;exact⟨rfl,fun n=>MapKept.sameBits_self (d:=.string) (k:=.string a) trivial n⟩
 ·rename_i a b;have hab:a=b:=by simpa using h
  subst hab;exact⟨rfl,fun n=>MapKept.sameBits_self (d:=.bool) (k:=.bool a) trivial n⟩
 ·cases h
def MZ{k}:∀{es:List MapEntry}{i:Nat}{j:Nat}{v},FK kd k es i=some (some (j,v))→∃e,i≤j∧es[j - i]?=some e∧eq1 kd k e.key=some true∧v=e.val
 |[],i,j,v,h=>by cases h
 |e::es,i,j,v,h=>by
  rw[FK] at h;cases hq:eq1 kd k e.key with
  |none=>rw[hq] at h;cases h
  |some b=>
   rw[hq] at h
   cases b with
   |true=>cases h;exact⟨e,ZL _,by simp,hq,rfl⟩
   |false=>
    obtain⟨e',h1,h2,h3,h4⟩:=MZ (es:=es) h
    refine⟨e',by omega,?_,h3,h4⟩
    rw[show j - i=(j - (i+1))+1 by omega,List.getElem?_cons_succ];exact h2
def OC(h:H9 d Lk v es)(hd:Sub d W)(hl:∀k∈Lk,Sub k W):
  (v=.map none∧es=[])∨∃b c,v=.map (some b)∧(getObj b).run P W=.ok (.map es.toArray c) W:=
 h.imp id fun⟨b,c,e,ho⟩=>⟨b,c,e,Em (ho.at hd hl)⟩
def SX(hu:P.underlying t=some (.map kt e))(hk:Fz P kt=some kd)(hi:P.info? e=some i)(hz:i.zero=some z)
  {d Lk v k}{es:List MapEntry}{r:Option (Nat×Value)}{W}(hm:H9 d Lk v es) (hd:Sub d W) (hl:∀k∈Lk,Sub k W) (hf:FK kd k es 0=some r) (ok:Bool):
  (Instr.lookup t v k ok).run P W=.ok (lkV z ok r) W:=by
 have hc:=HV (P:=P) hk
 have hfk:=ID (P:=P) hk hf W
 rcases OC (P:=P) hm hd hl with ⟨rfl,rfl⟩|⟨b,c,rfl,hg⟩
 ·simp only[Instr.lookup,Sem.run_bind,run_underlying hu,Result.andThen,Sem.run_pure,hc,hfk]
  rcases r with _|⟨j,v⟩<;>cases ok<;>simp[lkV,DY hi hz,Result.andThen]
 ·simp only[Instr.lookup,Sem.run_bind,run_underlying hu,Result.andThen,hg,Sem.run_pure,hc,hfk]
  rcases r with _|⟨j,v⟩<;>cases ok<;>simp[lkV,DY hi hz,Result.andThen]
def Gf{es:Array MapEntry}(o:Obj)(h:W.heap[b]?=some (.map es c)):(setObj b o).run P W=.ok () {W with heap:=W.heap.setIfInBounds b o}:=MapKept.run_setObj_map o h
def Nq(hu:P.underlying t=some (.map kt e))(hk:Fz P kt=some kd){k}{r:Option (Nat×Value)}(hb:W.heap[b]?=some (.map es.toArray c))
  (hf:FK kd k es 0=some r):(Instr.mapUpdate t (.map (some b)) k x).run P W=.ok () {W with heap:=W.heap.setIfInBounds b (upO es c k x r)}:=by
 have hc:=HV (P:=P) hk
 have hfk:=ID (P:=P) hk hf W
 simp only[Instr.mapUpdate,Sem.run_bind,run_underlying hu,Result.andThen,Em hb,hc,hfk]
 rcases r with _|⟨j,v⟩
 ·simp only[Gf _ hb]
  congr 3
  simp[upO]
 ·obtain⟨e',_,h2,h3,_⟩:=MZ hf
  obtain⟨h4,h5⟩:=Wq h3
  have hj:es.toArray[j]?=some e':=by simpa using h2
  subst h4
  have hks:(Instr.keyThatStays e'.key e'.key).run P W=.ok e'.key W:=by rw[Instr.keyThatStays,if_pos (h5 10000)];rfl
  simp only[hj,Option.map_some,Option.getD_some,Sem.run_bind,hks,Result.andThen,Gf _ hb]
  congr 3
  simp only[upO]
  congr 1
  apply Array.ext'
  rw[Array.toList_modify]
  apply List.ext_getElem?
  intro n
  rw[List.getElem?_modify,List.getElem?_modify]
  by_cases hn:j=n
  ·subst hn
   have:es[j]?=some e':=by simpa using h2
   simp[this]
  ·simp[hn]
def TN(hu:P.underlying t=some (.map kt e))(hk:Fz P kt=some kd){k}{r:Option (Nat×Value)}(hb:W.heap[b]?=some (.map es.toArray c))
  (hf:FK kd k es 0=some r) (ats:Array TypeId) (ty:TypeId) (h0:ats[0]?=some t):(Builtin.delete_ ats ty #[.map (some b),k]).run P W=.ok (.tuple #[]) {W with heap:=W.heap.setIfInBounds b (QW es c r)}:=by
 have hc:=HV (P:=P) hk
 have hfk:=ID (P:=P) hk hf W
 simp only[Builtin.delete_,h0,Sem.run_bind,run_underlying hu,Result.andThen,Em hb,hc,hfk,Acy,Abg,List.getElem?_cons_succ]
 rcases r with _|⟨j,v⟩
 ·simp only[Sem.run_bind,Gf _ hb,QW,Sem.run_pure,Result.andThen]
 ·have he:es.toArray.eraseIdxIfInBounds j=(es.eraseIdx j).toArray:=by
   simp only[Array.eraseIdxIfInBounds];split
   ·simp
   ·rename_i hj;rw[List.eraseIdx_of_length_le (by simpa using hj)]
  simp only[Sem.run_bind,Gf _ hb,QW,Sem.run_pure,Result.andThen,he]
def Vf(hu:P.underlying t=some (.map kt e)){es:Array MapEntry}(hb:W.heap[b]?=some (.map es c))(ats:Array TypeId)(ty:TypeId)(h0:ats[0]?=some t):
  (Builtin.clear_ ats ty #[.map (some b)]).run P W=.ok (.tuple #[]) {W with heap:=W.heap.setIfInBounds b (.map #[] c)}:=by
 simp only[Builtin.clear_,h0,Sem.run_bind,run_underlying hu,Result.andThen,Em hb,Gf _ hb,Sem.run_pure,Acy,Abg]
def Ve(hu:P.underlying t=some (.map kt e)){es:Array MapEntry}(hb:W.heap[b]?=some (.map es c)):
  (Instr.range t (.map (some b))).run P W=.ok (.pointer (some ⟨W.heap.size,0,none⟩)) (W.alloc (.mapIter (some b) c #[] c)):=by
 simp only[Instr.range,Sem.run_bind,run_underlying hu,Result.andThen,Em hb,Sem.run_pure,run_newObj]
 rfl
def Wf(hu:P.underlying t=some (.map kt e))(hm:H9 d Lk v es)(hd:Sub d W)(hl:∀k∈Lk,Sub k W)(ty:TypeId):
  (Builtin.len_ #[t] ty #[v]).run P W=.ok (vZ es.length) W:=by
 rcases OC (P:=P) hm hd hl with ⟨rfl,rfl⟩|⟨b,c,rfl,hg⟩
 ·simp only[Builtin.len_,Sem.run_bind,run_underlying hu,Result.andThen,Sem.run_pure,Acy,Abg];rfl
 ·simp only[Builtin.len_,Sem.run_bind,run_underlying hu,Result.andThen,hg,Sem.run_pure,Acy,Abg];simp[goInt]
def Ua{q j:Nat}{seen:Array Nat}{e:MapEntry}(hq:W.heap[q]?=some (.mapIter (some b) since seen last))(hj:seen.back?=some j)(hb:W.heap[b]?=some (.map es.toArray last))
  (he:es.find? (·.born==j)=some e):(Instr.entry (pZ q)).run P W=.ok (.tuple #[e.key,e.val]) W:=by
 have hgo:(getObj q).run P W=.ok (.mapIter (some b) since seen last) W:=by simp[getObj,Sem.run,hq]
 have he':es.toArray.find? (·.born==j)=some e:=by simpa using he
 simp only[Instr.entry,Sem.run_bind,hgo,Result.andThen,hj,Em hb,bne_self_eq_false,ZX,if_false,Sem.run_pure,he']
def Wi{q:Nat}{seen:Array Nat}(ty:TypeId)(hq:W.heap[q]?=some (.mapIter (some b) since seen last))(hb:W.heap[b]?=some (.map es.toArray c))
  (hg:seen= #[]∨∃e∈es,e.born<last):
  ∃W1,(W1=W∨W1=W.drew)∧
   ((∃e∈es,e.born∉seen∧(Instr.next (pZ q) false ty).run P W=.ok (.tuple #[.bool true,e.key,e.val]) {W1 with heap:=W1.heap.setIfInBounds q (.mapIter (some b) since (seen.push e.born) c)})∨
    ((∀e∈es,e.born<since→e.born∈seen)∧(Instr.next (pZ q) false ty).run P W=.ok (.tuple #[.bool false]) W1)):=by
 have hgo:(getObj q).run P W=.ok (.mapIter (some b) since seen last) W:=by simp[getObj,Sem.run,hq]
 have hguard:(!seen.isEmpty && !es.toArray.isEmpty && es.toArray.all (fun e=>decide (e.born≥last)))=false:=by
  rcases hg with rfl|⟨e,he,hlt⟩
  ·rfl
  ·have:es.toArray.all (fun e=>decide (e.born≥last))=false:=by
    rw[←Abk,Array.all_eq_true'];intro hall;have:=hall e (by simpa using he);simp at this;omega
   rw[this,Bool.and_false]
 let left:=es.toArray.filter fun e=> !seen.contains e.born
 let old:=left.filter fun e=>decide (e.born<since)
 let new:=left.filter fun e=>decide (e.born≥since)
 let cands:Array (Option MapEntry):=(if old.isEmpty then #[none] else #[])++(old++new).map some
 have hpos:0<cands.size:=by
  simp only[cands,Array.size_append,Array.size_map];by_cases ho:old.isEmpty=true
  ·rw[if_pos ho];simp;omega
  ·have:old.size≠0:=fun h=>ho (by simpa [Array.isEmpty] using h);omega
 have hch:∃W1 i,(W1=W∨W1=W.drew)∧i<cands.size∧(choose (.mapNext cands.size)).run P W=.ok i W1:=by
  rw[run_choose_drew];by_cases hf:(Question.mapNext cands.size).forced=true
  ·exact⟨W,0,.inl rfl,hpos,by rw[if_pos hf]⟩
  ·exact⟨W.drew,_,.inr rfl,Nat.mod_lt _ hpos,by rw[if_neg hf];rfl⟩
 obtain⟨W1,i,hW1,hi,hc⟩:=hch
 refine⟨W1,hW1,?_⟩
 have hq1:W1.heap[q]?=some (.mapIter (some b) since seen last):=by rcases hW1 with rfl|rfl;exact hq;exact hq
 have hso:∀o:Obj,(setObj q o).run P W1=.ok () {W1 with heap:=W1.heap.setIfInBounds q o}:=by
  intro o;simp only[setObj,Sem.run,hq1]
 have hrun:(Instr.next (pZ q) false ty).run P W=(match cands[i]? with
   |some (some e)=>(setObj q (.mapIter (some b) since (seen.push e.born) c)>>=fun _=>pure (.tuple #[.bool true,e.key,e.val]):Sem Value).run P W1
   |some none=>.ok (.tuple #[.bool false]) W1
   |none=>(stuck "Next: no such candidate" :Sem Value).run P W1):=by
  simp only[Instr.next,Sem.run_bind,hgo,Result.andThen,Em hb,hguard,ZX,if_false]
  show((choose (.mapNext cands.size)).run P W).andThen _=_
  rw[hc]
  simp only[Result.andThen]
  show Sem.run P (match cands[i]? with|some (some e)=>_|some none=>_|none=>_) W1=_
  rcases cands[i]? with _|_|e
  ·rfl
  ·rfl
  ·simp only[Sem.run_bind,hso,Result.andThen]
 have hget:cands[i]?=some cands[i]:=Array.getElem?_eq_getElem hi
 rw[hget] at hrun
 have hmem:cands[i]∈cands:=Array.getElem_mem hi
 cases hcv:cands[i] with
 |some e=>
  rw[hcv] at hrun hmem
  have he:e∈es∧e.born∉seen:=by
   simp only[cands,Array.mem_append,Array.mem_map] at hmem;rcases hmem with hm|⟨e',hm,he⟩
   ·split at hm<;>simp at hm
   ·cases he;have:e∈left:=by rcases hm with hm|hm<;>exact(Array.mem_filter.1 hm).1
    have:=Array.mem_filter.1 this;exact⟨by simpa using this.1,by simpa using this.2⟩
  refine .inl ⟨e,he.1,he.2,?_⟩
  rw[hrun]
  simp only[Sem.run_bind,hso,Result.andThen,Sem.run_pure]
 |none=>
  rw[hcv] at hrun hmem
  refine .inr ⟨fun e he hlt=>?_,hrun⟩
  have ho:old.isEmpty=true:=by
   simp only[cands,Array.mem_append,Array.mem_map] at hmem;rcases hmem with hm|⟨e',_,he⟩
   ·by_cases ho:old.isEmpty=true
    ·exact ho
    ·rw[if_neg ho] at hm;simp at hm
   ·cases he
  rcases Classical.em (e.born∈seen) with hs|hs
  ·exact hs
  ·have:e∈old:=Array.mem_filter.2 ⟨Array.mem_filter.2 ⟨by simpa using he,by simpa using hs⟩,by simpa using hlt⟩
   rw[Array.isEmpty_iff] at ho
   rw[ho] at this;simp at this
def DU{K:Value→A0}(hq:g.quiet=true):
  gi P pan ρ d Lk L K g=∃v,evq ρ (HC d Lk) g v∧K v d L:=by
 cases g<;>first|rfl|(simp[GI.quiet] at hq;done)|(rename_i n x;cases n<;>rfl)|(rename_i n o x;cases n<;>rfl)
def Bs{nxt Q}
  (hr:(execOp a.eval o).run P W=.ok (.value v) W') (h:nxt (a.put o.dst v) W'):o.wp P a W nxt Q:=by
 unfold Oper.wp;rw[hr];exact h
def Ji{nxt Q}
  (hr:(execOp a.eval o).run P W=.ok .skip W') (h:nxt (a.put o.dst undef) W'):o.wp P a W nxt Q:=by
 unfold Oper.wp;rw[hr];exact h
def LJ{args:Array Value}{nxt Q}
  (hr:(execOp a.eval o).run P W=.ok (.enter f args) W) (h:Calls P f args W fun
   |.returned v,w''=>nxt (a.put o.dst v) w''
   |.panicked chain,w''=>Q (.panic chain) a w''
   |.outgrown,_=>LetsOut Q):o.wp P a W nxt Q:=by
 unfold Oper.wp;rw[hr];exact h
def RB{nxt Q}
  (hr:(execOp a.eval o).run P W=.halt (.panic v) W) (h:Q (.panic [{v,recovered:=false}]) a W):o.wp P a W nxt Q:=by
 unfold Oper.wp;rw[hr];exact h
def Ok.push(x:Ok (d::(L++F)) W)(o:Obj):Ok (d::((sg W.heap.size o::L)++F)) (W.alloc o):=
 (x.alloc o).perm (Z0 _ _ _)
def En(W:World)(o:Obj):B6 W (W.alloc o):=⟨rfl,rfl,rfl,by show W.heap.size≤(W.heap.push o).size;simp⟩
def Ro(hi:P.info? t=some i)(hs:v.cells.size=i.size)(a:Addr)(W:World):
  (storeVar t a v).run P W=(storeCells a v.cells.toList).run P W:=by
 simp[storeVar,B3 hi,hs]
def Nv{ty e'}(ht:P.underlying t=some (.slice e))(ht':P.underlying t'=some (.slice e'))(hi:P.info? e=some i)
  {sa xa}{n c m xc:Nat}{news}(hl:news.length=m*i.size) {W}(hx0:xa=none→news=[])
  (hx:∀a',xa=some a'→∀j u,news[j]?=some u→W.cell? (a'.add j)=some u) (hfit:n+m≤c):
  (Builtin.append_ #[t,t'] ty #[.slice sa n c,.slice xa m xc]).run P W=
   (match sa with
    |some a=>(storeCells (a.add (n*i.size)) news).run P W
    |none=>.ok () W).andThen fun _ W'=>.ok (.slice sa (n+m) c) W':=by
 have hf:(Builtin.firstCells i.size m (.slice xa m xc)).run P W=.ok news.toArray W:=by
  cases xa with
  |none=>rw[hx0 rfl];simp[Builtin.firstCells]
  |some a=>
   exact run_firstCells_some W i.size m a m xc news hl (fun j v hj=>hx _ rfl j v hj)
 cases sa<;>simp[Builtin.append_,run_underlying ht,run_underlying ht',B3 hi,Builtin.lenOf,hfit,hf]
def LY{ty e'}(ht:P.underlying t=some (.slice e))(ht':P.underlying t'=some (.slice e'))(hi:P.info? e=some i)
  (hz:i.zero=some z) (hb:i.bytes≠0)
  {sa xa}{n c m xc:Nat}{news olds}(hl:news.length=m*i.size) (hlo:olds.length=n*i.size) {W}(hx0:xa=none→news=[])
  (hx:∀a',xa=some a'→∀j u,news[j]?=some u→W.cell? (a'.add j)=some u) (hs0:sa=none→olds=[])
  (hs:∀a',sa=some a'→∀j u,olds[j]?=some u→W.cell? (a'.add j)=some u) (hfit:c<n+m) (hmax:n+m≤maxLen) (hbytes:(n+m)*i.bytes≤2 ^ 47):
  ∃c',n+m≤c'∧c'≤maxLen∧(Builtin.append_ #[t,t'] ty #[.slice sa n c,.slice xa m xc]).run P W=
   .ok (.slice (some ⟨W.heap.size,0,none⟩) (n+m) c') (W.drew.alloc (.cells (olds.toArray++news.toArray++Builtin.zeroCells z.cells (c' - (n+m))) e)):=by
 have hf:∀W',(∀a,W'.cell? a=W.cell? a)→(Builtin.firstCells i.size m (.slice xa m xc)).run P W'=.ok news.toArray W':=by
  intro W' hW;cases xa with
  |none=>rw[hx0 rfl];simp[Builtin.firstCells]
  |some a=>
   exact run_firstCells_some W' i.size m a m xc news hl (fun j v hj=>by rw[hW];exact hx _ rfl j v hj)
 have hfo:∀W',(∀a,W'.cell? a=W.cell? a)→(Builtin.firstCells i.size n (.slice sa n c)).run P W'=.ok olds.toArray W':=by
  intro W' hW;cases sa with
  |none=>rw[hs0 rfl];simp[Builtin.firstCells]
  |some a=>
   exact run_firstCells_some W' i.size n a n c olds hlo (fun j v hj=>by rw[hW];exact hs _ rfl j v hj)
 refine⟨grownCap W (n+m) c e,grownCap_ge W _ _ _,grownCap_le_maxLen W _ _ _ hmax,?_⟩
 have hn:¬(n+m≤c):=by omega
 have h48:=growslice_fits (need:=n+m) (old:=c) (bytes:=i.bytes) hfit (by simpa using hbytes)
 have h48':¬(281474976710656<Builtin.nextslicecap (n+m) c*i.bytes):=by omega
 have hfd:=hf W.drew (fun a=>by simp)
 have hfod:=hfo W.drew (fun a=>by simp)
 simp[Builtin.append_,run_underlying ht,run_underlying ht',B3 hi,Fe hi,DY hi hz,Builtin.lenOf,hn,hb,h48',Question.forced,hfd,hfod,newRow,grownCap]
 simp only[←Array.append_assoc,List.append_toArray]
def Jr(args:Array Operand)(h:∀x∈args,FC n x=true):args.map (act n ρ ds).eval=(args.toList.map (ev ρ)).toArray:=by
 apply Array.ext';simp;intro x hx;exact Bp (h x hx)
def SZ(parts:Array (Nat×Operand))(h:∀p∈parts,FC n p.2=true):
  (parts.map fun(i,x)=>(i,(act n ρ ds).eval x)).toList=parts.toList.map fun p=>(p.1,ev ρ p.2):=by
 rw[Array.toList_map]
 apply Aap
 rintro⟨j,x⟩ hj
 have:=Bp (ρ:=ρ) (ds:=ds) (h ⟨j,x⟩ (by simpa using hj))
 simp[this]
def Uk(hf:Oz P f=true){es:Array MapEntry}(hb:W.heap[b]?=some (.map es c))(t:TypeId):
  (callFunc f #[.iface t (.map (some b))]).run P W=.ok (.value (.iface t (.map (some W.heap.size)))) (W.alloc (.map es c)):=by
 unfold Oz at hf
 split at hf
 ·rename_i fn hfn
  simp only[Zz,beq_iff_eq] at hf
  obtain⟨⟨hb',hn⟩,ho⟩:=hf
  have hne:(fn.name== "runtime.NumGoroutine")=false:=by rw[hn];decide
  have hfind:Extern.findNext fn=none∧Extern.find fn=some Extern.MapsClone.clone:=by
   unfold Extern.findNext Extern.find;rw[hn,ho];exact⟨by kernel_rfl,by kernel_rfl⟩
  rw[run_callFunc_extern hfn hne hb' hfind.1 hfind.2]
  have:(Extern.MapsClone.clone #[.iface t (.map (some b))]).run P W=.ok (.iface t (.map (some W.heap.size))) (W.alloc (.map es c)):=by
   change Sem.run P (do
    let .map entries clock←getObj b|stuck "maps.clone: a map expected"
    pure (Value.iface t (.map (some (←newObj (.map entries clock)))))) W=_
   simp only[Sem.run_bind,Em hb,run_newObj_alloc,Result.andThen,Sem.run_pure]
  rw[this];rfl
 ·cases hf
def WS{e'}(ty:TypeId)(ht:P.underlying t=some (.slice e))(_:P.underlying t'=some (.slice e'))(hi:P.info? e=some i)
  {sa xa}{n c m xc:Nat}{news}(hl:news.length=min m n*i.size) {W}(hx0:xa=none→news=[])
  (hx:∀a',xa=some a'→∀j u,news[j]?=some u→W.cell? (a'.add j)=some u):
  (Builtin.copy_ #[t,t'] ty #[.slice sa n c,.slice xa m xc]).run P W=
   (match sa with
    |some a=>(storeCells a news).run P W
    |none=>.ok () W).andThen fun _ W'=>.ok (vZ ((min m n:Nat):Int)) W':=by
 have hf:(Builtin.firstCells i.size (min m n) (.slice xa m xc)).run P W=.ok news.toArray W:=by
  cases xa with
  |none=>rw[hx0 rfl];simp[Builtin.firstCells]
  |some a=>
   exact run_firstCells_some W i.size (min m n) a m xc news hl (fun j v hj=>hx _ rfl j v hj)
 have hf':(Builtin.firstCells i.size (Nat.min m n) (.slice xa m xc)).run P W=.ok news.toArray W:=hf
 cases sa<;>simp[Builtin.copy_,run_underlying ht,B3 hi,Builtin.lenOf,hf',goInt,Sem.run_bind,Result.andThen]<;>rfl
def LZ{ty k}(ht:P.underlying t=some (.slice e))(ht':P.underlying t'=some (.int k))(hi:P.info? e=some i)
  (hz:i.zero=some z) (hs0':i.size≠0) (hb:i.bytes≠0)
  {sa}{n c m:Nat}{olds}(hlo:olds.length=n*i.size) {W}(hs0:sa=none→olds=[])
  (hs:∀a',sa=some a'→∀j u,olds[j]?=some u→W.cell? (a'.add j)=some u) (hfit:c<n+m) (hmax:n+m≤maxLen) (hbytes:(n+m)*i.bytes≤2 ^ 47):
  ∃c',n+m≤c'∧c'≤maxLen∧(Builtin.append_ #[t,t'] ty #[.slice sa n c,vZ ((m:Nat):Int)]).run P W=
   .ok (.slice (some ⟨W.heap.size,0,none⟩) (n+m) c') (W.drew.alloc (.cells (olds.toArray++Builtin.zeroCells z.cells m++Builtin.zeroCells z.cells (c' - (n+m))) e)):=by
 have hfo:∀W',(∀a,W'.cell? a=W.cell? a)→(Builtin.firstCells i.size n (.slice sa n c)).run P W'=.ok olds.toArray W':=by
  intro W' hW;cases sa with
  |none=>rw[hs0 rfl];simp[Builtin.firstCells]
  |some a=>
   exact run_firstCells_some W' i.size n a n c olds hlo (fun j v hj=>by rw[hW];exact hs _ rfl j v hj)
 refine⟨grownCap W (n+m) c e,grownCap_ge W _ _ _,grownCap_le_maxLen W _ _ _ hmax,?_⟩
 have hn:¬(n+m≤c):=by omega
 have h48:=growslice_fits (need:=n+m) (old:=c) (bytes:=i.bytes) hfit (by simpa using hbytes)
 have h48':¬(281474976710656<Builtin.nextslicecap (n+m) c*i.bytes):=by omega
 have hfod:=hfo W.drew (fun a=>by simp)
 have hmx:maxLen=9223372036854775807:=rfl
 have hw:IntKind.i64.wrap (m:Int)=m:=by rw[IntKind.wrap_i64];omega
 have hneg:¬((m:Int)<0):=by omega
 have h63':¬(9223372036854775807<((n+m:Nat):Int)):=by omega
 have h63'':¬(9223372036854775807<(n:Int)+(m:Int)):=by omega
 have hmb:m*i.bytes≤(n+m)*i.bytes:=Nat.mul_le_mul_right _ (by omega)
 have h48i:¬(281474976710656<(m:Int)*(i.bytes:Int)):=by
  rw[←Aam];omega
 by_cases hm0:m=0
 ·subst hm0
  have hzc:Builtin.zeroCells z.cells 0= #[]:=by simp[Builtin.zeroCells]
  have h48c:¬(281474976710656<Builtin.nextslicecap n c*i.bytes):=by simpa using h48'
  have hnc:¬(n≤c):=by omega
  have h63c:¬(9223372036854775807<(n:Int)):=by omega
  have hw0:IntKind.i64.wrap 0=0:=by decide
  simp[Builtin.append_,run_underlying ht,run_underlying ht',B3 hi,Fe hi,DY hi hz,asInt,asIntOf,hw0,hnc,hb,h63c,h48c,Question.forced,hfod,newRow,grownCap,hzc]
 ·have hns:¬(m*i.size=0):=Nat.mul_ne_zero hm0 (by omega)
  simp[Builtin.append_,run_underlying ht,run_underlying ht',B3 hi,Fe hi,DY hi hz,asInt,asIntOf,hw,hn,hneg,hns,hb,h63'',h48',h48i,Question.forced,hfod,newRow,grownCap]
def Nj(ty:TypeId)(ht:P.underlying t=some (.slice e))(hi:P.info? e=some i)(hz:i.zero=some z){a}:
  (Builtin.clear_ #[t] ty #[.slice a n c]).run P W=
   (match a with
    |some a=>if n=0 then(Result.ok () W:Result Unit) else(storeCells a (Builtin.zeroCells z.cells n).toList).run P W
    |none=>.ok () W).andThen fun _ W'=>.ok (.tuple #[]) W':=by
 cases a with
 |none=>simp[Builtin.clear_,run_underlying ht,Result.andThen]
 |some a=>
  cases n with
  |zero=>simp[Builtin.clear_,run_underlying ht,Result.andThen]
  |succ n=>simp[Builtin.clear_,run_underlying ht,DY hi hz,Result.andThen]
def XV(hf:S3 P f=true){a a'}{n' c':Nat}
  (h:n=0∨n'=0∨∃(b o:Nat) (T:TypeId) (l:List Value) (b' o':Nat) (T':TypeId) (l':List Value),a=some ⟨b,o,none⟩∧a'=some ⟨b',o',none⟩∧b≠b'∧W.heap[b]?=some (.cells (Acx l) T (0,0))∧W.heap[b']?=some (.cells (Acx l') T' (0,0))∧l'≠[]):
  (callFunc f #[.slice a n c,.slice a' n' c']).run P W=.ok (.value (.bool false)) W:=by
 unfold S3 at hf
 split at hf
 ·rename_i fn hfn
  simp only[Zz,beq_iff_eq,Aad] at hf
  obtain⟨⟨⟨hb',hn⟩,ho⟩,hp⟩:=hf
  split at hp<;>try cases hp
  rename_i t hpt
  split at hp<;>try cases hp
  rename_i e hu
  obtain⟨i,hi⟩:=Option.isSome_iff_exists.1 hp
  have hne:(fn.name== "runtime.NumGoroutine")=false:=by rcases hn with hn|hn<;>(rw[hn];decide)
  have hfind:Extern.findNext fn=none∧Extern.find fn=some (Extern.SlicesOverlaps.overlaps fn.params fn.resultTypes):=by
   unfold Extern.findNext Extern.find;rcases hn with hn|hn<;>(rw[hn,ho];exact⟨by kernel_rfl,by kernel_rfl⟩)
  rw[run_callFunc_extern hfn hne hb' hfind.1 hfind.2]
  have:(Extern.SlicesOverlaps.overlaps fn.params fn.resultTypes #[.slice a n c,.slice a' n' c']).run P W=.ok (.bool false) W:=by
   change Sem.run P (α:=Value) (do
    let some t:=fn.params[0]?|stuck "slices.overlaps: no parameter types"
    let .slice elem←underlying t|stuck "slices.overlaps: slice type expected"
    let size←sizeOf elem
    match a,a' with
    |some a,some b=>
     if n=0∨n'=0∨size=0 then pure (Value.bool false)
     else if a.block !=b.block &&(←frozen a)&&(←frozen b) then unsupported .addressObserved
     else do
      if a.block !=b.block then do
       noView a;noView b
       if←mayBeOne a b then return Value.bool ((←choose (.extern "sameAddr.stringBytes" 2))==1)
      pure (Value.bool (a.block==b.block && a.off<b.off+n'*size && b.off<a.off+n*size))
    |_,_=>pure (Value.bool false)) W=_
   by_cases h0:n=0∨n'=0∨i.size=0
   ·cases a<;>cases a'<;>simp[hpt,run_underlying hu,B3 hi,h0]
   ·obtain⟨b,o,T,l,b',o',T',l',rfl,rfl,hbb,hw,hw',hl'⟩:∃(b o:Nat) (T:TypeId) (l:List Value) (b' o':Nat) (T':TypeId) (l':List Value),a=some ⟨b,o,none⟩∧a'=some ⟨b',o',none⟩∧b≠b'∧W.heap[b]?=some (.cells (Acx l) T (0,0))∧W.heap[b']?=some (.cells (Acx l') T' (0,0))∧l'≠[]:=by
     rcases h with h|h|h
     ·exact absurd (.inl h) h0
     ·exact absurd (.inr (.inl h)) h0
     ·exact h
    have hnb:(b !=b')=true:=by simpa using hbb
    have hnb':(b==b')=false:=by simpa using hbb
    have s1:W.shape? b=some (T,l.length):=by simp[World.shape?,hw]
    have s2:W.shape? b'=some (T',l'.length):=by simp[World.shape?,hw']
    have f1:∀o,W.frozen? {block:=b,off:=o}=false:=by intro o;simp[World.frozen?,hw]
    have f2:∀o,W.frozen? {block:=b',off:=o}=false:=by intro o;simp[World.frozen?,hw']
    obtain⟨k,hk⟩:∃k,l'.length=k+1:=⟨l'.length - 1,by have:=Aan.2 hl';omega⟩
    rw[hk] at s2;simp[hpt,run_underlying hu,B3 hi,h0,hnb,hnb',frozen,noView,viewAt,mayBeOne,stringish,shape,Sem.run,s1,s2,f1,f2]
  rw[this];rfl
 ·cases hf
def WC{z}(h:z.all (·.oneCell')=true)(h0:z≠[])(n:Nat):((BC z n).all (·.oneCell'))=true:=by
 rw[List.all_eq_true] at h⊢;intro x hx;simp only[BC,List.mem_map,List.mem_range] at hx;obtain⟨j, -,rfl⟩:=hx;have hl:0<z.length:=Aan.2 h0;have hj:=Nat.mod_lt j hl;rw[List.getD_eq_getElem?_getD,List.getElem?_eq_getElem hj];exact h _ (List.getElem_mem hj)
def VV(hd:Qb P o=some m)(hop:∀x∈o.op.operands,FC n x=true)
  {ρ d Lk L F}{K:Value→A0}{W}(hOk:Ok (d::(L++F)) W) (hl:∀k∈Lk,Sub k W)
  (h:mi ρ d Lk L K m) {Q nxt}
  (hK:∀v d' L' W',Ok (d'::(L'++F)) W'→Le d d'→B6 W W'→K v d' L'→nxt ((act n ρ ds).put o.dst v) W'):o.wp P (act n ρ ds) W nxt Q:=by
 have hlk:∀k∈Lk++L,Sub k W:=by
  intro k hk;rcases ZK.1 hk with hk|hk
  ·exact hl k hk
  ·exact hOk.2 k (by simp[hk])
 have own:∀{i b:Nat}{ob:Obj},L[i]?=some (sg b ob)→W.heap[b]?=some ob:=fun hi=>hlk _ (List.mem_append_right _ (List.mem_of_getElem? hi)) _ _ (CI _ _)
 obtain⟨dst,op,type,pos,after,guard⟩:=o
 unfold Qb at hd
 split at hd
 ·rename_i t heq
  simp only at heq;subst heq
  split at hd<;>try cases hd
  refine Bs (W':=W.alloc (.map #[] 0)) (v:=.map (some W.heap.size)) rfl ?_
  exact hK _ d _ _ (hOk.push _) (Le.refl d) (En _ _) (h W.heap.size)
 ·rename_i t x k ok heq
  simp only at heq;subst heq
  split at hd<;>try cases hd
  rename_i kt e hu
  split at hd<;>try cases hd
  rename_i kd i hk hi
  simp only[Aaa] at hd
  obtain⟨z,hz,rfl⟩:=hd
  obtain⟨es,r,h1,h2,h3⟩:=h
  refine Bs (W':=W) (v:=lkV z ok r) ?_ (hK _ d L W hOk (Le.refl d) (B6.refl W) h3)
  simp only[execOp,Bp (hop x (by simp[Op.operands])),Bp (hop k (by simp[Op.operands])),Sem.run_bind,SX hu hk hi hz h1 hOk.head hlk h2,Result.andThen,Sem.run_pure]
 ·rename_i t x k v heq
  simp only at heq;subst heq
  split at hd<;>try cases hd
  rename_i kt e hu
  simp only[Aaa] at hd
  obtain⟨kd,hk,rfl⟩:=hd
  obtain⟨i,b,es,c,r,h1,h2,h3,h4⟩:=h
  refine Ji (W':={W with heap:=W.heap.setIfInBounds b (upO es c (ev ρ k) (ev ρ v) r)}) ?_ (hK _ d _ _ (hOk.setAt h1) (Le.refl d) (HN _ _ _) h4)
  simp only[execOp,Bp (hop x (by simp[Op.operands])),Bp (hop k (by simp[Op.operands])),Bp (hop v (by simp[Op.operands])),h2,Sem.run_bind,Nq hu hk (own h1) h3,Result.andThen,Sem.run_pure]
 ·rename_i t x k v heq
  simp only at heq;subst heq
  split at hd<;>try cases hd
  rename_i kt e hu
  simp only[Aaa] at hd
  obtain⟨kd,hk,rfl⟩:=hd
  obtain⟨i,b,es,c,r,h1,h2,h3,h4⟩:=h
  refine Ji (W':={W with heap:=W.heap.setIfInBounds b (upO es c (ev ρ k) (ev ρ v) r)}) ?_ (hK _ d _ _ (hOk.setAt h1) (Le.refl d) (HN _ _ _) h4)
  simp only[execOp,Bp (hop x (by simp[Op.operands])),Bp (hop k (by simp[Op.operands])),Bp (hop v (by simp[Op.operands])),h2,Sem.run_bind,Nq hu hk (own h1) h3,Result.andThen,Sem.run_pure]
 ·rename_i t x heq
  simp only at heq;subst heq
  split at hd<;>try cases hd
  rename_i kt e hu
  obtain⟨b,es,c,h1,h2,h3⟩:=h
  refine Bs (W':=W.alloc (.mapIter (some b) c #[] c)) (v:=.pointer (some ⟨W.heap.size,0,none⟩)) ?_ (hK _ d _ _ (hOk.push _) (Le.refl d) (En _ _) (h3 W.heap.size))
  simp only[execOp,Bp (hop x (by simp[Op.operands])),h1,Sem.run_bind,Ve hu (h2.at hOk.head hlk),Result.andThen,Sem.run_pure]
 ·rename_i x isS heq
  simp only at heq;subst heq
  cases isS with
  |true=>cases hd
  |false=>
   simp only[ZX,if_false] at hd
   cases hd
   obtain⟨i,q,b,since,seen,last,es,c,h1,h2,h3,h4,h5,h6⟩:=h
   obtain⟨W1,hW1,hr⟩:=Wi (P:=P) type (own h1) (h3.at hOk.head hlk) h4
   have hOk1:Ok (d::(L++F)) W1:=by rcases hW1 with rfl|rfl;exact hOk;exact hOk.drew
   have hk1:B6 W W1:=by rcases hW1 with rfl|rfl;exact B6.refl _;exact⟨rfl,rfl,rfl,ZL _⟩
   rcases hr with ⟨e,he,hb,hr⟩|⟨ha,hr⟩
   ·refine Bs (W':={W1 with heap:=W1.heap.setIfInBounds q (.mapIter (some b) since (seen.push e.born) c)}) (v:=.tuple #[.bool true,e.key,e.val]) ?_
     (hK _ d _ _ (hOk1.setAt h1) (Le.refl d) (hk1.trans (HN _ _ _)) (h5 e he hb))
    simp only[execOp,Bp (hop x (by simp[Op.operands])),h2,Sem.run_bind,hr,Result.andThen,Sem.run_pure]
   ·refine Bs (W':=W1) (v:=.tuple #[.bool false]) ?_ (hK _ d _ _ hOk1 (Le.refl d) hk1 (h6 ha))
    simp only[execOp,Bp (hop x (by simp[Op.operands])),h2,Sem.run_bind,hr,Result.andThen,Sem.run_pure]
 ·rename_i x heq
  simp only at heq;subst heq
  cases hd
  obtain⟨q,b,since,seen,last,j,es,e,h1,h2,h3,h4,h5,h6⟩:=h
  refine Bs (W':=W) (v:=.tuple #[e.key,e.val]) ?_ (hK _ d L W hOk (Le.refl d) (B6.refl W) h6)
  simp only[execOp,Bp (hop x (by simp[Op.operands])),h1,Sem.run_bind,Ua (h2.at hOk.head hlk) h3 (h4.at hOk.head hlk) h5,Result.andThen,Sem.run_pure]
 ·rename_i t x heq
  simp only at heq;subst heq
  split at hd<;>try cases hd
  rename_i dir e hu
  rw[Aaa] at hd
  obtain⟨ti,hi,rfl⟩:=hd
  obtain⟨k,n',h1,h2,h3,h4⟩:=h
  refine Bs (W':=W.alloc (.chan n' #[] false 0 0 false)) (v:=.chan (some W.heap.size)) ?_ (hK _ d _ _ (hOk.push _) (Le.refl d) (En _ _) (h4 W.heap.size))
  have hlim:¬((n':Int)<0∨(n':Int)>IntKind.i64.max∨ti.bytes*(n':Int)>2 ^ 48 - 112):=by
   have e1:((ti.bytes*n':Nat):Int)=ti.bytes*(n':Int):=by simp
   have e2:IntKind.i64.max=9223372036854775807:=rfl;rw[←e1,e2];omega
  have hlim':¬((n':Int)<0∨9223372036854775807<(n':Int)∨281474976710544<(ti.bytes:Int)*(n':Int)):=by
   have e1:((ti.bytes*n':Nat):Int)=ti.bytes*(n':Int):=by simp
   rw[←e1];omega
  simp[execOp,Bp (hop x (by simp[Op.operands])),h1,Instr.makeChan,asInt,asIntOf,run_underlying hu,Fe hi,hlim',Sem.run_bind,Result.andThen]
 ·rename_i f x ats heq
  simp only at heq;subst heq
  split at hd<;>try cases hd
  rename_i hcl
  obtain⟨t,b,es,c,h1,h2,h3⟩:=h
  refine Bs (W':=W.alloc (.map es c)) (v:=.iface t (.map (some W.heap.size))) ?_ (hK _ d _ _ (hOk.push _) (Le.refl d) (En _ _) (h3 W.heap.size))
  have ha:=Jr (ρ:=ρ) (ds:=ds) #[x] (fun y hy=>hop y (by simp at hy;simp[Op.operands,Call.operands,hy]))
  have hfv:(act n ρ ds).eval (.func f)=.func (.func f) #[] #[]:=rfl
  have:=Uk (P:=P) hcl (h2.at hOk.head hlk) t
  simp only[execOp,resolve,Sem.run_bind,hfv,Deferred.ofValue,Sem.run_pure,Result.andThen,invoke,ha]
  simpa [h1] using this
 ·rename_i f x y ats heq
  simp only at heq;subst heq
  split at hd<;>try cases hd
  rename_i hov
  obtain⟨a,n',c,a',n'',c',h1,h2,h3,h4⟩:=h
  refine Bs (W':=W) (v:=.bool false) ?_ (hK _ d L W hOk (Le.refl d) (B6.refl W) h3)
  have ha:=Jr (ρ:=ρ) (ds:=ds) #[x,y] (fun z hz=>hop z (by simp at hz;simp[Op.operands,Call.operands,hz]))
  have hfv:(act n ρ ds).eval (.func f)=.func (.func f) #[] #[]:=rfl
  have:=XV (P:=P) hov (W:=W) (a:=a) (a':=a') (n:=n') (n':=n'') (c:=c) (c':=c') (by
   rcases h4 with h4|h4|⟨i,j,b,o,T,l,b',o',T',l',e1,e2,hij,hi,hj,hl'⟩
   ·exact .inl h4
   ·exact .inr (.inl h4)
   ·refine .inr (.inr ⟨b,o,T,l,b',o',T',l',e1,e2,fun e=>?_,own hi,own hj,hl'⟩);subst e;have hp:(L++F).Pairwise DG:=(Aah.1 hOk.1).2;have hL:L.Pairwise DG:=hp.sublist (List.sublist_append_left _ _);have hil:=(ZO.1 hi)
    have hjl:=(ZO.1 hj)
    obtain⟨hi1,hi2⟩:=hil;obtain⟨hj1,hj2⟩:=hjl;have hpw:=List.pairwise_iff_getElem.1 hL;rcases Nat.lt_or_gt_of_ne hij with hlt|hlt
    ·have:=hpw i j hi1 hj1 hlt;rw[hi2,hj2] at this;exact this b _ _ (CI _ _) (CI _ _)
    ·have:=hpw j i hj1 hi1 hlt;rw[hi2,hj2] at this;exact this b _ _ (CI _ _) (CI _ _))
  simp only[execOp,resolve,Sem.run_bind,hfv,Deferred.ofValue,Sem.run_pure,Result.andThen,invoke,ha]
  simpa [h1,h2] using this
 ·rename_i s x t t' heq
  simp only at heq;subst heq
  split at hd<;>try cases hd
  rename_i e k hu hu'
  split at hd<;>try cases hd
  rename_i i hi
  split at hd<;>try cases hd
  rename_i z hz
  split at hd<;>try cases hd
  rename_i hsz
  simp only[not_or,Decidable.not_not] at hsz
  obtain⟨hz0,hb0,hzs⟩:=hsz
  obtain⟨sa,n',c,m,olds,e1,e2,hlt,hmax,hby,ho1,ho2,ho3,hK2⟩:=h
  have hs:=Bp (ρ:=ρ) (ds:=ds) (hop s (by simp[Op.operands,Call.operands]))
  have hx:=Bp (ρ:=ρ) (ds:=ds) (hop x (by simp[Op.operands,Call.operands]))
  have hoc:∀a',sa=some a'→∀j u,olds[j]?=some u→W.cell? (a'.add j)=some u:=fun a' ha j u hj=>(ho3 a' ha j u hj).cell hOk.head hlk
  obtain⟨c',hc1,hc2,hr⟩:=LZ (ty:=type) hu hu' hi hz hz0 hb0 ho1 ho2 hoc hlt hmax hby
  have hexec:∀(r:Result Value),(Builtin.append_ #[t,t'] type #[.slice sa n' c,vZ ((m:Nat):Int)]).run P W=r→
    (execOp (act n ρ ds).eval ⟨dst,.call ⟨.builtin .append, #[s,x], #[t,t']⟩,type,pos,after,guard⟩).run P W=r.andThen fun v W'=>.ok (.value v) W':=by
   intro r hr
   simp[execOp,resolve,invoke,builtin,hs,hx,e1,e2,hr]
  refine Bs (hexec _ hr) ?_
  have hzz:Builtin.zeroCells z.cells m++Builtin.zeroCells z.cells (c' - (n'+m))=(BC z.cells.toList ((c' - n')*i.size)).toArray:=by
   rw[Ge z.cells m i.size hzs (by omega),Ge z.cells _ i.size hzs (by omega)];have hzl:z.cells.toList.length=i.size:=by simpa using hzs
   rw[List.append_toArray];congr 1;rw[show(c' - n')*i.size=m*i.size+(c' - (n'+m))*i.size by rw[←Aai];congr 1;omega];unfold BC;rw[List.range_add,List.map_append,List.map_map,hzl];congr 1;apply Aap;intro q _;simp only[Function.comp_apply];rw[Nat.add_comm,Nat.add_mul_mod_self_right]
  rw[Array.append_assoc,hzz]
  refine hK _ d _ _ ?_ (Le.refl d) ?_ (hK2 W.heap.size e c' hc1 hc2)
  ·have e':(olds++BC z.cells.toList ((c' - n')*i.size)).toArray=olds.toArray++(BC z.cells.toList ((c' - n')*i.size)).toArray:=by simp
   unfold bx
   rw[e']
   exact(hOk.drew).push _
  ·exact⟨rfl,rfl,rfl,by show W.heap.size≤(W.heap.push _).size;simp⟩
 ·rename_i x y t t' heq
  simp only at heq;subst heq
  split at hd<;>try cases hd
  rename_i e e' hu hu'
  rw[Aaa] at hd
  obtain⟨ti,hi,rfl⟩:=hd
  obtain⟨sa,n',c,xa,m',xc,news,e1,e2,hl1,hone,hx0,hxc,hfin⟩:=h
  have hx:=Bp (ρ:=ρ) (ds:=ds) (hop x (by simp[Op.operands,Call.operands]))
  have hy:=Bp (ρ:=ρ) (ds:=ds) (hop y (by simp[Op.operands,Call.operands]))
  have hxc':∀a',xa=some a'→∀j u,news[j]?=some u→W.cell? (a'.add j)=some u:=fun a' ha j u hj=>(hxc a' ha j u hj).cell hOk.head hlk
  have hr:=WS (P:=P) type hu hu' hi (sa:=sa) (c:=c) (xc:=xc) hl1 hx0 hxc'
  have hexec:∀(r:Result Value),(Builtin.copy_ #[t,t'] type #[.slice sa n' c,.slice xa m' xc]).run P W=r→
    (execOp (act n ρ ds).eval ⟨dst,.call ⟨.builtin .copy, #[x,y], #[t,t']⟩,type,pos,after,guard⟩).run P W=r.andThen fun v W'=>.ok (.value v) W':=by
   intro r hr
   simp[execOp,resolve,invoke,builtin,hx,hy,e1,e2,hr]
  rcases hfin with ⟨rfl,hk⟩|⟨j,b,o,T,l,rfl,hj,hol,hk⟩
  ·have h0:(match sa with|some a=>(storeCells a []).run P W|none=>.ok () W)=.ok () W:=by
    cases sa with
    |none=>rfl
    |some a=>simp[storeCells]
   rw[h0] at hr
   simp only[Result.andThen] at hr
   exact Bs (hexec _ hr) (hK _ d L W hOk (Le.refl d) (B6.refl W) hk)
  ·obtain⟨W',hst,ho,hkp⟩:=hOk.Ll hj (o:=o) (vs:=news) hol hone P
   simp only[hst,Result.andThen] at hr
   exact Bs (hexec _ hr) (hK _ d _ W' ho (Le.refl d) hkp hk)
 ·rename_i x t heq
  simp only at heq;subst heq
  split at hd<;>try cases hd
  rename_i kt e hu
  obtain⟨es,h1,h2⟩:=h
  refine Bs (W':=W) (v:=vZ es.length) ?_ (hK _ d L W hOk (Le.refl d) (B6.refl W) h2)
  simp[execOp,resolve,invoke,builtin,Bp (hop x (by simp[Op.operands,Call.operands])),Wf hu h1 hOk.head hlk,Result.andThen]
 ·rename_i x k t ts heq
  simp only at heq;subst heq
  split at hd<;>try cases hd
  rename_i kt e hu
  simp only[Aaa] at hd
  obtain⟨kd,hk,rfl⟩:=hd
  obtain⟨i,b,es,c,r,h1,h2,h3,h4⟩:=h
  refine Bs (W':={W with heap:=W.heap.setIfInBounds b (QW es c r)}) (v:=.tuple #[]) ?_ (hK _ d _ _ (hOk.setAt h1) (Le.refl d) (HN _ _ _) h4)
  simp[execOp,resolve,invoke,builtin,Bp (hop x (by simp[Op.operands,Call.operands])),Bp (hop k (by simp[Op.operands,Call.operands])),h2,TN hu hk (own h1) h3,Result.andThen]
 ·rename_i x t heq
  simp only at heq;subst heq
  split at hd<;>try cases hd
  ·rename_i kt e hu
   obtain⟨i,b,es,c,h1,h2,h4⟩:=h
   refine Bs (W':={W with heap:=W.heap.setIfInBounds b (.map #[] c)}) (v:=.tuple #[]) ?_ (hK _ d _ _ (hOk.setAt h1) (Le.refl d) (HN _ _ _) h4)
   simp[execOp,resolve,invoke,builtin,Bp (hop x (by simp[Op.operands,Call.operands])),h2,Vf hu (own h1),Result.andThen]
  ·rename_i e hu
   split at hd<;>try cases hd
   rename_i i hi
   split at hd<;>try cases hd
   rename_i z hz
   split at hd<;>try cases hd
   rename_i hsz
   simp only[not_or,Decidable.not_not] at hsz
   obtain⟨hz0,hzs,hone⟩:=hsz
   obtain⟨a,n',c,e1,hfin⟩:=h
   have hx:=Bp (ρ:=ρ) (ds:=ds) (hop x (by simp[Op.operands,Call.operands]))
   have hr:=Nj (P:=P) type hu hi hz (a:=a) (n:=n') (c:=c) (W:=W)
   have hexec:∀(r:Result Value),(Builtin.clear_ #[t] type #[.slice a n' c]).run P W=r→
     (execOp (act n ρ ds).eval ⟨dst,.call ⟨.builtin .clear, #[x], #[t]⟩,type,pos,after,guard⟩).run P W=r.andThen fun v W'=>.ok (.value v) W':=by
    intro r hr
    simp[execOp,resolve,invoke,builtin,hx,e1,hr]
   rcases hfin with ⟨rfl,hk⟩|⟨j,b,o,T,l,rfl,hj,hol,hk⟩
   ·have h0:(match a with|some a=>if 0=0 then(Result.ok () W:Result Unit) else(storeCells a (Builtin.zeroCells z.cells 0).toList).run P W|none=>.ok () W)=.ok () W:=by
     cases a<;>rfl
    rw[h0] at hr
    simp only[Result.andThen] at hr
    exact Bs (hexec _ hr) (hK _ d L W hOk (Le.refl d) (B6.refl W) hk)
   ·have hzne:z.cells.toList≠[]:=by
     intro q;have:z.cells.size=0:=by simpa using congrArg List.length q
     omega
    by_cases hn0:n'=0
    ·subst hn0
     simp only[if_true,Result.andThen] at hr
     have hp:patch l o (BC z.cells.toList (0*i.size))=l:=by simp[patch,BC]
     rw[hp,show L.set j (bx b T l)=L from by
      obtain⟨h1,h2⟩:=ZO.1 hj;rw[←h2];exact List.set_getElem_self h1] at hk
     exact Bs (hexec _ hr) (hK _ d L W hOk (Le.refl d) (B6.refl W) hk)
    ·have hlen:(BC z.cells.toList (n'*i.size)).length=n'*i.size:=by simp[BC]
     obtain⟨W',hst,ho,hkp⟩:=hOk.Ll hj (o:=o) (vs:=BC z.cells.toList (n'*i.size)) (by rw[hlen];exact hol) (WC (by simpa using hone) hzne _) P
     simp only[if_neg hn0,Ge z.cells n' i.size hzs (by omega)] at hr
     rw[hst] at hr
     simp only[Result.andThen] at hr
     exact Bs (hexec _ hr) (hK _ d _ W' ho (Le.refl d) hkp hk)
 ·rename_i s t x heq
  simp only at heq;subst heq
  split at hd<;>try cases hd
  rename_i e hs ht
  split at hd<;>try cases hd
  rename_i he
  obtain⟨l,hx,hlen,hk⟩:=h
  have hr:=Lib.run_convert_string_bytes (P:=P) W s t e ⟨l.toArray⟩ hs ht he
  have hsz:(⟨l.toArray⟩:ByteArray).size=l.length:=by simp[ByteArray.size]
  rw[hsz] at hr
  have hcl:l.length≤maxLen:=by simp only[maxLen];omega
  refine Bs (W':=Lib.bytesWorld W e ⟨l.toArray⟩) (v:=.slice (some ⟨W.heap.size,0,none⟩) l.length (grownCap W l.length 0 e)) ?_ ?_
  ·simp only[execOp,Sem.run_bind,Bp (hop x (by simp[Op.operands])),hx,Al,Result.andThen,hr,Sem.run_pure]
  ·have hcells:Lib.bytesCells W e ⟨l.toArray⟩=(l.map Bz++ZI (grownCap W l.length 0 e - l.length) (Value.int .u8 0)).toArray:=by
    unfold Lib.bytesCells;rw[hsz];apply Array.ext';simp[Bz]
   refine hK _ d _ _ ?_ (Le.refl d) ?_ (hk W.heap.size e ((Lib.bytesCells W e ⟨l.toArray⟩).size,(Lib.bytesCells W e ⟨l.toArray⟩).size+1) (grownCap W l.length 0 e) (grownCap_ge W _ _ _) (grownCap_le_maxLen W _ _ _ hcl))
   ·rw[←hcells]
    have h1:=(hOk.drew).push (.cells (Lib.bytesCells W e ⟨l.toArray⟩) e)
    have h2:Ok (sg W.heap.size (.cells (Lib.bytesCells W e ⟨l.toArray⟩) e)::d::(L++F)) (World.alloc {W with drawn:=W.drawn+1} (.cells (Lib.bytesCells W e ⟨l.toArray⟩) e)):=h1.perm (Z0 _ _ _)
    refine(h2.write (o':=.cells (Lib.bytesCells W e ⟨l.toArray⟩) e ((Lib.bytesCells W e ⟨l.toArray⟩).size,(Lib.bytesCells W e ⟨l.toArray⟩).size+1)) (Lib.bytesWorld W e ⟨l.toArray⟩) ?_).perm (Z0 _ _ _)
    apply Array.ext
    ·rw[Lib.bytesWorld_size]
     show _=((W.heap.push _).setIfInBounds _ _).size
     simp
    ·intro j j1 j2
     have hq:(Lib.bytesWorld W e ⟨l.toArray⟩).heap[j]?=((W.heap.push (.cells (Lib.bytesCells W e ⟨l.toArray⟩) e)).setIfInBounds W.heap.size (.cells (Lib.bytesCells W e ⟨l.toArray⟩) e ((Lib.bytesCells W e ⟨l.toArray⟩).size,(Lib.bytesCells W e ⟨l.toArray⟩).size+1)))[j]?:=by
      rw[Lib.bytesWorld_size] at j1;by_cases hj:j<W.heap.size
      ·rw[Lib.bytesWorld_at_old W e _ j hj,Array.getElem?_setIfInBounds,if_neg (by omega),Array.getElem?_push,if_neg (by omega)]
      ·have:j=W.heap.size:=by omega
       subst this;rw[Lib.bytesWorld_at_new,Array.getElem?_setIfInBounds,if_pos rfl,if_pos (by simp)]
     rw[Array.getElem?_eq_getElem j1] at hq
     have hj2:j<((W.heap.push (.cells (Lib.bytesCells W e ⟨l.toArray⟩) e)).setIfInBounds W.heap.size (.cells (Lib.bytesCells W e ⟨l.toArray⟩) e ((Lib.bytesCells W e ⟨l.toArray⟩).size,(Lib.bytesCells W e ⟨l.toArray⟩).size+1))).size:=j2
     rw[Array.getElem?_eq_getElem hj2] at hq
     exact Option.some.inj hq
   ·refine⟨rfl,rfl,rfl,?_⟩
    rw[Lib.bytesWorld_size];omega
 ·cases hd
def V2(hd:LV P o=some g)(hop:∀x∈o.op.operands,FC n x=true)
  {pan:List PanicEntry→A0}{ρ d Lk L F}{K:Value→A0}{W}(hOk:Ok (d::(L++F)) W) (hl:∀k∈Lk,Sub k W) (hB:∀B,Lk=B++L→∃F',F.Perm (B++F'))
  (h:gi P pan ρ d Lk L K g) {Q nxt}
  (hK:∀v d' L' W',Ok (d'::(L'++F)) W'→Le d d'→B6 W W'→K v d' L'→nxt ((act n ρ ds).put o.dst v) W')
  (hP:∀c d' L' W',Ok (d'::(L'++F)) W'→Le d d'→B6 W W'→pan c d' L'→Q (.panic c) (act n ρ ds) W'):o.wp P (act n ρ ds) W nxt Q:=by
 by_cases hq:g.quiet=true
 ·rw[DU hq] at h
  obtain⟨v,h1,h2⟩:=h
  exact Bs (GV hd hq h1 (fun x hx=>Bp (hop x hx)) (fun a v hc=>hc.cell hOk.head hl)) (hK v d L W hOk (Le.refl d) (B6.refl W) h2)
 ·replace hd:=Si hd
  rcases hd with ⟨m,hm,rfl⟩|hd
  ·exact VV hm hop hOk hl h hK
  obtain⟨dst,op,type,pos,after,guard⟩:=o
  have contract:∀(f:FuncId) (args:List Value) (L1 L2:List Ag) (R:Ending→Ag→List Ag→Prop),L=L1++L2→A8 P f args d L1 R→
    (∀e d' L',Le d d'→R e d' L'→match e with|.returned v=>K v d' (L'++L2)|.panicked c=>pan c d' (L'++L2)|.outgrown=>False)→
    (execOp (act n ρ ds).eval ⟨dst,op,type,pos,after,guard⟩).run P W=.ok (.enter f args.toArray) W→
    Oper.wp P ⟨dst,op,type,pos,after,guard⟩ (act n ρ ds) W nxt Q:=by
   intro f args L1 L2 R hL hc hR hr
   subst hL
   refine LJ hr ((hc.2 (L2++F) W (by rwa [←Zy])).mono ?_)
   rintro e W' ⟨d',L',h1,h2,h3,h4⟩
   have h5:=hR e d' L' h2 h4
   rw[←Zy] at h1
   cases e with
   |returned v=>exact hK v d' _ W' h1 h2 h3 h5
   |panicked c=>exact hP c d' _ W' h1 h2 h3 h5
   |outgrown=>exact h5.elim
  have borrowed:∀(f:FuncId) (args:List Value) (B:List Ag) (R:Ending→Ag→List Ag→Prop),Lk=B++L→A8 P f args d (B++L) R→
    (∀e d' L',Le d d'→R e d' L'→∃L'',L'=B++L''∧match e with|.returned v=>K v d' L''|.panicked c=>pan c d' L''|.outgrown=>False)→
    (execOp (act n ρ ds).eval ⟨dst,op,type,pos,after,guard⟩).run P W=.ok (.enter f args.toArray) W→
    Oper.wp P ⟨dst,op,type,pos,after,guard⟩ (act n ρ ds) W nxt Q:=by
   intro f args B R hL hc hR hr
   obtain⟨F',hF⟩:=hB B hL
   have p1:∀M:List Ag,(M++F).Perm ((B++M)++F'):=fun M=>by
    refine(List.Perm.append_left M hF).trans ?_;rw[←Zy];exact List.Perm.append_right F' List.perm_append_comm
   refine LJ hr ((hc.2 F' W (hOk.perm (Z1 d (p1 L)))).mono ?_)
   rintro e W' ⟨d',L',h1,h2,h3,h4⟩
   obtain⟨L'',rfl,h5⟩:=hR e d' L' h2 h4
   have h6:=h1.perm (Z1 d' (p1 L'').symm)
   cases e with
   |returned v=>exact hK v d' _ W' h6 h2 h3 h5
   |panicked c=>exact hP c d' _ W' h6 h2 h3 h5
   |outgrown=>exact h5.elim
  cases op<;>simp only[Lt] at hd
  case box t x=>
   simp at hd;subst hd
   refine Bs (W':=W.alloc (.cells (ev ρ x).cells t)) (v:=.pointer (some ⟨W.heap.size,0,none⟩)) ?_ ?_
   ·simp[execOp,Bp (hop x (by simp[Op.operands])),Instr.box,newVar,newRow]
   ·have:=h W.heap.size t
    refine hK _ d _ _ ?_ (Le.refl d) (En _ _) this
    have:=hOk.push (.cells (ev ρ x).cells t)
    simpa [bx] using this
  case alloc t=>
   split at hd<;>try cases hd
   rename_i i hi
   simp at hd
   obtain⟨z,hz,rfl⟩:=hd
   refine Bs (W':=W.alloc (.cells z.cells t)) (v:=.pointer (some ⟨W.heap.size,0,none⟩)) ?_ ?_
   ·simp[execOp,Instr.alloc,DY hi hz,newVar,newRow]
   ·refine hK _ d _ _ ?_ (Le.refl d) (En _ _) (h W.heap.size t)
    have:=hOk.push (.cells z.cells t)
    simpa [bx] using this
  case store t a x=>
   split at hd<;>try cases hd
   rename_i i hi
   obtain⟨j,b,off,T,l,h1,h2,h3,h4,h5,h6⟩:=h
   obtain⟨W',hr,ho,hk⟩:=hOk.Ll h1 (o:=off) (vs:=(ev ρ x).cells.toList) (by simp[h3];exact h4) h5 P
   refine Ji (W':=W') ?_ (hK _ d _ W' ho (Le.refl d) hk h6)
   simp[execOp,Bp (hop x (by simp[Op.operands])),Bp (hop a (by simp[Op.operands])),h2,Instr.storeAt,Instr.sureAddr,Ro hi h3,hr]
  case buildSlice t m parts=>
   split at hd<;>try cases hd
   rename_i e hu
   split at hd<;>try cases hd
   rename_i i hi
   split at hd<;>try cases hd
   rename_i z hz
   split at hd<;>try cases hd
   rename_i hzs
   obtain⟨h1,cs,h2,h3⟩:=h
   have hp:=SZ (ρ:=ρ) (ds:=ds) parts (fun p hp=>hop p.2 (by simp[Op.operands];exact⟨p.1,by simpa using hp⟩))
   refine Bs (W':=W.alloc (.cells cs e)) (v:=.slice (some ⟨W.heap.size,0,none⟩) m m) ?_ ?_
   ·have hsz:¬(m*i.size>2 ^ 24):=by omega
    by_cases h0:m*i.size=0
    ·have hzz:((Array.range (m*i.size)).map ((#[]:Array Value)[·% (#[]:Array Value).size]!))=(BC z.cells.toList (m*i.size)).toArray:=by rw[h0];simp[BC]
     simp only[execOp,Instr.buildSlice,Sem.run_bind,run_underlying hu,B3 hi,Result.andThen,if_neg hsz,if_pos h0,Sem.run_pure,hzz,hp,h2,newRow,run_newObj]
     rfl
    ·have hzz:((Array.range (m*i.size)).map (z.cells[·% z.cells.size]!))=(BC z.cells.toList (m*i.size)).toArray:=
      Ob z.cells _ (fun _=>by rw[hzs];exact Nat.pos_of_ne_zero (fun e=>h0 (by rw[e,Nat.mul_zero])))
     simp only[execOp,Instr.buildSlice,Sem.run_bind,run_underlying hu,B3 hi,Result.andThen,if_neg hsz,if_neg h0,DY hi hz,Sem.run_pure,hzz,hp,h2,newRow,run_newObj]
     rfl
   ·refine hK _ d _ _ ?_ (Le.refl d) (En _ _) (h3 W.heap.size e)
    have:=hOk.push (.cells cs e)
    simpa [bx] using this
  case makeSlice t a b=>
   split at hd<;>try cases hd
   rename_i e hu
   split at hd<;>try cases hd
   rename_i i hi
   split at hd<;>try cases hd
   rename_i z hz
   split at hd<;>try cases hd
   rename_i hzs
   obtain⟨k,k',m,c,h1,h2,h3,h4,h5,h6⟩:=h
   refine Bs (W':=W.alloc (.cells (BC z.cells.toList (c*i.size)).toArray e)) (v:=.slice (some ⟨W.heap.size,0,none⟩) m c) ?_ ?_
   ·have hE1:=Bp (ρ:=ρ) (ds:=ds) (hop a (by simp[Op.operands]))
    have hE2:=Bp (ρ:=ρ) (ds:=ds) (hop b (by simp[Op.operands]))
    have hc63:(c:Int)≤9223372036854775807:=by simp only[maxLen] at h4;omega
    have w1:IntKind.i64.wrap (m:Int)=m:=by simp[IntKind.wrap,IntKind.signed,IntKind.bits];omega
    have w2:IntKind.i64.wrap (c:Int)=c:=by simp[IntKind.wrap,IntKind.signed,IntKind.bits];omega
    have hb:¬((i.bytes:Int)*c>2 ^ 48):=by
     have h5':i.bytes*c≤281474976710656:=h5;have h5'':((i.bytes*c:Nat):Int)≤281474976710656:=by omega
     rw[Aam] at h5'';have e48:(2:Int)^ 48=281474976710656:=by decide
     rw[e48];omega
    have ht:((decide ((c:Int)<0)||decide ((i.bytes:Int)*c>2 ^ 48))||decide ((m:Int)<0)||decide ((m:Int)>c))=false:=by
     simp only[Bool.or_eq_false_iff,decide_eq_false_iff_not];refine⟨⟨⟨by omega,hb⟩,by omega⟩,by omega⟩
    by_cases h0:c*i.size=0
    ·have hzz:((Array.range (c*i.size)).map ((#[]:Array Value)[·% (#[]:Array Value).size]!))=(BC z.cells.toList (c*i.size)).toArray:=by rw[h0];simp[BC]
     simp only[execOp,Instr.makeSlice,Sem.run_bind,run_underlying hu,Result.andThen,hE1,hE2,h1,h2,asInt,asIntOf,Sem.run_pure,Fe hi,B3 hi,w1,w2,ht,ZX,if_false,if_pos h0,run_askRoom,Z2,hzz,newRow,run_newObj]
     rfl
    ·have hzz:((Array.range (c*i.size)).map (z.cells[·% z.cells.size]!))=(BC z.cells.toList (c*i.size)).toArray:=
      Ob z.cells _ (fun _=>by rw[hzs];exact Nat.pos_of_ne_zero (fun e=>h0 (by rw[e,Nat.mul_zero])))
     simp only[execOp,Instr.makeSlice,Sem.run_bind,run_underlying hu,Result.andThen,hE1,hE2,h1,h2,asInt,asIntOf,Sem.run_pure,Fe hi,B3 hi,w1,w2,ht,ZX,if_false,if_neg h0,DY hi hz,run_askRoom,Z2,hzz,newRow,run_newObj]
     rfl
   ·refine hK _ d _ _ ?_ (Le.refl d) (En _ _) (h6 W.heap.size e)
    have:=hOk.push (.cells (BC z.cells.toList (c*i.size)).toArray e)
    simpa [bx] using this
  case convert s t x=>
   split at hd<;>try cases hd
   ·exact absurd rfl hq
   ·exact absurd rfl hq
   ·split at hd<;>try cases hd
    ·exact absurd rfl hq
    ·exact absurd rfl hq
   ·rename_i e h1 h2
    split at hd<;>try cases hd
    rename_i h3
    obtain⟨l,hx,hlen,hk⟩:=h
    obtain⟨c,hc1,hc2,hr⟩:=Yu (P:=P) e l W hlen
    refine Bs (W':=W.drew.alloc (.cells (BR l++ZI (c - (BR l).length) (Value.int .i32 0)).toArray e)) (v:=.slice (some ⟨W.heap.size,0,none⟩) (BR l).length c) ?_ ?_
    ·simp only[execOp,convert,Sem.run_bind,run_underlying h1,run_underlying h2,run_underlying h3,Bp (hop x (by simp[Op.operands])),hx,Al,Result.andThen,hr,Sem.run_pure]
    ·refine hK _ d _ _ ?_ (Le.refl d) ?_ (hk W.heap.size e c hc1 hc2)
     ·exact(hOk.drew).push _
     ·exact⟨rfl,rfl,rfl,by show W.heap.size≤(W.heap.push _).size;simp⟩
  case panic x=>
   simp at hd;subst hd
   obtain⟨t,v,h1,h2⟩:=h
   refine RB (v:=.iface t v) ?_ (hP _ d L W hOk (Le.refl d) (B6.refl W) h2)
   have hE:=Bp (ρ:=ρ) (ds:=ds) (hop x (by simp[Op.operands]))
   simp[execOp,hE,h1,Instr.panic]
  case call c=>
   obtain⟨callee,args,ats⟩:=c
   cases callee with
   |value f=>
    cases f with
    |func f=>
     simp only at hd
     split at hd
     ·split at hd
      ·cases hd;exact absurd rfl hq
      ·cases hd
     cases hd
     have ha:=Jr (ρ:=ρ) (ds:=ds) args (fun x hx=>hop x (by simp[Op.operands,Call.operands,hx]))
     rcases h with ⟨L1,L2,R,hL,hc,hR⟩|⟨B,R,hL,hc,hR⟩
     ·refine contract f _ L1 L2 R hL hc hR ?_
      simp[execOp,resolve,Act.eval,Deferred.ofValue,invoke,ha,Hy hc.1]
     ·refine borrowed f _ B R hL hc hR ?_
      simp[execOp,resolve,Act.eval,Deferred.ofValue,invoke,ha,Hy hc.1]
    |_=>
     simp at hd;subst hd
     obtain⟨f',first,cap,L1,L2,R,hf,hL,hc,hR⟩:=h
     refine contract f' _ L1 L2 R hL hc hR ?_
     have ha:=Jr (ρ:=ρ) (ds:=ds) args (fun x hx=>hop x (by simp[Op.operands,Call.operands,hx]))
     have hfv:=Bp (ρ:=ρ) (ds:=ds) (hop _ (by simp[Op.operands,Call.operands];exact Or.inl rfl))
     have hargs:first++(args.toList.map (ev ρ)).toArray++cap=(first.toList++args.toList.map (ev ρ)++cap.toList).toArray:=by
      apply Array.ext';simp
     simp only[execOp,resolve,Sem.run_bind,hfv,hf,Deferred.ofValue,Sem.run_pure,Result.andThen,invoke,ha,hargs,Hy hc.1]
   |invoke r m=>simp at hd
   |builtin b=>
    cases b<;>simp only at hd
    case append=>
     split at hd<;>try cases hd
     rename_i s x t t' h1 h2
     have ha:args= #[s,x]:=by rw[←Array.toArray_toList (xs:=args),h1]
     have hts:ats= #[t,t']:=by rw[←Array.toArray_toList (xs:=ats),h2]
     subst ha;subst hts
     have hs:=Bp (ρ:=ρ) (ds:=ds) (hop s (by simp[Op.operands,Call.operands]))
     have hx:=Bp (ρ:=ρ) (ds:=ds) (hop x (by simp[Op.operands,Call.operands]))
     split at hd<;>try cases hd
     rename_i e e' hu hu'
     split at hd<;>try cases hd
     rename_i i hi
     split at hd<;>try cases hd
     rename_i z hz
     split at hd<;>try cases hd
     rename_i hsz
     simp only[not_or,Decidable.not_not] at hsz
     obtain⟨hz0,hb0,hzs⟩:=hsz
     obtain⟨sa,m,c,xa,m',xc,news,e1,e2,hl1,hone,hx0,hxc,hmax,hcmax,hfits,hgrows⟩:=h
     have hlk:∀k∈Lk++L,Sub k W:=by
      intro k hk;rcases ZK.1 hk with hk|hk
      ·exact hl k hk
      ·exact hOk.2 k (by simp[hk])
     have hxc':∀a',xa=some a'→∀j u,news[j]?=some u→W.cell? (a'.add j)=some u:=
      fun a' ha j u hj=>(hxc a' ha j u hj).cell hOk.head hlk
     have hexec:∀(r:Result Value),(Builtin.append_ #[t,t'] type #[.slice sa m c,.slice xa m' xc]).run P W=r→
       (execOp (act n ρ ds).eval ⟨dst,.call ⟨.builtin .append, #[s,x], #[t,t']⟩,type,pos,after,guard⟩).run P W=r.andThen fun v W'=>.ok (.value v) W':=by
      intro r hr
      simp[execOp,resolve,invoke,builtin,hs,hx,e1,e2,hr]
     rcases Acb c (m+m') with hlt|hge
     ·obtain⟨hby,olds,ho1,ho2,ho3,hK2⟩:=hgrows hlt
      have hoc:∀a',sa=some a'→∀j u,olds[j]?=some u→W.cell? (a'.add j)=some u:=
       fun a' ha j u hj=>(ho3 a' ha j u hj).cell hOk.head hlk
      obtain⟨c',hc1,hc2,hr⟩:=LY (ty:=type) hu hu' hi hz hb0 hl1 ho1 hx0 hxc' ho2 hoc hlt hmax hby
      refine Bs (hexec _ hr) ?_
      rw[Ge z.cells _ i.size hzs (by omega)]
      refine hK _ d _ _ ?_ (Le.refl d) ?_ (hK2 W.heap.size e c' hc1 hc2)
      ·have e:(olds++news++BC z.cells.toList ((c' - (m+m'))*i.size)).toArray=olds.toArray++news.toArray++(BC z.cells.toList ((c' - (m+m'))*i.size)).toArray:=by simp
       unfold bx
       rw[e]
       exact(hOk.drew).push _
      ·exact⟨rfl,rfl,rfl,by show W.heap.size≤(W.heap.push _).size;simp⟩
     ·have hr:=Nv (ty:=type) (n:=m) (c:=c) (sa:=sa) (xc:=xc) hu hu' hi hl1 hx0 hxc' hge
      rcases hfits hge with ⟨rfl,hk⟩|⟨j,b,o,T,l,rfl,hj,hol,hk⟩
      ·have h0:(match sa with|some a=>(storeCells (a.add (m*i.size)) []).run P W|none=>.ok () W)=.ok () W:=by
        cases sa with
        |none=>rfl
        |some a=>simp[storeCells]
       rw[h0] at hr
       simp only[Result.andThen] at hr
       exact Bs (hexec _ hr) (hK _ d L W hOk (Le.refl d) (B6.refl W) hk)
      ·have hlen:o+m*i.size+news.length≤l.length:=by rw[hl1];rw[Aai] at hol;omega
       obtain⟨W',hst,ho,hkp⟩:=hOk.Ll hj (o:=o+m*i.size) (vs:=news) hlen hone P
       simp only[Addr.add_lit,hst,Result.andThen] at hr
       exact Bs (hexec _ hr) (hK _ d _ W' ho (Le.refl d) hkp hk)
    all_goals first
     |(cases hd;done)
     |(exfalso;apply hq;split at hd<;>first|(cases hd;done)|(simp at hd;subst hd;rfl)|(split at hd<;>first|(cases hd;done)|(simp at hd;subst hd;rfl)))
  all_goals first
   |(cases hd;done)
   |(exfalso;apply hq;simp at hd;subst hd;rfl)
   |(exfalso;apply hq;simp at hd;obtain⟨_,_,rfl⟩:=hd;rfl)
   |(exfalso;apply hq;split at hd<;>first|(cases hd;done)|(simp at hd;subst hd;rfl)|(simp at hd;obtain⟨_,rfl⟩:=hd;rfl)|(simp at hd;obtain⟨_,_,rfl⟩:=hd;rfl)|(split at hd<;>first|(cases hd;done)|(simp at hd;subst hd;rfl)|(simp at hd;obtain⟨_,rfl⟩:=hd;rfl)|(simp at hd;obtain⟨_,_,rfl⟩:=hd;rfl)|(split at hd<;>first|(cases hd;done)|(simp at hd;subst hd;rfl)|(simp at hd;obtain⟨_,rfl⟩:=hd;rfl)|(simp at hd;obtain⟨_,_,rfl⟩:=hd;rfl))))
def rest(d d0:Ag):Ag:=fun b o=>d0 b o∧∀o',¬d b o'
def Yf(hl:Le d d0)(hs:Sub d0 W){o:Obj}(h:d0 b o):d b o∨rest d d0 b o:=by
 by_cases e:∃o',d b o'
 ·obtain⟨o',ho⟩:=e;have h1:=hs b o h;have h2:=hs b o' (hl b o' ho);rw[h1] at h2;cases h2;exact .inl ho
 ·exact .inr ⟨h,fun o' ho=>e ⟨o',ho⟩⟩
def Ok.M0(hl:Le d d0)(x:Ok (d0::(L++F)) W):Ok (d::(L++rest d d0::F)) W:=by
 have h1:Ok (join d (rest d d0)::(L++F)) W:=by
  rw[Ok.DD] at x⊢;obtain⟨s,dd,ok⟩:=x;exact⟨fun b o e=>e.elim (fun e=>s b o (hl b o e)) (fun e=>s b o e.1),fun k hk=>(dd k hk).le (fun b o e=>e.elim (hl b o) (·.1)),ok⟩
 exact(h1.split (fun b o o' e e'=>e'.2 o e)).perm (Z1 d (List.perm_middle.symm))
def Ok.whole{d'}(hl:Le d d0)(hs:Sub d0 W)(hd:Le d d')(x:Ok (d'::(L++rest d d0::F)) W'):Ok (join d' d0::(L++F)) W':=by
 have y:Ok (d'::rest d d0::(L++F)) W':=x.perm (Z1 d' Acs);have z:=y.freeze;have sub:Le (join d' d0) (join d' (rest d d0)):=fun b o e=>e.elim .inl (fun e=>(Yf hl hs e).elim (fun e=>.inl (hd b o e)) .inr);rw[Ok.DD] at z⊢;exact⟨z.1.le sub,fun k hk=>(z.2.1 k hk).le sub,z.2.2⟩
def Vs.up{d1 L1}(v:Vs d L d1 L1)(hl:Le d d0):Vs d0 L (Gk.join d1 d0) L1:=
 ⟨Le.BZ d1 d0,fun F W x=>(v.2 (rest d d0::F) W (x.M0 hl)).whole hl x.head v.1⟩
def A8.up{args R}(h:A8 P f args d L R)(hl:Le d d0):
  A8 P f args d0 L (fun e d' L'=>∃d1,Le d d1∧Le d1 d'∧R e d1 L'):=
 ⟨h.1,fun F W x=>(h.2 (rest d d0::F) W (x.M0 hl)).mono fun _ _ ⟨d',L',a,b,c,r⟩=>⟨join d' d0,L',a.whole hl x.head b,Le.BZ d' d0,c,d',b,Le.BD d' d0,r⟩⟩
def KZ{C C':Addr→Value→Prop}(hC:∀a v,C a v→C' a v){l}(h:Fj C v l):Fj C' v l:=by
 rcases h with h|⟨a,c,h1,h2,h3⟩
 ·exact .inl h
 ·exact .inr ⟨a,c,h1,h2,fun a' ha i u hu=>hC _ _ (h3 a' ha i u hu)⟩
def WH{C C':Addr→Value→Prop}(hC:∀a v,C a v→C' a v)(h:evq ρ C g v):evq ρ C' g v:=by
 cases g with
 |ld n x=>
  cases n with
  |none=>obtain⟨b,o,h1,h2⟩:=h;exact⟨b,o,h1,hC _ _ h2⟩
  |some n=>obtain⟨b,o,cs,h1,h2,h3,h4⟩:=h;exact⟨b,o,cs,h1,h2,fun i u hu=>hC _ _ (h3 i u hu),h4⟩
 |b2s x=>obtain⟨a,l,c,h1,h2,h3,h4⟩:=h;exact⟨a,l,c,h1,h2,fun a' ha i u hu=>hC _ _ (h3 a' ha i u hu),h4⟩
 |bcmp x y=>obtain⟨l,m,h1,h2,h3⟩:=h;exact⟨l,m,KZ hC h1,KZ hC h2,h3⟩
 |r2s x=>obtain⟨a,rs,c,h1,h2,h3,h4⟩:=h;exact⟨a,rs,c,h1,h2,fun a' ha i u hu=>hC _ _ (h3 a' ha i u hu),h4⟩
 |gf n o x=>cases n<;>exact h
 |aidx m n z x i=>cases m<;>exact h
 |_=>exact h
def M3{ρ ρ':Env}{l:List Operand}(h:∀x∈l,ev ρ' x=ev ρ x):l.map (ev ρ')=l.map (ev ρ):=Aap h
def F4{l:Option Operand}(h:∀x∈l.toList,ev ρ' x=ev ρ x):l.map (ev ρ')=l.map (ev ρ):=by
 cases l with
 |none=>rfl
 |some x=>simp[h x (by simp)]
def PV{l:List (Nat×Operand)}(h:∀x∈l.map (·.2),ev ρ' x=ev ρ x):(l.map fun p=>(p.1,ev ρ' p.2))=l.map fun p=>(p.1,ev ρ p.2):=
 Aap fun p hp=>by rw[h p.2 (List.mem_map_of_mem hp)]
def Yz{K:Value→A0}(h:∀x∈m.Ep,ev ρ' x=ev ρ x):mi ρ' d Lk L K m=mi ρ d Lk L K m:=by
 cases m<;>simp only[MI.Ep,ZR,Abl,or_false] at h
 case mk=>rfl
 case lk kd z ok x k=>simp only[mi,h x (.inl rfl),h k (.inr rfl)]
 case ln x=>simp only[mi,h x rfl]
 case up kd x k v=>simp only[mi,h x (.inl rfl),h k (.inr (.inl rfl)),h v (.inr (.inr rfl))]
 case del kd x k=>simp only[mi,h x (.inl rfl),h k (.inr rfl)]
 case clr x=>simp only[mi,h x rfl]
 case rng x=>simp only[mi,h x rfl]
 case nxt x=>simp only[mi,h x rfl]
 case ent x=>simp only[mi,h x rfl]
 case mkc b x=>simp only[mi,h x rfl]
 case cln x=>simp only[mi,h x rfl]
 case cpy sz x y=>simp only[mi,h x (.inl rfl),h y (.inr rfl)]
 case zap sz by_ z x y=>simp only[mi,h x (.inl rfl),h y (.inr rfl)]
 case clz sz z x=>simp only[mi,h x rfl]
 case s2b x=>simp only[mi,h x rfl]
 case ovl x y=>simp only[mi,h x (.inl rfl),h y (.inr rfl)]
def HC.up(hl:Le d d0)(a:Addr)(v:Value)(h:HC d Lk a v):HC d0 Lk a v:=by
 obtain⟨h1,h,h2,c,T,fr,h3,h4⟩:=h;rcases h2 with rfl|h2
 ·exact⟨h1,d0,.inl rfl,c,T,fr,hl _ _ h3,h4⟩
 ·exact⟨h1,h,.inr h2,c,T,fr,h3,h4⟩
def W9{K K':Value→A0}(hl:Le d d0)(hK:∀v L,K v d L→K' v d0 L)(h:mi ρ d Lk L K m):mi ρ d0 Lk L K' m:=by
 cases m with
 |mk=>exact fun b=>hK _ _ (h b)
 |lk kd z ok x k=>obtain⟨es,r,h1,h2,h3⟩:=h;exact⟨es,r,h1.up hl,h2,hK _ _ h3⟩
 |ln x=>obtain⟨es,h1,h2⟩:=h;exact⟨es,h1.up hl,hK _ _ h2⟩
 |up kd x k v=>obtain⟨i,b,es,c,r,h1,h2,h3,h4⟩:=h;exact⟨i,b,es,c,r,h1,h2,h3,hK _ _ h4⟩
 |del kd x k=>obtain⟨i,b,es,c,r,h1,h2,h3,h4⟩:=h;exact⟨i,b,es,c,r,h1,h2,h3,hK _ _ h4⟩
 |clr x=>obtain⟨i,b,es,c,h1,h2,h3⟩:=h;exact⟨i,b,es,c,h1,h2,hK _ _ h3⟩
 |rng x=>obtain⟨b,es,c,h1,h2,h3⟩:=h;exact⟨b,es,c,h1,h2.up hl,fun q=>hK _ _ (h3 q)⟩
 |nxt x=>
  obtain⟨i,q,b,since,seen,last,es,c,h1,h2,h3,h4,h5,h6⟩:=h
  exact⟨i,q,b,since,seen,last,es,c,h1,h2,h3.up hl,h4,fun e he hb=>hK _ _ (h5 e he hb),fun ha=>hK _ _ (h6 ha)⟩
 |ent x=>obtain⟨q,b,since,seen,last,j,es,e,h1,h2,h3,h4,h5,h6⟩:=h;exact⟨q,b,since,seen,last,j,es,e,h1,h2.up hl,h3,h4.up hl,h5,hK _ _ h6⟩
 |mkc by_ x=>obtain⟨k,n,h1,h2,h3,h4⟩:=h;exact⟨k,n,h1,h2,h3,fun b=>hK _ _ (h4 b)⟩
 |cln x=>obtain⟨t,b,es,c,h1,h2,h3⟩:=h;exact⟨t,b,es,c,h1,h2.up hl,fun q=>hK _ _ (h3 q)⟩
 |cpy sz x y=>
  obtain⟨sa,n,c,xa,m,xc,news,h1,h2,h3,h4,h5,h6,h7⟩:=h
  refine⟨sa,n,c,xa,m,xc,news,h1,h2,h3,h4,h5,fun a' ha i u hu=>HC.up hl _ _ (h6 a' ha i u hu),?_⟩
  rcases h7 with ⟨a1,a2⟩|⟨i,b,o,T,l,a1,a2,a3,a4⟩
  ·exact .inl ⟨a1,hK _ _ a2⟩
  ·exact .inr ⟨i,b,o,T,l,a1,a2,a3,hK _ _ a4⟩
 |zap sz by_ z s x=>
  obtain⟨sa,n,c,m,olds,h1,h2,h3,h4,h5,h6,h7,h8,h9⟩:=h
  exact⟨sa,n,c,m,olds,h1,h2,h3,h4,h5,h6,h7,fun a' ha i u hu=>HC.up hl _ _ (h8 a' ha i u hu),fun b T c' e1 e2=>hK _ _ (h9 b T c' e1 e2)⟩
 |clz sz z x=>
  obtain⟨a,n,c,h1,h2⟩:=h
  refine⟨a,n,c,h1,?_⟩
  rcases h2 with ⟨a1,a2⟩|⟨i,b,o,T,l,a1,a2,a3,a4⟩
  ·exact .inl ⟨a1,hK _ _ a2⟩
  ·exact .inr ⟨i,b,o,T,l,a1,a2,a3,hK _ _ a4⟩
 |s2b x=>obtain⟨l,h1,h2,h3⟩:=h;exact⟨l,h1,h2,fun b T fr c e1 e2=>hK _ _ (h3 b T fr c e1 e2)⟩
 |ovl x y=>obtain⟨a,n,c,a',n',c',h1,h2,h3,h4⟩:=h;exact⟨a,n,c,a',n',c',h1,h2,hK _ _ h3,h4⟩
def YQ{P:Program}{pan:List PanicEntry→A0}{ρ ρ':Env}{d:Ag}{Lk L:List Ag}{K:Value→A0}{g:GI}(h:∀x∈g.Ep,ev ρ' x=ev ρ x):
  gi P pan ρ' d Lk L K g=gi P pan ρ d Lk L K g:=by
 cases g with
 |sl sz x lo hi mx=>
  simp only[GI.Ep,ZR,ZK] at h
  simp only[gi,evq,h x (.inl rfl),F4 (l:=lo) (fun y hy=>h y (.inr (.inl hy))),F4 (l:=hi) (fun y hy=>h y (.inr (.inr (.inl hy)))),F4 (l:=mx) (fun y hy=>h y (.inr (.inr (.inr hy))))]
 |sla n sz x lo hi mx=>
  simp only[GI.Ep,ZR,ZK] at h
  simp only[gi,evq,h x (.inl rfl),F4 (l:=lo) (fun y hy=>h y (.inr (.inl hy))),F4 (l:=hi) (fun y hy=>h y (.inr (.inr (.inl hy)))),F4 (l:=mx) (fun y hy=>h y (.inr (.inr (.inr hy))))]
 |sls x lo hi=>
  simp only[GI.Ep,ZR,ZK] at h
  simp only[gi,evq,h x (.inl rfl),F4 (l:=lo) (fun y hy=>h y (.inr (.inl hy))),F4 (l:=hi) (fun y hy=>h y (.inr (.inr hy)))]
 |bld pl z ps=>simp only[gi,evq,PV (l:=ps) h]
 |bsl n sz z ps=>simp only[gi,PV (l:=ps) h]
 |mkf f a c=>
  simp only[GI.Ep,ZK] at h
  simp only[gi,evq,M3 (l:=a) (fun y hy=>h y (.inl hy)),M3 (l:=c) (fun y hy=>h y (.inr hy))]
 |call f args=>simp only[gi,M3 (l:=args) h]
 |callv f args=>
  simp only[GI.Ep,ZR] at h
  simp only[gi,h f (.inl rfl),M3 (l:=args) (fun y hy=>h y (.inr hy))]
 |ld n x=>
  simp only[GI.Ep,Z9] at h
  cases n<;>simp only[gi,evq,h x rfl]
 |gf n o x=>
  simp only[GI.Ep,Z9] at h
  cases n<;>simp only[gi,evq,h x rfl]
 |aidx m n z x i=>
  simp only[GI.Ep,ZR,Abl,or_false] at h
  cases m<;>simp only[gi,evq,h x (.inl rfl),h i (.inr rfl)]
 |pick c a b=>
  simp only[GI.Ep,ZR] at h
  simp only[gi,evq,h c (.inl rfl),h a (.inr (.inl rfl)),h b (.inr (.inr (.inl rfl)))]
 |alo z=>rfl
 |mop m=>exact Yz (m:=m) h
 |_=>
  simp only[GI.Ep,ZR,Abl,or_false] at h
  first
   |(simp only[gi,evq,h _ rfl];done)
   |(simp only[gi,evq,h _ (Or.inl rfl),h _ (Or.inr rfl)];done)
def Zf{pan':List PanicEntry→A0}{K K':Value→A0}(hl:Le d d0)(hp:∀c d L,¬pan c d L)
  (hK:∀v d1 d2 L,Le d d1→Le d1 d2→K v d1 L→K' v d2 L) (h:gi P pan ρ d Lk L K g):gi P pan' ρ d0 Lk L K' g:=by
 by_cases hq:g.quiet=true
 ·rw[DU hq] at h⊢
  obtain⟨v,h1,h2⟩:=h
  exact⟨v,WH (HC.up hl) h1,hK _ _ _ _ (Le.refl d) hl h2⟩
 have k0:∀v L,K v d L→K' v d0 L:=fun v L h=>hK v d d0 L (Le.refl d) hl h
 have calls:∀{f args L1 L2 R},A8 P f args d L1 R→
   (∀e d' L',Le d d'→R e d' L'→match e with|.returned v=>K v d' (L'++L2)|.panicked c=>pan c d' (L'++L2)|.outgrown=>False)→
   ∃R',A8 P f args d0 L1 R'∧∀e d' L',Le d0 d'→R' e d' L'→match e with|.returned v=>K' v d' (L'++L2)|.panicked c=>pan' c d' (L'++L2)|.outgrown=>False:=by
  intro f args L1 L2 R hc hR
  refine⟨_,hc.up hl,fun e d' L' h1 ⟨d1,h2,h3,h4⟩=>?_⟩
  have h5:=hR e d1 L' h2 h4
  cases e with
  |returned v=>exact hK _ _ _ _ h2 h3 h5
  |panicked c=>exact absurd h5 (hp _ _ _)
  |outgrown=>exact h5
 cases g with
 |box x=>exact fun b T=>k0 _ _ (h b T)
 |alo z=>exact fun b T=>k0 _ _ (h b T)
 |st n a x=>obtain⟨i,b,o,T,l,h1,h2,h3,h4,h5,h6⟩:=h;exact⟨i,b,o,T,l,h1,h2,h3,h4,h5,k0 _ _ h6⟩
 |bsl n sz z ps=>obtain⟨h1,cs,h2,h3⟩:=h;exact⟨h1,cs,h2,fun b T=>k0 _ _ (h3 b T)⟩
 |mks sz by_ z l c=>obtain⟨k,k',n,c',h1,h2,h3,h4,h5,h6⟩:=h;exact⟨k,k',n,c',h1,h2,h3,h4,h5,fun b T=>k0 _ _ (h6 b T)⟩
 |app sz by_ z s x=>
  obtain⟨sa,n,c,xa,m,xc,news,h1,h2,h3,h4,h5,h6,h7,h8,h9,h10⟩:=h
  refine⟨sa,n,c,xa,m,xc,news,h1,h2,h3,h4,h5,fun a' ha i u hu=>HC.up hl _ _ (h6 a' ha i u hu),h7,h8,fun hh=>?_,fun hh=>?_⟩
  ·rcases h9 hh with ⟨e,hk⟩|⟨i,b,o,T,l,q1,q2,q3,q4⟩
   ·exact .inl ⟨e,k0 _ _ hk⟩
   ·exact .inr ⟨i,b,o,T,l,q1,q2,q3,k0 _ _ q4⟩
  ·obtain⟨q1,olds,q2,q3,q4,q5⟩:=h10 hh
   exact⟨q1,olds,q2,q3,fun a' ha i u hu=>HC.up hl _ _ (q4 a' ha i u hu),fun b T c' e1 e2=>k0 _ _ (q5 b T c' e1 e2)⟩
 |call f args=>
  rcases h with ⟨L1,L2,R,h1,h2,h3⟩|⟨B,R,h1,h2,h3⟩
  ·obtain⟨R',h4,h5⟩:=calls h2 h3
   exact .inl ⟨L1,L2,R',h1,h4,h5⟩
  ·refine .inr ⟨B,_,h1,h2.up hl,fun e d' L' q1 ⟨d1,q2,q3,q4⟩=>?_⟩
   obtain⟨L'',e1,h5⟩:=h3 e d1 L' q2 q4
   refine⟨L'',e1,?_⟩
   cases e with
   |returned v=>exact hK _ _ _ _ q2 q3 h5
   |panicked c=>exact absurd h5 (hp _ _ _)
   |outgrown=>exact h5
 |callv f args=>
  obtain⟨f',first,cap,L1,L2,R,h0,h1,h2,h3⟩:=h
  obtain⟨R',h4,h5⟩:=calls h2 h3
  exact⟨f',first,cap,L1,L2,R',h0,h1,h4,h5⟩
 |pan x=>obtain⟨t,v,h1,h2⟩:=h;exact absurd h2 (hp _ _ _)
 |s2r x=>obtain⟨l,h1,h2,h3⟩:=h;exact⟨l,h1,h2,fun b T c e1 e2=>k0 _ _ (h3 b T c e1 e2)⟩
 |mop m=>exact W9 (m:=m) hl k0 h
 |_=>exact absurd rfl hq
def Sm{K K':Value→A0}{i:GI}(hk:∀v d' L,Le d d'→K v d' L→K' v d' L)(h:gi P pan ρ d Lk L K i):gi P pan ρ d Lk L K' i:=by
 have hr:=Le.refl d;cases hq:i.quiet with
 |true=>
  rw[DU hq] at h⊢
  obtain⟨v,h1,h2⟩:=h
  exact⟨v,h1,hk _ _ _ hr h2⟩
 |false=>
  cases i<;>try (simp[GI.quiet] at hq;done)
  ·exact fun b T=>hk _ _ _ hr (h b T)
  ·exact fun b T=>hk _ _ _ hr (h b T)
  ·obtain⟨i,b,o,T,l,h1,h2,h3,h4,h5,h6⟩:=h
   exact⟨i,b,o,T,l,h1,h2,h3,h4,h5,hk _ _ _ hr h6⟩
  ·obtain⟨h1,cs,h2,h3⟩:=h
   exact⟨h1,cs,h2,fun b T=>hk _ _ _ hr (h3 b T)⟩
  ·obtain⟨k,k',n,c,h1,h2,h3,h4,h5,h6⟩:=h
   exact⟨k,k',n,c,h1,h2,h3,h4,h5,fun b T=>hk _ _ _ hr (h6 b T)⟩
  ·obtain⟨sa,n,c,xa,m,xc,news,h1,h2,h3,h4,h5,h6,h7,h8,h9,h10⟩:=h
   refine⟨sa,n,c,xa,m,xc,news,h1,h2,h3,h4,h5,h6,h7,h8,fun hle=>?_,fun hlt=>?_⟩
   ·rcases h9 hle with ⟨a,c⟩|⟨i,b,o,T,l,a1,a2,a3,a4⟩
    ·exact .inl ⟨a,hk _ _ _ hr c⟩
    ·exact .inr ⟨i,b,o,T,l,a1,a2,a3,hk _ _ _ hr a4⟩
   ·obtain⟨k1,olds,k2,k3,k4,k5⟩:=h10 hlt
    exact⟨k1,olds,k2,k3,k4,fun b T c' e1 e2=>hk _ _ _ hr (k5 b T c' e1 e2)⟩
  ·rcases h with ⟨L1,L2,R,h1,h2,h3⟩|⟨B,R,h1,h2,h3⟩
   ·refine .inl ⟨L1,L2,R,h1,h2,fun e d' L' hl hr=>?_⟩
    have:=h3 e d' L' hl hr
    cases e with
    |returned v=>exact hk _ _ _ hl this
    |panicked c=>exact this
    |outgrown=>exact this
   ·refine .inr ⟨B,R,h1,h2,fun e d' L' hl hr=>?_⟩
    obtain⟨L'',e1,this⟩:=h3 e d' L' hl hr
    refine⟨L'',e1,?_⟩
    cases e with
    |returned v=>exact hk _ _ _ hl this
    |panicked c=>exact this
    |outgrown=>exact this
  ·obtain⟨g',first,cap,L1,L2,R,h0,h1,h2,h3⟩:=h
   refine⟨g',first,cap,L1,L2,R,h0,h1,h2,fun e d' L' hl hr=>?_⟩
   have:=h3 e d' L' hl hr
   cases e with
   |returned v=>exact hk _ _ _ hl this
   |panicked c=>exact this
   |outgrown=>exact this
  ·exact h
  ·obtain⟨l,h1,h2,h3⟩:=h
   exact⟨l,h1,h2,fun b T c e1 e2=>hk _ _ _ hr (h3 b T c e1 e2)⟩
  ·exact W9 hr (fun v L hv=>hk v d L hr hv) h
def Li{K:Env→A0}{g:GOp}(h:gop P pan g ρ d Lk L K):gop P pan g ρ d Lk L (fun ρ' d' L'=>(∃v,ρ'=put ρ g.dst v)∧Le d d'∧K ρ' d' L'):=by
 have run:∀i:GI,gi P pan ρ d Lk L (fun v d' L'=>K (put ρ g.dst v) d' L') i→gi P pan ρ d Lk L (fun v d' L'=>(∃u,put ρ g.dst v=put ρ g.dst u)∧Le d d'∧K (put ρ g.dst v) d' L') i:=
  fun i h=>Sm (fun v d L hl h=>⟨⟨v,rfl⟩,hl,h⟩) h
 obtain⟨dst,guard,i⟩:=g;cases guard with
 |none=>exact run i h
 |some p=>
  obtain⟨t,want⟩:=p
  rcases h with ⟨b,hb,h1,h2⟩|⟨hb,h2⟩
  ·exact .inl ⟨b,hb,fun e=>run i (h1 e),fun e=>⟨⟨undef,rfl⟩,Le.refl d,h2 e⟩⟩
  ·exact .inr ⟨hb,⟨undef,rfl⟩,Le.refl d,h2⟩
def H7{K K':Env→A0}{g:GOp}(hk:∀ρ d L,K ρ d L→K' ρ d L)(h:gop P pan g ρ d Lk L K):gop P pan g ρ d Lk L K':=by
 obtain⟨dst,guard,i⟩:=g;have run:gi P pan ρ d Lk L (fun v d' L'=>K (put ρ dst v) d' L') i→gi P pan ρ d Lk L (fun v d' L'=>K' (put ρ dst v) d' L') i:=fun h=>Sm (fun v d L _ h=>hk _ _ _ h) h;cases guard with
 |none=>exact run h
 |some p=>
  obtain⟨t,want⟩:=p
  rcases h with ⟨b,hb,h1,h2⟩|⟨hb,h2⟩
  ·exact .inl ⟨b,hb,fun e=>run (h1 e),fun e=>hk _ _ _ (h2 e)⟩
  ·exact .inr ⟨hb,hk _ _ _ h2⟩
def Off.ev(ho:Off X ρ ρ'){x}(h:∀t∈Qo x,t∉X):ev ρ' x=ev ρ x:=by
 cases x with
 |tmp t=>exact ho t (h t (by simp[Qo]))
 |_=>rfl
def Off.put(ho:Off X ρ ρ')(dst:Option Nat)(v:Value):Off X (put ρ dst v) (put ρ' dst v):=by
 cases dst with
 |none=>exact ho
 |some d=>
  intro t ht
  show upd ρ' d v t=upd ρ d v t
  unfold upd
  cases Nat.beq t d with
  |true=>rfl
  |false=>exact ho t ht
def HT(X:List Nat)(o:Env)(ρ ρ':Env):Prop:=Off X ρ ρ'∧∀t∈X,ρ t=o t
def HT.put{o}(h:HT X o ρ ρ'){dst:Option Nat}(hd:∀t,dst=some t→t∉X)(v:Value):HT X o (Gk.put ρ dst v) (Gk.put ρ' dst v):=by
 refine⟨h.1.put dst v,fun t ht=>?_⟩
 cases dst with
 |none=>exact h.2 t ht
 |some d=>
  show upd ρ d v t=o t
  unfold upd
  cases e:Nat.beq t d with
  |true=>rw[Abp e] at ht;exact absurd ht (hd d rfl)
  |false=>exact h.2 t ht
def TY{pan':List PanicEntry→A0}{o}{K K':Env→A0}{g:GOp}(ho:HT X o ρ ρ')(hr:∀t∈g.rds,t∉X)(hdst:∀t,g.dst=some t→t∉X)(hl:Le d d0)(hp:∀c d L,¬pan c d L)
  (hK:∀ρ ρ' d1 d2 L,HT X o ρ ρ'→Le d d1→Le d1 d2→K ρ d1 L→K' ρ' d2 L) (h:gop P pan g ρ d Lk L K):gop P pan' g ρ' d0 Lk L K':=by
 have he:∀x∈g.i.Ep,Gk.ev ρ' x=Gk.ev ρ x:=fun x hx=>ho.1.ev fun t ht=>hr t (by simp only[GOp.rds,ZK,List.mem_flatMap];exact .inl ⟨x,hx,ht⟩)
 have run:gi P pan ρ d Lk L (fun v d' L'=>K (Gk.put ρ g.dst v) d' L') g.i→gi P pan' ρ' d0 Lk L (fun v d' L'=>K' (Gk.put ρ' g.dst v) d' L') g.i:=fun h=>by
  rw[YQ he];exact Zf hl hp (fun v d1 d2 L h1 h2 h3=>hK _ _ _ _ _ (ho.put hdst v) h1 h2 h3) h
 obtain⟨dst,guard,i⟩:=g
 cases guard with
 |none=>exact run h
 |some p=>
  obtain⟨t,want⟩:=p
  have hgt:ρ' t=ρ t:=ho.1 t (hr t (by simp[GOp.rds]))
  have skip:K (Gk.put ρ dst undef) d L→K' (Gk.put ρ' dst undef) d0 L:=fun h=>hK _ _ _ _ _ (ho.put hdst undef) (Le.refl d) hl h
  rcases h with ⟨b,hb,h1,h2⟩|⟨hb,h2⟩
  ·exact .inl ⟨b,hgt.trans hb,fun e=>run (h1 e),fun e=>skip (h2 e)⟩
  ·exact .inr ⟨hgt.trans hb,skip h2⟩
def MH(X:List Nat)(o:Env)(R:Env→A0):Env→A0:=fun ρ d L=>∃ρ0 d0,HT X o ρ0 ρ∧Le d0 d∧R ρ0 d0 L
def MH.stay{Y:List Nat}{o}{R:Env→A0}(h:Mr Y R)(_:∀t∈Y,t∉X):Mr Y (MH X o R):=by
 rintro ρ ρ' d d' L ho hl ⟨ρ0,d0,h1,h2,h3⟩;refine⟨fun t=>if t∈X then o t else ρ' t,d0,⟨fun t ht=>by simp[ht],fun t ht=>by simp[ht]⟩,h2.trans hl,h _ _ _ _ _ (fun t ht=>?_) (Le.refl d0) h3⟩
 by_cases hx:t∈X
 ·simp only[if_pos hx];exact(h1.2 t hx).symm
 ·simp only[if_neg hx];exact(ho t ht).trans (h1.1 t hx)
def Xu{o}:∀(s:GS) (Qn Qn':Env→A0),(∀ρ ρ' d d' L,HT X o ρ ρ'→Le d d'→Qn ρ d L→Qn' ρ' d' L)→s.plain=true→(∀t∈s.rds,t∉X)→(∀t∈s.Bu,t∉X)→∀(Ls:List Ag) (ρ ρ':Env) (d d0:Ag) (L:List Ag),
  HT X o ρ ρ'→Le d d0→gws P Ce Qn s Ls ρ d L→gws P Ce Qn' s Ls ρ' d0 L:=by
 intro s
 have step:∀(Qn Qn':Env→A0) (g:GOp) (s:GS),(∀t∈g.rds,t∉X)→(∀t,g.dst=some t→t∉X)→(∀(Ls:List Ag) (ρ ρ':Env) (d d0:Ag) (L:List Ag),HT X o ρ ρ'→Le d d0→gws P Ce Qn s Ls ρ d L→gws P Ce Qn' s Ls ρ' d0 L)→
   ∀(Ls:List Ag) (ρ ρ':Env) (d d0:Ag) (L:List Ag),HT X o ρ ρ'→Le d d0→
   (∃d1 L1,Vs d L d1 L1∧gop P (fun c d' L'=>Ce c d' (Ls++L')) g ρ d1 (Ls++L1) L1 (fun ρ' d' L'=>∃d2 L2,Vs d' L' d2 L2∧gws P Ce Qn s Ls ρ' d2 L2))→
   (∃d1 L1,Vs d0 L d1 L1∧gop P (fun c d' L'=>Ce c d' (Ls++L')) g ρ' d1 (Ls++L1) L1 (fun ρ' d' L'=>∃d2 L2,Vs d' L' d2 L2∧gws P Ce Qn' s Ls ρ' d2 L2)):=by
  intro Qn Qn' g s hr hd ih Ls ρ ρ' d d0 L ho hl ⟨d1,L1,hv,h⟩
  refine⟨join d1 d0,L1,hv.up hl,TY ho hr hd (Le.BD d1 d0) (fun c d L h=>h) ?_ h⟩
  intro ρ1 ρ2 e1 e2 M ho2 h1 h2 ⟨d2,L2,hv2,h3⟩
  exact⟨join d2 e2,L2,hv2.up h2,ih Ls ρ1 ρ2 d2 (join d2 e2) L2 ho2 (Le.BD _ _) h3⟩
 induction s with
 |done=>
  intro Qn Qn' hQ _ _ _ Ls ρ ρ' d d0 L ho hl ⟨d1,L1,hv,h⟩
  exact⟨join d1 d0,L1,hv.up hl,hQ _ _ _ _ _ ho (Le.BD _ _) h⟩
 |op tk g s ih=>
  intro Qn Qn' hQ hpl hr hd Ls ρ ρ' d d0 L ho hl h
  simp only[GS.plain] at hpl
  cases tk with
  |true=>
   exact TY ho (fun t ht=>hr t (by simp[GS.rds,ht])) (fun t ht=>hd t (by simp[GS.Bu,ht])) hl (fun c d L h=>h)
    (fun ρ1 ρ2 e1 e2 M ho2 _ h2 h3=>ih Qn Qn' hQ hpl (fun t ht=>hr t (by simp[GS.rds,ht])) (fun t ht=>hd t (by simp[GS.Bu,ht])) Ls ρ1 ρ2 e1 e2 M ho2 h2 h3) h
  |false=>
  exact step Qn Qn' g s (fun t ht=>hr t (by simp[GS.rds,ht])) (fun t ht=>hd t (by simp[GS.Bu,ht])) (ih Qn Qn' hQ hpl (fun t ht=>hr t (by simp[GS.rds,ht])) fun t ht=>hd t (by simp[GS.Bu,ht])) Ls ρ ρ' d d0 L ho hl h
 |alt g s t ih1 ih2=>
  intro Qn Qn' hQ hpl hr hd Ls ρ ρ' d d0 L ho hl h
  simp only[GS.plain,Zz] at hpl
  exact⟨step Qn Qn' g s (fun t ht=>hr t (by simp[GS.rds,ht])) (fun t ht=>hd t (by simp[GS.Bu,ht])) (ih1 Qn Qn' hQ hpl.1 (fun t ht=>hr t (by simp[GS.rds,ht])) fun t ht=>hd t (by simp[GS.Bu,ht])) Ls ρ ρ' d d0 L ho hl h.1,
   ih2 Qn Qn' hQ hpl.2 (fun t ht=>hr t (by simp[GS.rds,ht])) (fun t ht=>hd t (by simp[GS.Bu,ht])) Ls ρ ρ' d d0 L ho hl h.2⟩
 |bar s ih=>intro Qn Qn' _ hpl;cases hpl
 |par a b s iha ihb ihs=>
  intro Qn Qn' hQ hpl hr hd Ls ρ ρ' d d0 L ho hl ⟨Ra,Rb,d1,L1,L2,hv,sa,sb,h1,h2,h3⟩
  simp only[GS.plain,Zz] at hpl
  have hda:∀t∈a.Bu,t∉X:=fun t ht=>hd t (by simp[GS.Bu,ht])
  have hdb:∀t∈b.Bu,t∉X:=fun t ht=>hd t (by simp[GS.Bu,ht])
  have hp1:∀R:Env→A0,∀ρ ρ' d d' L,HT X o ρ ρ'→Le d d'→FI Ls R ρ d L→FI Ls (MH X o R) ρ' d' L:=
   fun R ρ ρ' d d' L ho hl ⟨M,hM,hR⟩=>⟨M,hM,ρ,d,ho,hl,hR⟩
  refine⟨MH X o Ra,MH X o Rb,join d1 d0,L1,L2,hv.up hl,MH.stay sa hdb,MH.stay sb hda,iha _ _ (hp1 Ra) hpl.1.1 (fun t ht=>hr t (by simp[GS.rds,ht])) hda Ls ρ ρ' d1 _ L1 ho (Le.BD _ _) h1,
   ihb _ _ (hp1 Rb) hpl.1.2 (fun t ht=>hr t (by simp[GS.rds,ht])) hdb Ls ρ ρ' d1 _ L2 ho (Le.BD _ _) h2,?_⟩
  rintro ρ2 d' M1 M2 hl2 ho2 ⟨ρa,da,oa,la,ra⟩ ⟨ρb,db,ob,lb,rb⟩
  have ea:ρa=fun t=>if t∈X then o t else ρ2 t:=by
   funext t;by_cases hx:t∈X
   ·simp only[if_pos hx];exact oa.2 t hx
   ·simp only[if_neg hx];exact(oa.1 t hx).symm
  have eb:ρb=ρa:=by
   rw[ea];funext t;by_cases hx:t∈X
   ·simp only[if_pos hx];exact ob.2 t hx
   ·simp only[if_neg hx];exact(ob.1 t hx).symm
  subst eb
  have hoff:Off (a.Bu++b.Bu) ρ ρb:=by
   intro t ht;by_cases hx:t∈X
   ·exact(oa.2 t hx).trans (ho.2 t hx).symm
   ·exact(oa.1 t hx).symm.trans ((ho2 t ht).trans (ho.1 t hx))
  have h4:=h3 ρb d' M1 M2 ((Le.BD _ _).trans hl2) hoff (sa _ _ _ _ _ (fun _ _=>rfl) la ra) (sb _ _ _ _ _ (fun _ _=>rfl) lb rb)
  exact ihs Qn Qn' hQ hpl.2 (fun t ht=>hr t (by simp[GS.rds,ht])) (fun t ht=>hd t (by simp[GS.Bu,ht])) Ls ρb ρ2 d' d' _ oa (Le.refl d') h4
def GK{Qn:Env→A0}(hQ:∀ρ ρ' d d' L,Off X ρ ρ'→Le d d'→Qn ρ d L→Qn ρ' d' L)(s:GS)(hp:s.plain=true)(hr:∀t∈s.rds,t∉X)(hd:∀t∈s.Bu,t∉X)(Ls:List Ag)(ρ ρ':Env)(d d0:Ag)(L:List Ag)
  (ho:Off X ρ ρ') (hl:Le d d0) (h:gws P Ce Qn s Ls ρ d L):gws P Ce Qn s Ls ρ' d0 L:=
 Xu (o:=ρ) s Qn Qn (fun ρ ρ' d d' L h=>hQ ρ ρ' d d' L h.1) hp hr hd Ls ρ ρ' d d0 L ⟨ho,fun _ _=>rfl⟩ hl h
def Ef{Ls}{R:Env→A0}(h:Mr X R):∀ρ ρ' d d' L,Off X ρ ρ'→Le d d'→FI Ls R ρ d L→FI Ls R ρ' d' L:=
 fun _ _ _ _ _ ho hl ⟨M,hM,hR⟩=>⟨M,hM,h _ _ _ _ _ ho hl hR⟩
end Go.Gk
end
