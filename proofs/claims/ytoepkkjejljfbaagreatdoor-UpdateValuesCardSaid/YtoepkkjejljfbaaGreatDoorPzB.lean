/-
  Our own texts, one behind the other: Gk6 Gk7 GkSr Gk8 Gk9 Gk10 Gk11 Gk12 Gk13 Gk14 Gk15 Gk16 Gk20 Gk22 GkV1 GkU1.
-/
import Derived.Deep.LoopGhost
import Derived.ProofKit
import Derived.OpenShut
import Derived.JoinedCond
import Derived.SizedLaws
import Derived.Below
import Derived.Shelf.Unicode.DecodeSlow
import Derived.Lib.LaidU8T
import Derived.Shelf.Unicode.ValidAny
import GoSem.PinnedTables
import Derived.KernelRfl
import Derived.Lib.ValidLaws
import Derived.Test.YtoepkkjejljfbaaGreatDoorPzA
set_option linter.defProp false
set_option linter.unusedVariables false
set_option linter.unusedSimpArgs false
open Nat renaming le_of_ble_eq_true→No,le_refl→ZL,zero_le→ZN,mul_le_mul_right→ZQ,not_lt_zero→Z3,zero_add→Aac,le_trans→Aaf,add_mul→Aai,one_mul→Abh,eq_of_beq_eq_true→Abp,mul_one→Abw,lt_or_ge→Acb,zero_mul→Acf
open List renaming append_assoc→Zy,nil_sublist→ZB,getElem_mem→ZC,eq_nil_of_length_eq_zero→ZD,mem_cons_of_mem→ZE,all_eq_true→ZF,mem_cons_self→ZG,length_append→ZH,replicate→ZI,getElem?_eq_getElem→ZJ,mem_append→ZK,getElem?_eq_some_iff→ZO,length_take→ZP,mem_cons→ZR,drop_eq_getElem_cons→ZT,append_nil→ZW,getElem?_take_of_lt→Z4,take_of_length_le→Z7,range→Z8,mem_singleton→Z9,length_drop→Aab,perm_append_comm→Aaj,map_congr_left→Aap,getElem?_map→Aat,length_map→Aay,sublist_cons_self→Aaz,getElem?_drop→Abi,mem_of_getElem?→Abj,mem_map→Abq,append_cancel_right→Abs,getElem_append_left→Abt,perm_append_comm_assoc→Abv,ext_getElem→Abz,sublist_append_right→Ack,getElem_append_right→Acl,mem_append_right→Acz
open Bool renaming and_eq_true→Zz,false_eq_true→ZX,or_eq_true→Aad,not_eq_true'→Aau,true_and→Adb
open List.Sublist renaming cons_cons→Acw
open Option renaming bind_eq_some_iff→ZZ,map_eq_some_iff→Aaa,bind_some→Aas,map_some→Aba,isSome_none→Ade
open List.Perm renaming swap→Z0,cons→Z1
open Int renaming natCast_mul→Aam
section
namespace Go.Gk
open Go
variable{v:Value}{d:Ag}{x c y:Operand}{k:IntKind}{a b:Int}{i:GI}{p:Prop}{α:Type}
section
def Ok.le{d d':Ag}{hs:List Ag}{W:World}(x:Ok (d::hs) W)(h:Le d' d):Ok (d'::hs) W:=by
 rw[Ok.DD] at*;exact⟨x.1.le h,fun k hk=>(x.2.1 k hk).le h,x.2.2⟩
def lift(n:Nat)(ds:List Deferred)(F:List Ag)(W0:World)(d0:Ag)(Q:Er):Exit→Act→World→Prop
 |.normal,a,W=>∃ρ d L,a=act n ρ ds∧Ok (d::(L++F)) W∧Le d0 d∧B6 W0 W∧Q.n ρ d L
 |.exit i,a,W=>∃ρ d L,a=act n ρ ds∧Ok (d::(L++F)) W∧Le d0 d∧B6 W0 W∧Q.ex i ρ d L
 |.ret,a,W=>∃ρ d L,a=act n ρ ds∧Ok (d::(L++F)) W∧Le d0 d∧B6 W0 W∧Q.ret ρ d L
 |.panic c,a,W=>a.defers=ds∧∃d L,Ok (d::(L++F)) W∧Le d0 d∧B6 W0 W∧Q.pan c d L
 |_,_,_=>False
def Hf{P:Program}{n:Nat}{ops:Array Oper}{o:Oper}{g:GOp}(h:GD P n ops o=some g):
  (∀x∈o.op.operands,FC n x=true)∧(∀t,o.dst=some t→t<n)∧(∀cs b,o.op≠.select cs b)∧LV P o=some g.i∧g.dst=o.dst∧
  ((o.guard=none∧g.guard=none)∨∃j want t,o.guard=some (j,want)∧(ops[j]?).bind (·.dst)=some t∧t<n∧g.guard=some (t,want)):=by
 unfold GD at h
 split at h
 ·rename_i hc
  simp only[Zz] at hc
  obtain⟨⟨h1,h2⟩,h3⟩:=hc
  have h1':∀x∈o.op.operands,FC n x=true:=by
   intro x hx;exact(ZF.1 h1) x (by simpa using hx)
  have h2':∀t,o.dst=some t→t<n:=by
   intro t ht;rw[ht] at h2;simpa [WZ] using h2
  have h3':∀cs b,o.op≠.select cs b:=by
   intro cs b e;rw[e] at h3;simp[W3] at h3
  split at h
  ·cases h
  ·rename_i i hi
   split at h
   ·rename_i hg;cases h;exact⟨h1',h2',h3',hi,rfl,.inl ⟨hg,rfl⟩⟩
   ·rename_i j want hg
    split at h
    ·rename_i t ht
     split at h
     ·rename_i htn;cases h;exact⟨h1',h2',h3',hi,rfl,.inr ⟨j,want,t,hg,ht,htn,rfl⟩⟩
     ·cases h
    ·cases h
 ·cases h
def Gc{n:Nat}{ρ ds ops}{o:Oper}{j t:Nat}{want b:Bool}(hg:o.guard=some (j,want))(ht:(ops[j]?).bind (·.dst)=some t)(htn:t<n)
  (hb:ρ t=.bool b):Region.wanted o (yielded ops (act n ρ ds).tmps)=(b==want):=by
 have:yielded ops (act n ρ ds).tmps j=some b:=by
  unfold yielded;have h2:(act n ρ ds).tmps[t]?=some (.bool b):=by simp[act,htn,hb]
  simp only[ht,Aas,h2]
 simp[Region.wanted,hg,this]
def Hq{n:Nat}{ρ:Env}{ds:List Deferred}{ops:Array Oper}{o:Oper}{j t:Nat}{want:Bool}(hg:o.guard=some (j,want))(ht:(ops[j]?).bind (·.dst)=some t)(htn:t<n)
  (hb:ρ t=undef):Region.wanted o (yielded ops (act n ρ ds).tmps)=false:=by
 have:yielded ops (act n ρ ds).tmps j=none:=by
  unfold yielded;have h2:(act n ρ ds).tmps[t]?=some undef:=by simp[act,htn,hb]
  simp only[ht,Aas,h2,undef]
 simp[Region.wanted,hg,this]
def GP{P:Program}{n:Nat}{ds:List Deferred}{ops:Array Oper}{i:Nat}{o:Oper}{g:GOp}(hi:ops[i]?=some o)(hd:GD P n ops o=some g)
  {pan:List PanicEntry→A0}{ρ:Env}{d:Ag}{Lk L F:List Ag}{K:Env→A0}{W:World}(hOk:Ok (d::(L++F)) W) (hl:∀k∈Lk,Sub k W) (hB:∀B,Lk=B++L→∃F',F.Perm (B++F'))
  (h:gop P pan g ρ d Lk L K) {Q:Exit→Act→World→Prop}{nxt:Act→World→Prop}
  (hK:∀ρ' d' L' W',Ok (d'::(L'++F)) W'→Le d d'→B6 W W'→K ρ' d' L'→nxt (act n ρ' ds) W')
  (hP:∀c d' L' W',Ok (d'::(L'++F)) W'→Le d d'→B6 W W'→pan c d' L'→Q (.panic c) (act n ρ ds) W'):wpOp P ops Q i nxt (act n ρ ds) W:=by
 obtain⟨hop,hdst,_,hdi,hgd,hgu⟩:=Hf hd
 unfold wpOp
 simp only[hi]
 have run:gi P pan ρ d Lk L (fun v d' L'=>K (put ρ g.dst v) d' L') g.i→o.wp P (act n ρ ds) W nxt Q:=by
  intro h';refine V2 hdi hop hOk hl hB h' ?_ hP;intro v d' L' W' h1 h2 h3 h4;rw[IU hdst,←hgd];exact hK _ _ _ _ h1 h2 h3 h4
 rcases hgu with ⟨hg,hg'⟩|⟨j,want,t,hg,ht,htn,hg'⟩
 ·have:Region.wanted o (yielded ops (act n ρ ds).tmps)=true:=by simp[Region.wanted,hg]
  simp only[this,if_true]
  simp only[gop,hg'] at h
  exact .inl (run h)
 ·simp only[gop,hg'] at h
  rcases h with ⟨b,hb,h1,h2⟩|⟨hb,h2⟩
  case inr=>
   rw[Hq hg ht htn hb]
   simp only[ZX,if_false]
   rw[IU hdst,←hgd]
   exact hK _ _ _ _ hOk (Le.refl d) (B6.refl W) h2
  rw[Gc hg ht htn hb]
  by_cases e:b=want
  ·subst e
   simp only[beq_self_eq_true,if_true]
   exact .inl (run (h1 rfl))
  ·have e':(b==want)=false:=by simpa using e
   simp only[e',ZX,if_false]
   rw[IU hdst,←hgd]
   exact hK _ _ _ _ hOk (Le.refl d) (B6.refl W) (h2 (by cases b<;>cases want<;>simp_all))
def IQ{P:Program}{n:Nat}{ds:List Deferred}{ops:Array Oper}{Q:Er}{F:List Ag}{W0:World}{d0:Ag}:∀(l:List Nat) (s:GS),CB P n ops (Hv l)=some s→
  ∀(ρ:Env) (d:Ag) (L:List Ag) (W:World),gws P Q.pan Q.n s [] ρ d L→Ok (d::(L++F)) W→Le d0 d→B6 W0 W→wpOps P ops (lift n ds F W0 d0 Q) l (act n ρ ds) W
 |[],s,hs,ρ,d,L,W,h,hOk,hle,hk=>by
  simp[Hv,CB] at hs;subst hs;obtain⟨d1,L1,hv,hq⟩:=h;exact⟨ρ,d1,L1,rfl,hv.2 F W (by simpa using hOk),hle.trans hv.1,hk,hq⟩
 |i::l,s,hs,ρ,d,L,W,h,hOk,hle,hk=>by
  simp only[Hv,CB] at hs;split at hs<;>try cases hs
  rename_i g s' hg hs';rw[ZZ] at hg;obtain⟨o,ho,hd⟩:=hg;obtain⟨d1,L1,hv,h⟩:=h;rw[wpOps_cons];have hOk1:=hv.2 F W hOk;refine GP ho hd hOk1 (fun k hk=>hOk1.2 k (by simp at hk;simp[hk])) (fun B hB=>⟨F,by rw[←Abs hB];exact List.Perm.refl _⟩) h ?_ ?_
  ·intro ρ' d' L' W' h1 h2 h3 ⟨d2,L2,hv2,h4⟩;exact IQ l s' hs' ρ' d2 L2 W' h4 (hv2.2 F W' h1) (hle.trans ((hv.1.trans h2).trans hv2.1)) (hk.trans h3)
  ·intro c d' L' W' h1 h2 h3 h4;exact⟨rfl,d',L',h1,hle.trans (hv.1.trans h2),hk.trans h3,h4⟩
section
variable {P:Program}{ops:Array Oper}{Q:Exit→Act→World→Prop}
def Closed(ops:Array Oper)(listed:Array Bool):Prop:=∀(j:Nat) (oj:Oper),ops[j]?=some oj→listed.getD j false=true→∀e∈oj.after,Region.binds .any e=true→listed.getD e.on false=true
def Closed.set{listed}(h:Closed ops listed){i:Nat}(hi:i∈Region.ready .any ops listed):Closed ops (listed.setIfInBounds i true):=by
 intro j oj hj hl e he hb;by_cases hij:i=j
 ·subst hij;obtain⟨-,o,ho,hall⟩:=mem_ready.1 hi;rw[hj] at ho;cases ho;exact getD_set_true (hall e he hb)
 ·rw[getD_set_ne false hij] at hl;exact getD_set_true (h j oj hj hl e he hb)
def Pc{j x:Nat}(h:x∈LA ops j):∃oj,ops[j]?=some oj∧∃e∈oj.after,Region.binds .any e=true∧e.on=x:=by
 unfold LA at h;cases ho:ops[j]? with
 |none=>rw[ho] at h;simp at h
 |some o=>
  rw[ho] at h
  simp only[Aba,Option.getD_some,Abq,List.mem_filter] at h
  obtain⟨e,⟨h1,h2⟩,h3⟩:=h
  exact⟨o,rfl,e,by simpa using h1,h2,h3⟩
def JY{listed:Array Bool}(hc:Closed ops listed):∀(l m:List Nat),(∀x∈m,listed.getD x false=true)→∀x∈Q3 ops l m,listed.getD x false=true
 |[],m,h=>h
 |i::l,m,h=>by
  refine JY hc l _ (fun x hx=>?_);split at hx
  ·rename_i hm;rcases ZK.1 hx with hx|hx
   ·obtain⟨oj,h1,e,h2,h3,rfl⟩:=Pc hx;exact hc i oj h1 (h i (by simpa using hm)) e h2 h3
   ·exact h x hx
  ·exact h x hx
def PB{bs:List Bool}(h:HI ops bs=true){listed:Array Bool}(hc:Closed ops listed){i j:Nat}{oi oj:Oper}(hi:ops[i]?=some oi)(hj:ops[j]?=some oj)(bj:bs.getD j false=true)(bi:bs.getD i false=false)
  (hall:∀e∈oj.after,Region.binds .any e=true→listed.getD e.on false=true):listed.getD i false=true:=by
 have hil:=(Array.getElem?_eq_some_iff.1 hi).1
 have hjl:=(Array.getElem?_eq_some_iff.1 hj).1
 simp only[HI,Aad] at h
 rcases h with h|h
 ·simp only[NR,ZF,List.mem_range,Aad] at h
  have h1:=h j hjl
  rw[bj] at h1
  rcases h1 with h1|h1
  ·cases h1
  ·rcases h1 i hil with h2|h2
   ·rw[bi] at h2;cases h2
   ·rw[hj] at h2
    simp only[Option.any_some,waits] at h2
    obtain⟨e,he,hb⟩:=Array.any_eq_true'.1 h2
    simp only[Zz,beq_iff_eq] at hb
    have:=hall e he hb.1
    rwa [hb.2] at this
 ·simp only[ZF,List.mem_range,Aad,Xl] at h
  have h1:=h j hjl
  rw[bj] at h1
  rcases h1 with h1|h1
  ·cases h1
  ·rcases h1 i hil with h2|h2
   ·rw[bi] at h2;cases h2
   ·refine JY hc _ _ (fun x hx=>?_) i (by simpa [cover] using h2)
    obtain⟨o,ho,e,he,hb,rfl⟩:=Pc hx
    rw[hj] at ho;cases ho
    exact hall e he hb
def Cu(P:Program)(ops:Array Oper)(Q:Exit→Act→World→Prop)(S:Bool→World→Prop)(bs:List Bool):Nat→Array Bool→Act→World→Prop
 |0,listed,a,w=>Closed ops listed→Region.ready .any ops listed=[]∧Q .normal a w
 |k+1,listed,a,w=>Closed ops listed→(Region.ready .any ops listed=[]→Q .normal a w)∧
  ∀i∈Region.ready .any ops listed,wpOp P ops Q i (fun a' w'=>S (bs.getD i false) w'∧Cu P ops Q S bs k (listed.setIfInBounds i true) a' w') a w
def Cu.any{S:Bool→World→Prop}{bs:List Bool}:∀(k:Nat) (listed:Array Bool) (a:Act) (w:World),Closed ops listed→Cu P ops Q S bs k listed a w→wpAny P .any ops Q k listed a w
 |0,_,_,_,c,h=>h c
 |k+1,_,_,_,c,h=>⟨(h c).1,fun i hi=>wpOp_mono (fun a' w' h'=>Cu.any k _ a' w' (c.set hi) h'.2) ((h c).2 i hi)⟩
def Cu.mono{S S':Bool→World→Prop}{bs:List Bool}(hs:∀b w,S' b w→S b w):∀(k:Nat) (listed:Array Bool) (a:Act) (w:World),Cu P ops Q S' bs k listed a w→Cu P ops Q S bs k listed a w
 |0,_,_,_,h=>h
 |k+1,_,_,_,h=>fun c=>⟨(h c).1,fun i hi=>wpOp_mono (fun a' w' h'=>⟨hs _ _ h'.1,Cu.mono hs k _ a' w' h'.2⟩) ((h c).2 i hi)⟩
def Cu.done{S:Bool→World→Prop}{bs:List Bool}{listed}{a:Act}{w}(hr:Region.ready .any ops listed=[])(h:Q .normal a w):∀k,Cu P ops Q S bs k listed a w
 |0=>fun _=>⟨hr,h⟩
 |_+1=>fun _=>⟨fun _=>h,by rw[hr];simp⟩
def Cu.first{S:Bool→World→Prop}{bs:List Bool}{i:Nat}{oi:Oper}(hi:ops[i]?=some oi)(hsel:∀(j:Nat) (o:Oper) cs b,ops[j]?=some o→o.op≠.select cs b)
  (hQ:∀c a w,Q (.panic c) (a.put oi.dst v) w→Q (.panic c) a w) (hlast:HI ops bs=true) (hS:∀w,S false w→S true w):
  ∀(k:Nat) (listed:Array Bool) (a:Act) (w:World),
   (∀j oj,ops[j]?=some oj→j≠i→listed.getD j true=false→(∀e∈oj.after,Region.binds .any e=true→e.on≠i)→oi.apart ops oj=true)→
   i∈Region.ready .any ops listed→YieldsIf P ops (S (bs.getD i false)) oi v a→S (bs.getD i false) w→
   Cu P ops Q S bs k (listed.setIfInBounds i true) (a.put oi.dst v) w→Cu P ops Q S bs (k+1) listed a w:=by
 intro k
 induction k with
 |zero=>
  intro listed a w _ hr hy hSw H hc
  refine⟨fun h=>(by rw[h] at hr;cases hr),fun j hj=>?_⟩
  by_cases hji:j=i
  ·subst hji;exact hy.wpOp hi hSw ⟨hSw,H⟩
  ·have:=ready_mono hj hji
   rw[(H (hc.set hr)).1] at this
   cases this
 |succ k ih=>
  intro listed a w hfree hr hy hSw H hc
  refine⟨fun h=>(by rw[h] at hr;cases hr),fun j hj=>?_⟩
  by_cases hji:j=i
  ·subst hji;exact hy.wpOp hi hSw ⟨hSw,H⟩
  ·have h1:=(H (hc.set hr)).2 j (ready_mono hj hji)
   obtain⟨hjun,oj,hoj,hall⟩:=mem_ready.1 hj
   have hnot:∀e∈oj.after,Region.binds .any e=true→e.on≠i:=fun e he hb heq=>by
    have h1:=hall e he hb;have h0:=(mem_ready.1 hr).1;rw[heq] at h1;rcases Acb i listed.size with h'|h'
    ·simp[h'] at h0 h1;rw[h0] at h1;cases h1
    ·simp[Array.getElem?_eq_none h'] at h1
   have hSj:∀w',S (bs.getD j false) w'→S (bs.getD i false) w':=by
    intro w' hw';cases bi:bs.getD i false with
    |true=>cases bj:bs.getD j false with
     |true=>rw[bj] at hw';exact hw'
     |false=>rw[bj] at hw';exact hS _ hw'
    |false=>cases bj:bs.getD j false with
     |false=>rw[bj] at hw';exact hw'
     |true=>
      have h1:=PB hlast hc hi hoj bj bi hall
      have h0:=(mem_ready.1 hr).1
      rcases Acb i listed.size with h'|h'
      ·simp[h'] at h0 h1;rw[h0] at h1;cases h1
      ·simp[Array.getElem?_eq_none h'] at h1
   have h2:=wpOp_putIf hoj (hfree j oj hoj hji hjun hnot) (fun cs b=>hsel i oi cs b hi) (fun cs b=>hsel j oj cs b hoj) hQ hy h1
   have hfree':∀k ok,ops[k]?=some ok→k≠i→(listed.setIfInBounds j true).getD k true=false→
     (∀e∈ok.after,Region.binds .any e=true→e.on≠i)→oi.apart ops ok=true:=fun k ok hk hki hun hno=>by
    refine hfree k ok hk hki ?_ hno
    by_cases hjk:j=k
    ·subst hjk;exact hjun
    ·rw[getD_set_ne true hjk] at hun;exact hun
   refine wpOp_mono (fun a' w' h3=>⟨h3.2.1,ih (listed.setIfInBounds j true) a' w' hfree' (ready_mono hr (Ne.symm hji)) h3.1 (hSj _ h3.2.1) ?_⟩) h2
   rw[Array.setIfInBounds_comm _ _ hji]
   exact h3.2.2
end
def St(past:Bool)(d:Ag)(Ls F:List Ag)(b:Bool)(w:World):Prop:=Ok (d::F) w∧(b=false→past=false∧Ok (d::(Ls++F)) w)
def St.le{past:Bool}{d' Ls F}{b:Bool}{w}(h:St past d Ls F b w)(hl:Le d' d):St past d' Ls F b w:=
 ⟨h.1.le hl,fun e=>⟨(h.2 e).1,(h.2 e).2.le hl⟩⟩
def Hi(l:Array Bool)(i j:Nat):(l.setIfInBounds i true)[j]?=if i=j then(l[j]?).map (fun _=>true) else l[j]?:=by
 rw[Array.getElem?_setIfInBounds];by_cases e:i=j
 ·subst e;rw[if_pos rfl,if_pos rfl];rcases Acb i l.size with h|h
  ·rw[if_pos h];simp[h]
  ·rw[if_neg (by omega)];simp[h]
 ·rw[if_neg e,if_neg e]
def BY:∀(xs:List Nat) (l:Array Bool) (j:Nat),(marked l xs)[j]?=if j∈xs then(l[j]?).map (fun _=>true) else l[j]?
 |[],l,j=>by simp[marked]
 |x::xs,l,j=>by
  have:=BY xs (l.setIfInBounds x true) j;show(marked (l.setIfInBounds x true) xs)[j]?=_;rw[this,Hi];by_cases h1:j∈xs<;>by_cases h2:x=j<;>simp[h1,h2,eq_comm]
def CX(xs:List Nat)(l:Array Bool)(i:Nat):marked (l.setIfInBounds i true) xs=(marked l xs).setIfInBounds i true:=by
 apply Array.ext_getElem?;intro j;rw[Hi,BY,BY,Hi];by_cases h1:j∈xs<;>by_cases h2:i=j<;>simp[h1,h2]
def C9{xs:List Nat}{i:Nat}(h:i∈xs)(l:Array Bool):marked (l.setIfInBounds i true) xs=marked l xs:=by
 apply Array.ext_getElem?;intro j;rw[BY,BY,Hi];by_cases h2:i=j
 ·subst h2;rw[if_pos h,if_pos h,if_pos rfl];cases l[i]?<;>simp
 ·rw[if_neg h2]
def Cy{l:Array Bool}{i:Nat}:l.getD i true=false↔l[i]?=some false:=by
 rw[Array.getD_eq_getD_getElem?];cases l[i]?<;>simp
def Na{l:Array Bool}{i:Nat}:l.getD i false=true↔l[i]?=some true:=by
 rw[Array.getD_eq_getD_getElem?];cases l[i]?<;>simp
def EG{ops:Array Oper}{bs:List Bool}{la lb:List Nat}(h:Hj ops bs la lb=true):(∀i∈la,bs.getD i false=false)∧(∀i∈lb,bs.getD i false=false)∧(∀i∈la,i∉lb)∧
  (∀i∈la,∀o,ops[i]?=some o→∀e∈o.after,Region.binds .any e=true→e.on∉lb)∧(∀i∈lb,∀o,ops[i]?=some o→∀e∈o.after,Region.binds .any e=true→e.on∉la):=by
 simp only[Hj,Zz,ZF,Aau,decide_eq_true_eq] at h
 obtain⟨⟨⟨h1,h2⟩,h3⟩,h4⟩:=h
 have key:∀{la lb:List Nat},(∀i∈la,(ops[i]?.all fun o=>lb.all fun j=> !waits o j)=true)→∀i∈la,∀o,ops[i]?=some o→∀e∈o.after,Region.binds .any e=true→e.on∉lb:=by
  intro la lb h i hi o ho e he hb hm;have h5:=h i hi;rw[ho] at h5;simp only[Option.all_some,ZF,Aau] at h5;have h6:=h5 e.on hm;have:waits o e.on=true:=by
   unfold waits;rw[Array.any_eq_true'];exact⟨e,he,by simp[hb]⟩
  rw[this] at h6;cases h6
 exact⟨fun i hi=>(h1 i (by simp[hi])).1,fun i hi=>(h1 i (by simp[hi])).1,fun i hi hm=>by have:=h2 i hi;simp[hm] at this,key h3,key h4⟩
def Off.trans{X:List Nat}{a b c}(h:Off X a b)(k:Off X b c):Off X a c:=fun t ht=>(k t ht).trans (h t ht)
def Off.GM{X:List Nat}{ρ}{dst:Option Nat}(h:∀t,dst=some t→t∈X)(v:Value):Off X ρ (Gk.put ρ dst v):=by
 cases dst with
 |none=>exact fun _ _=>rfl
 |some d=>
  intro t ht
  show upd ρ d v t=ρ t
  unfold upd
  cases e:Nat.beq t d with
  |true=>rw[Abp e] at ht;exact absurd (h d rfl) ht
  |false=>rfl
def Dm(A B X:List Ag):(A++(B++X)).Perm (B++(A++X)):=by
 rw[←Zy,←Zy];exact(Aaj).append_right X
def Vs.front{d1 L L1}(Ls:List Ag)(h:Vs d L d1 L1):Vs d (Ls++L) d1 (Ls++L1):=
 ⟨h.1,fun F W x=>(h.2 (Ls++F) W (x.perm (Z1 d (by rw[Zy];exact Gk.Dm Ls L F)))).perm (Z1 d1 (by rw[Zy];exact Gk.Dm L1 Ls F))⟩
def Vs.behind{d1 L L1}(M:List Ag)(h:Vs d L d1 L1):Vs d (L++M) d1 (L1++M):=
 ⟨h.1,fun F W x=>by rw[Zy];exact h.2 (M++F) W (by rw[←Zy];exact x)⟩
def Vs.two{e1 e2 Ls L1 L2 M1 M2}(h1:Vs d (Ls++L1) e1 (Ls++M1))(h2:Vs d (Ls++L2) e2 (Ls++M2)):Vs d (Ls++(L1++L2)) (Gk.join e2 e1) (Ls++(M1++M2)):=by
 refine⟨h1.1.trans (Le.BZ _ _),fun F W x=>?_⟩
 have x1:Ok (d::((Ls++L1)++(L2++F))) W:=by simpa [Zy] using x
 have x2:=h1.2 (L2++F) W x1;have x3:Ok (e1::((Ls++L2)++(M1++F))) W:=x2.perm (Z1 e1 (by
  rw[Zy,Zy];exact(Gk.Dm M1 L2 F).append_left Ls))
 have x4:=(h2.up h1.1).2 (M1++F) W x3;exact x4.perm (Z1 _ (by
  rw[Zy,Zy,Zy];exact(Gk.Dm M2 M1 F).append_left Ls))
section
variable {ops:Array Oper}
def MC{l:Array Bool}(xs:List Nat)(i:Nat)(hx:i∉xs)(hi:i∈Region.ready .any ops l):i∈Region.ready .any ops (marked l xs):=by
 obtain⟨e1,o,e2,e3⟩:=mem_ready.1 hi;refine mem_ready.2 ⟨?_,o,e2,fun e he hb=>?_⟩
 ·rw[Cy] at e1⊢;rw[BY,if_neg hx];exact e1
 ·have:=e3 e he hb;rw[Na] at this⊢;rw[BY,this];split<;>rfl
def Fv{l}{xs ys:List Nat}(hd:∀i∈xs,i∉ys)(hw:∀i∈xs,∀o,ops[i]?=some o→∀e∈o.after,Region.binds .any e=true→e.on∉ys){i:Nat}(hx:i∈xs)(hi:i∈Region.ready .any ops (marked l ys)):i∈Region.ready .any ops l:=by
 obtain⟨e1,o,e2,e3⟩:=mem_ready.1 hi;refine mem_ready.2 ⟨?_,o,e2,fun e he hb=>?_⟩
 ·rw[Cy] at e1⊢;rw[BY,if_neg (hd i hx)] at e1;exact e1
 ·have h3:=e3 e he hb;rw[Na] at h3⊢;rw[BY,if_neg (hw i hx o e2 e he hb)] at h3;exact h3
def MY(xs:List Nat)(l:Array Bool)(i:Nat)(hi:i∈xs):(marked l xs)[i]?≠some false:=by
 intro h;rw[BY,if_pos hi] at h;cases e:l[i]?<;>rw[e] at h<;>simp at h
def IZ{l tgt}{xa xb:List Nat}(hdis:∀i∈xa,i∉xb)(ea:marked l xb=tgt)(eb:marked l xa=tgt):l=tgt:=by
 apply Array.ext_getElem?;intro j;by_cases hj:j∈xa
 ·rw[←ea,BY,if_neg (hdis j hj)]
 ·rw[←eb,BY,if_neg hj]
def Pe{bs:List Bool}{xa xb ha hb:List Nat}{fa fb:Bool}{l l0 l1 tgt:Array Bool}(hap:Hj ops bs xa xb=true)(ht1:tgt=marked l0 xa)(ht2:tgt=marked l1 xb)
  (ina:∀i∈ha,i∈xa) (inb:∀i∈hb,i∈xb) (ra:fa=false→∀i,i∈Region.ready .any ops (marked l xb)↔i∈ha) (rb:fb=false→∀i,i∈Region.ready .any ops (marked l xa)↔i∈hb)
  (ea:fa=true→marked l xb=tgt) (eb:fb=true→marked l xa=tgt) (na:fa=true→ha=[]) (nb:fb=true→hb=[]) (hne:¬(fa=true∧fb=true)) (i:Nat):i∈Region.ready .any ops l↔i∈ha∨i∈hb:=by
 obtain⟨hb1,hb2,hdis,hw1,hw2⟩:=EG hap
 constructor
 ·intro hi
  by_cases hil:i∈xa
  ·have h3:=MC xb i (hdis i hil) hi
   cases h:fa with
   |true=>
    have h4:=Cy.1 (mem_ready.1 h3).1
    rw[ea h,ht1] at h4
    exact absurd h4 (MY xa l0 i hil)
   |false=>exact .inl ((ra h i).1 h3)
  ·have h3:=MC xa i hil hi
   cases h:fb with
   |true=>
    have h4:=Cy.1 (mem_ready.1 h3).1
    rw[eb h] at h4
    have hilb:i∉xb:=fun hm=>by rw[ht2] at h4;exact MY xb l1 i hm h4
    have hne':fa=false:=by cases e:fa with|true=>exact absurd ⟨e,h⟩ hne|false=>rfl
    exact absurd (ina i ((ra hne' i).1 (MC xb i hilb hi))) hil
   |false=>exact .inr ((rb h i).1 h3)
 ·rintro(hi|hi)
  ·have h:fa=false:=by cases e:fa with|true=>rw[na e] at hi;cases hi|false=>rfl
   exact Fv hdis hw1 (ina i hi) ((ra h i).2 hi)
  ·have h:fb=false:=by cases e:fb with|true=>rw[nb e] at hi;cases hi|false=>rfl
   exact Fv (fun i hi hm=>hdis i hm hi) hw2 (inb i hi) ((rb h i).2 hi)
end
def Il:∀(s:SI),s.fin=true→s.Cp=[]:=by
 intro s;induction s with
 |done=>intro _;rfl
 |op tk j s=>intro h;cases h
 |alt j s t=>intro h;cases h
 |bar s=>intro h;cases h
 |par xa xb a b s iha ihb ihs=>
  intro h
  simp only[SI.fin,Zz] at h
  simp only[SI.Cp,h.1.1,h.1.2,Bool.and_self,if_true]
  exact ihs h.2
def O2{la lb:List Nat}{a b s:SI}(h:(SI.par la lb a b s).front=none):a.front=none∧b.front=none∧(a.fin=true∧b.fin=true→s.front=none):=by
 simp only[SI.front] at h;cases ha:a.front with
 |some i=>rw[ha] at h;cases h
 |none=>
  rw[ha] at h
  cases hb:b.front with
  |some i=>rw[hb] at h;cases h
  |none=>
   rw[hb] at h
   exact⟨rfl,rfl,fun⟨h1,h2⟩=>by simpa [h1,h2] using h⟩
section
variable {ops:Array Oper}{q:Nat→Bool}{bs:List Bool}
def Vq{la:List Nat}{tgt l lm:Array Bool}{s:SI}(hc:B7 ops q bs la tgt false l lm s=true):s.front=none:=by
 cases s with
 |done=>rfl
 |op tk j s=>
  cases tk with
  |true=>simp[B7] at hc
  |false=>rfl
 |alt j s t=>rfl
 |bar s=>rfl
 |par xa xb a b s=>simp[B7] at hc
def E8:∀(s:SI) {la:List Nat}{tgt l lm:Array Bool}{top:Bool},B7 ops q bs la tgt top l lm s=true→∀i∈s.Cp,i∈la:=by
 intro s;induction s with
 |done=>intro la tgt l lm top _ i hi;cases hi
 |op tk j s ih=>
  intro la tgt l lm top hc i hi
  simp only[SI.Cp,Z9] at hi
  subst hi
  cases tk with
  |true=>simp only[B7,Zz] at hc;simpa using hc.1.2
  |false=>simp only[B7,Zz] at hc;simpa using hc.1.2
 |alt j s t ih1 ih2=>
  intro la tgt l lm top hc i hi
  simp only[B7,Zz] at hc
  rcases ZR.1 hi with rfl|hi
  ·simpa using hc.1.1.2
  ·exact ih2 hc.2 i hi
 |bar s ih=>intro la tgt l lm top hc;cases hc
 |par xa xb a b s iha ihb ihs=>
  intro la tgt l lm top hc i hi
  simp only[B7,Zz,ZF] at hc
  obtain⟨⟨⟨⟨⟨_,hin⟩,_⟩,hca⟩,hcb⟩,hcs⟩:=hc
  simp only[SI.Cp] at hi
  split at hi
  ·exact ihs hcs i hi
  ·rcases ZK.1 hi with hi|hi
   ·simpa using hin i (by simp[iha hca i hi])
   ·simpa using hin i (by simp[ihb hcb i hi])
def Ee:∀(s:SI) {la:List Nat}{tgt l lm:Array Bool},B7 ops q bs la tgt true l lm s=true→s.fin=true→l=tgt:=by
 intro s;induction s with
 |done=>intro la tgt l lm hc _;simpa [B7] using hc
 |op tk j s=>intro la tgt l lm hc h;cases h
 |alt j s t=>intro la tgt l lm hc h;cases h
 |bar s=>intro la tgt l lm hc h;cases h
 |par xa xb a b s iha ihb ihs=>
  intro la tgt l lm hc h
  simp only[B7,Zz,ZF,beq_iff_eq] at hc
  obtain⟨⟨⟨⟨⟨⟨_,hap⟩,hin⟩,hmm⟩,hca⟩,hcb⟩,hcs⟩:=hc
  simp only[SI.fin,Zz] at h
  exact(IZ (EG hap).2.2.1 (iha hca h.1.1) (ihb hcb h.1.2)).trans (ihs hcs h.2)
def E1:∀(s:SI) {la:List Nat}{tgt l lm:Array Bool},B7 ops q bs la tgt true l lm s=true→s.front=none→s.fin=false→(∀i,i∈Region.ready .any ops l↔i∈s.Cp)∧s.Cp≠[]∧1≤s.steps:=by
 intro s;induction s with
 |done=>intro la tgt l lm hc _ h;cases h
 |op tk j s=>
  intro la tgt l lm hc hf _
  cases tk with
  |true=>cases hf
  |false=>
   simp only[B7,Zz,Bool.not_true,Bool.false_or,beq_iff_eq] at hc
   exact⟨fun i=>by rw[hc.1.1];rfl,by simp[SI.Cp],by simp only[SI.steps];omega⟩
 |alt j s t=>
  intro la tgt l lm hc _ _
  simp only[B7,Zz,Bool.not_true,Bool.false_or,beq_iff_eq] at hc
  exact⟨fun i=>by rw[hc.1.1.1];rfl,by simp[SI.Cp],by simp only[SI.steps];omega⟩
 |bar s=>intro la tgt l lm hc;cases hc
 |par xa xb a b s iha ihb ihs=>
  intro la tgt l lm hc hf h
  simp only[B7,Zz,ZF,beq_iff_eq] at hc
  obtain⟨⟨⟨⟨⟨⟨_,hap⟩,hin⟩,hmm⟩,hca⟩,hcb⟩,hcs⟩:=hc
  obtain⟨fa,fb,fs⟩:=O2 hf
  by_cases h0:a.fin=true∧b.fin=true
  ·have e:=IZ (EG hap).2.2.1 (Ee a hca h0.1) (Ee b hcb h0.2)
   rw[←e] at hcs
   have hs:s.fin=false:=by simpa [SI.fin,h0.1,h0.2] using h
   obtain⟨h1,h2,h3⟩:=ihs hcs (fs h0) hs
   simp only[SI.Cp,h0.1,h0.2,Bool.and_self,if_true,SI.steps]
   exact⟨h1,h2,by omega⟩
  ·have hh:(SI.par xa xb a b s).Cp=a.Cp++b.Cp:=by
    simp only[SI.Cp];rw[if_neg (by simpa using h0)]
   rw[hh]
   refine⟨fun i=>?_,?_,?_⟩
   ·rw[ZK]
    exact Pe hap rfl hmm (E8 a hca) (E8 b hcb) (fun e=>(iha hca fa e).1) (fun e=>(ihb hcb fb e).1) (Ee a hca) (Ee b hcb) (Il a) (Il b) h0 i
   ·cases ea:a.fin with
    |false=>have:=(iha hca fa ea).2.1;simp[this]
    |true=>cases eb:b.fin with
     |false=>have:=(ihb hcb fb eb).2.1;simp[this]
     |true=>exact absurd ⟨ea,eb⟩ h0
   ·simp only[SI.steps]
    cases ea:a.fin with
    |false=>have:=(iha hca fa ea).2.2;omega
    |true=>cases eb:b.fin with
     |false=>have:=(ihb hcb fb eb).2.2;omega
     |true=>exact absurd ⟨ea,eb⟩ h0
end
def Hk{P:Program}{n:Nat}{ops:Array Oper}{Ls:List Ag}:∀(s:SI) {Qn:Env→A0}{g:GS}{ρ:Env}{d:Ag}{L:List Ag},s.fin=true→CB P n ops s=some g→
  gws P Ce Qn g Ls ρ d L→∃d1 L1,Vs d (Ls++L) d1 L1∧Qn ρ d1 L1:=by
 intro s
 induction s with
 |done=>
  intro Qn g ρ d L _ hs h
  simp[CB] at hs;subst hs
  exact h
 |op tk j s=>intro Qn g ρ d L h;cases h
 |alt j s t=>intro Qn g ρ d L h;cases h
 |bar s=>intro Qn g ρ d L h;cases h
 |par xa xb a b s iha ihb ihs=>
  intro Qn g ρ d L hh hs h
  simp only[SI.fin,Zz] at hh
  simp only[CB] at hs
  split at hs<;>try cases hs
  rename_i a' b' s' ha hb hs'
  split at hs<;>try cases hs
  obtain⟨Ra,Rb,d1,L1,L2,hv,sa,sb,h1,h2,h3⟩:=h
  obtain⟨e1,N1,v1,M1,rfl,r1⟩:=iha hh.1.1 ha h1
  obtain⟨e2,N2,v2,M2,rfl,r2⟩:=ihb hh.1.2 hb h2
  have v3:=Vs.two v1 v2
  have h4:=h3 ρ (Gk.join e2 e1) M1 M2 v3.1 (fun _ _=>rfl) (sa _ _ _ _ _ (fun _ _=>rfl) (Le.BZ _ _) r1) (sb _ _ _ _ _ (fun _ _=>rfl) (Le.BD _ _) r2)
  obtain⟨d3,L3,v4,q⟩:=ihs hh.2 hs' h4
  exact⟨d3,L3,((hv.front Ls).trans v3).trans v4,q⟩
def Sb(l l':Array Bool):Prop:=∀j,l'.getD j true=false→l.getD j true=false
theorem Sb.set{l l':Array Bool}(h:Sb l l')(i:Nat):Sb (l.setIfInBounds i true) (l'.setIfInBounds i true):=by
 intro j hj;have h0:=h j;rw[Cy] at hj h0⊢;rw[Hi] at hj⊢;split at hj
 ·exfalso;cases e:l'[j]?<;>rw[e] at hj<;>simp at hj
 ·rename_i hne;rw[if_neg hne];exact Cy.1 (h0 hj)
theorem Sb.self(l:Array Bool)(i:Nat):Sb l (l.setIfInBounds i true):=by
 intro j hj;rw[Cy] at hj⊢;rw[Hi] at hj;split at hj
 ·exfalso;cases e:l[j]?<;>rw[e] at hj<;>simp at hj
 ·exact hj
def Sb.trans{a b c}(h:Sb a b)(k:Sb b c):Sb a c:=fun j hj=>h j (k j hj)
theorem LP{l lm lx:Array Bool}{la xa xb:List Nat}(hin:∀i∈xa++xb,i∈la)(hsb:Sb lm lx)(hcov:∀x∈la,l.getD x true=true→lx.getD x true=true)(el:l=Gk.marked (Gk.marked l xb) xa):Sb (Gk.marked (Gk.marked lm xb) xa) lx:=by
 have done:∀j,j∈xa++xb→l.getD j true=true:=by
  intro j hj;rw[el];cases e:(Gk.marked (Gk.marked l xb) xa).getD j true with
  |true=>rfl
  |false=>
   rw[Cy,BY,BY] at e
   rcases ZK.1 hj with h|h
   ·rw[if_pos h] at e
    split at e<;>cases e2:l[j]?<;>rw[e2] at e<;>simp at e
   ·rw[if_pos h] at e
    split at e<;>cases e2:l[j]?<;>rw[e2] at e<;>simp at e
 intro j hj;have h0:=hsb j hj;have hn:j∉xa++xb:=fun hm=>by rw[hcov j (hin j hm) (done j hm)] at hj;cases hj
 rw[ZK,not_or] at hn;rw[Cy] at h0⊢;rw[BY,if_neg hn.1,BY,if_neg hn.2];exact h0
def Sb.marked{l l':Array Bool}(h:Sb l l')(xs:List Nat):Sb (Gk.marked l xs) (Gk.marked l' xs):=by
 intro j hj;have h0:=h j;rw[Cy] at hj h0⊢;rw[BY] at hj⊢;split at hj
 ·exfalso;cases e:l'[j]?<;>rw[e] at hj<;>simp at hj
 ·rename_i hne;rw[if_neg hne];exact Cy.1 (h0 hj)
def R7{ops l l'}(h:Sb l l'){i:Nat}(hf:Region.free .any ops l i=true):Region.free .any ops l' i=true:=by
 unfold Region.free at hf⊢;split at hf
 ·cases hf
 ·simp only[ZF] at hf⊢;intro j hj;have:=hf j hj;cases e:l'.getD j true with
  |true=>simp
  |false=>rw[h j e] at this;simpa using this
def C0{ops:Array Oper}{q:Nat→Bool}{bs:List Bool}:∀(s:SI) {la:List Nat}{tgt l lm lm':Array Bool}{top:Bool},Sb lm lm'→B7 ops q bs la tgt top l lm s=true→B7 ops q bs la tgt top l lm' s=true:=by
 intro s;induction s with
 |done=>intro la tgt l lm lm' top _ h;exact h
 |op tk j s ih=>
  intro la tgt l lm lm' top hs h
  cases tk with
  |true=>
   simp only[B7,Zz] at h⊢
   obtain⟨⟨⟨⟨⟨h1,h2⟩,h3⟩,h4⟩,h5⟩,h6⟩:=h
   exact⟨⟨⟨⟨⟨h1,h2⟩,R7 hs h3⟩,h4⟩,h5⟩,ih (hs.set j) h6⟩
  |false=>
   simp only[B7,Zz] at h⊢
   exact⟨h.1,ih (hs.set j) h.2⟩
 |alt j s t ih1 ih2=>
  intro la tgt l lm lm' top hs h
  simp only[B7,Zz] at h⊢
  exact⟨⟨h.1.1,ih1 (hs.set j) h.1.2⟩,ih2 hs h.2⟩
 |bar s ih=>intro la tgt l lm lm' top _ h;cases h
 |par xa xb a b s iha ihb ihs=>
  intro la tgt l lm lm' top hs h
  simp only[B7,Zz] at h⊢
  obtain⟨⟨⟨⟨⟨⟨h1,h2⟩,h3⟩,h4⟩,h5⟩,h6⟩,h7⟩:=h
  exact⟨⟨⟨⟨⟨⟨h1,h2⟩,h3⟩,h4⟩,iha hs h5⟩,ihb hs h6⟩,ihs ((hs.marked xb).marked xa) h7⟩
def Vn{P:Program}{ρ:Env}{d:Ag}{Ls L M:List Ag}{K K':Env→A0}{g:GOp}(hq:g.i.quiet=true)(hK:∀v,K (put ρ g.dst v) d L→K' (put ρ g.dst v) d (L++M))(h:gop P Ce g ρ d Ls L K):gop P Ce g ρ d Ls (L++M) K':=by
 obtain⟨dst,guard,i⟩:=g;have run:gi P Ce ρ d Ls L (fun v d' L'=>K (put ρ dst v) d' L') i→gi P Ce ρ d Ls (L++M) (fun v d' L'=>K' (put ρ dst v) d' L') i:=fun h=>by
  rw[DU hq] at h⊢;obtain⟨v,h1,h2⟩:=h;exact⟨v,h1,hK v h2⟩
 cases guard with
 |none=>exact run h
 |some p=>
  obtain⟨t,want⟩:=p
  rcases h with ⟨b,hb,h1,h2⟩|⟨hb,h2⟩
  ·exact .inl ⟨b,hb,fun e=>run (h1 e),fun e=>hK _ (h2 e)⟩
  ·exact .inr ⟨hb,hK _ h2⟩
def Vl{P:Program}{ρ:Env}{d:Ag}{Ls L M:List Ag}{K K':Env→A0}{g:GOp}(hq:g.i.quiet=true)(hK:∀v,K (put ρ g.dst v) d L→K' (put ρ g.dst v) d (M++L))(h:gop P Ce g ρ d Ls L K):gop P Ce g ρ d Ls (M++L) K':=by
 obtain⟨dst,guard,i⟩:=g;have run:gi P Ce ρ d Ls L (fun v d' L'=>K (put ρ dst v) d' L') i→gi P Ce ρ d Ls (M++L) (fun v d' L'=>K' (put ρ dst v) d' L') i:=fun h=>by
  rw[DU hq] at h⊢;obtain⟨v,h1,h2⟩:=h;exact⟨v,h1,hK v h2⟩
 cases guard with
 |none=>exact run h
 |some p=>
  obtain⟨t,want⟩:=p
  rcases h with ⟨b,hb,h1,h2⟩|⟨hb,h2⟩
  ·exact .inl ⟨b,hb,fun e=>run (h1 e),fun e=>hK _ (h2 e)⟩
  ·exact .inr ⟨hb,hK _ h2⟩
def UA{P:Program}{n:Nat}{ops:Array Oper}{q:Nat→Bool}{bs:List Bool}{Ls:List Ag}:∀(s:SI) {la:List Nat}{tgt:Array Bool}{Qn:Env→A0}(top:Bool) (l lm lx:Array Bool) (g:GS) (ρ:Env) (d:Ag) (L:List Ag),Sb lm lx→(∀x∈la,l.getD x true=true→lx.getD x true=true)→s.front=none→B7 ops q bs la tgt top l lm s=true→CB P n ops s=some g→g.plain=true→
  gws P Ce Qn g Ls ρ d L→∀i∈s.Cp,∃o op gs s',ops[i]?=some o∧GD P n ops o=some op∧CB P n ops s'=some gs∧B7 ops q bs la tgt true (l.setIfInBounds i true) (lx.setIfInBounds i true) s'=true∧s'.steps+1≤s.steps∧gs.plain=true∧(∀t∈gs.rds,t∈g.rds)∧(∀t∈gs.Bu,t∈g.Bu)∧
   (∀t,op.dst=some t→t∈g.Bu)∧∃d1 La M,Vs d (Ls++L) d1 (Ls++(La++M))∧gop P Ce op ρ d1 (Ls++La) La (fun ρ' d' L'=>∃d2 L2,Vs d' (L'++M) d2 L2∧gws P Ce Qn gs Ls ρ' d2 L2):=by
 intro s
 have one:∀{Qn:Env→A0}{op:GOp}{gs:GS}{ρ:Env}{d:Ag}{L:List Ag},(∃d1 L1,Vs d L d1 L1∧gop P (fun c d' L'=>Ce c d' (Ls++L')) op ρ d1 (Ls++L1) L1 (fun ρ' d' L'=>∃d2 L2,Vs d' L' d2 L2∧gws P Ce Qn gs Ls ρ' d2 L2))→
   ∃d1 La M,Vs d (Ls++L) d1 (Ls++(La++M))∧gop P Ce op ρ d1 (Ls++La) La (fun ρ' d' L'=>∃d2 L2,Vs d' (L'++M) d2 L2∧gws P Ce Qn gs Ls ρ' d2 L2):=by
  intro Qn op gs ρ d L ⟨d1,L1,hv,h⟩
  exact⟨d1,L1,[],by rw[ZW];exact hv.front Ls,H7 (fun ρ d L h=>by rw[ZW];exact h) h⟩
 induction s with
 |done=>intro la tgt Qn top l lm lx g ρ d L _ _ _ _ _ _ _ i hi;cases hi
 |op tk j s ih=>
  intro la tgt Qn top l lm lx g ρ d L hsb hcov hf hc hs hp h i hi
  simp only[SI.Cp,Z9] at hi
  subst hi
  cases tk with
  |true=>cases hf
  |false=>
  simp only[B7,Zz] at hc
  obtain⟨⟨_,hla⟩,hc'⟩:=hc
  simp only[CB] at hs
  split at hs<;>try cases hs
  rename_i g' s' hg hs'
  rw[ZZ] at hg
  obtain⟨o,ho,hd⟩:=hg
  simp only[GS.plain] at hp
  exact⟨o,g',s',s,ho,hd,hs',C0 s (hsb.set i) hc',by simp[SI.steps],hp,fun t ht=>by simp[GS.rds,ht],fun t ht=>by simp[GS.Bu,ht],fun t ht=>by simp[GS.Bu,ht],one h⟩
 |alt j s t ih1 ih2=>
  intro la tgt Qn top l lm lx g ρ d L hsb hcov hf hc hs hp h i hi
  simp only[B7,Zz] at hc
  obtain⟨⟨⟨_,hla⟩,hc1⟩,hc2⟩:=hc
  simp only[CB] at hs
  split at hs<;>try cases hs
  rename_i g' s' t' hg hs' ht'
  rw[ZZ] at hg
  obtain⟨o,ho,hd⟩:=hg
  simp only[GS.plain,Zz] at hp
  rcases ZR.1 hi with rfl|hi
  ·exact⟨o,g',s',s,ho,hd,hs',C0 s (hsb.set i) hc1,by simp only[SI.steps];omega,hp.1,fun t ht=>by simp[GS.rds,ht],fun t ht=>by simp[GS.Bu,ht],fun t ht=>by simp[GS.Bu,ht],one h.1⟩
  ·obtain⟨o,op,gs,s'',q1,q2,q3,q4,q5,q6,q7,q8,q9,q10⟩:=ih2 false l lm lx t' ρ d L hsb hcov (Vq hc2) hc2 ht' hp.2 h.2 i hi
   exact⟨o,op,gs,s'',q1,q2,q3,q4,by simp only[SI.steps];omega,q6,fun t ht=>by simp[GS.rds,q7 t ht],fun t ht=>by simp[GS.Bu,q8 t ht],fun t ht=>by simp[GS.Bu,q9 t ht],q10⟩
 |bar s ih=>intro la tgt Qn top l lm lx g ρ d L _ _ _ hc;cases hc
 |par xa xb a b s iha ihb ihs=>
  intro la tgt Qn top l lm lx g ρ d L hsb hcov hf hc hs hp h i hi
  have hcc:=hc
  simp only[B7,Zz,ZF,beq_iff_eq] at hc
  obtain⟨⟨⟨⟨⟨⟨htop,hap⟩,hin⟩,hmm⟩,hca⟩,hcb⟩,hcs⟩:=hc
  subst htop
  have hss:=hs
  simp only[CB] at hs
  split at hs<;>try cases hs
  rename_i a' b' s' ha hb hs'
  split at hs<;>try cases hs
  rename_i hsep
  simp only[Zz,ZF,Aau] at hsep
  obtain⟨⟨⟨hpa,hpb⟩,hs1⟩,hs2⟩:=hsep
  simp only[GS.plain,Zz] at hp
  have hs1':∀t∈a'.Bu,t∉b'.rds∧t∉b'.Bu:=fun t ht=>⟨fun hm=>by have:=(hs1 t ht).1;simp[hm] at this,fun hm=>by have:=(hs1 t ht).2;simp[hm] at this⟩
  have hs2':∀t∈b'.Bu,t∉a'.rds:=fun t ht hm=>by have:=hs2 t ht;simp[hm] at this
  obtain⟨hb1,hb2,hdis,hw1,hw2⟩:=EG hap
  obtain⟨ffa,ffb,ffs⟩:=O2 hf
  have cov:∀(xs ys:List Nat),(∀x∈xs,x∈xa++xb)→(∀x∈xs,x∉ys)→∀x∈xs,(marked l ys).getD x true=true→lx.getD x true=true:=by
   intro xs ys h1 h2 x hx h3;refine hcov x (by simpa using hin x (h1 x hx)) ?_;cases e:l.getD x true with
   |true=>rfl
   |false=>
    rw[Cy] at e
    have:(marked l ys).getD x true=false:=by rw[Cy,BY,if_neg (h2 x hx)];exact e
    rw[this] at h3;cases h3
  have cova:=cov xa xb (fun x hx=>by simp[hx]) hdis
  have covb:=cov xb xa (fun x hx=>by simp[hx]) (fun x hx hm=>hdis x hm hx)
  by_cases h0:a.fin=true∧b.fin=true
  ·simp only[SI.Cp,h0.1,h0.2,Bool.and_self,if_true] at hi
   obtain⟨Ra,Rb,d1,L1,L2,hv,sa,sb,h1,h2,h3⟩:=h
   obtain⟨e1,N1,v1,M1,rfl,r1⟩:=Hk a h0.1 ha h1
   obtain⟨e2,N2,v2,M2,rfl,r2⟩:=Hk b h0.2 hb h2
   have v3:=Vs.two v1 v2
   have h4:=h3 ρ (Gk.join e2 e1) M1 M2 v3.1 (fun _ _=>rfl) (sa _ _ _ _ _ (fun _ _=>rfl) (Le.BZ _ _) r1) (sb _ _ _ _ _ (fun _ _=>rfl) (Le.BD _ _) r2)
   have el:=IZ hdis (Ee a hca h0.1) (Ee b hcb h0.2)
   have hcs:=C0 s (LP (fun x hx=>by simpa using hin x hx) hsb hcov el) hcs
   rw[←el] at hcs
   obtain⟨o,op,gs,s'',q1,q2,q3,q4,q5,q6,q7,q8,q9,d4,La,M,q10,q11⟩:=ihs true l lx lx s' ρ _ _ (fun _ h=>h) hcov (ffs h0) hcs hs' hp.2 h4 i hi
   exact⟨o,op,gs,s'',q1,q2,q3,q4,by simp only[SI.steps];omega,q6,fun t ht=>by simp[GS.rds,q7 t ht],fun t ht=>by simp[GS.Bu,q8 t ht],fun t ht=>by simp[GS.Bu,q9 t ht],d4,La,M,((hv.front Ls).trans v3).trans q10,q11⟩
  ·have hh:(SI.par xa xb a b s).Cp=a.Cp++b.Cp:=by
    simp only[SI.Cp];rw[if_neg (by simpa using h0)]
   rw[hh] at hi
   obtain⟨Ra,Rb,d1,L1,L2,hv,sa,sb,h1,h2,h3⟩:=h
   rcases ZK.1 hi with hi|hi
   ·have hix:=E8 a hca i hi
    obtain⟨o,op,gs,sn,q1,q2,q3,q4,q5,q6,q7,q8,q9,d4,La,M,q10,q11⟩:=iha true (marked l xb) lm lx a' ρ d1 L1 hsb cova ffa hca ha hp.1.1 h1 i hi
    have e1:marked (marked (l.setIfInBounds i true) xb) xa=marked (marked l xb) xa:=by rw[CX,C9 hix]
    have e2:marked (l.setIfInBounds i true) xa=marked l xa:=C9 hix l
    refine⟨o,op,.par gs b' s',.par xa xb sn b s,q1,q2,?_,?_,by simp only[SI.steps];omega,?_,?_,?_,fun t ht=>by simp[GS.Bu,q9 t ht],d4,La,M++L2,?_,?_⟩
    ·simp only[CB,q3,hb,hs']
     rw[if_pos]
     simp only[Zz,ZF,Aau]
     exact⟨⟨⟨q6,hpb⟩,fun t ht=>hs1 t (q8 t ht)⟩,fun t ht=>by have:=hs2' t ht;simpa using fun hm=>this (q7 t hm)⟩
    ·simp only[B7,Zz,ZF,beq_iff_eq,Adb]
     rw[e1,e2,CX]
     exact⟨⟨⟨⟨⟨hap,hin⟩,hmm⟩,q4⟩,C0 b (hsb.trans (Sb.self lx i)) hcb⟩,C0 s (((hsb.trans (Sb.self lx i)).marked xb).marked xa) hcs⟩
    ·simp only[GS.plain,Zz];exact⟨⟨q6,hpb⟩,hp.2⟩
    ·intro t ht
     simp only[GS.rds,ZK] at ht⊢
     exact ht.imp (q7 t) id
    ·intro t ht
     simp only[GS.Bu,ZK] at ht⊢
     exact ht.imp (q8 t) id
    ·have v1:Vs d (Ls++L) d1 (Ls++(L1++L2)):=hv.front Ls
     have v2:Vs d1 ((Ls++L1)++L2) d4 ((Ls++(La++M))++L2):=q10.behind L2
     have:=v1.trans (by rw[←Zy];exact v2)
     simpa [Zy] using this
    ·refine H7 ?_ (Li q11)
     intro ρ' d' L' ⟨⟨v,hρ⟩,hle,d5,L5,hv5,h5⟩
     have hoff:Off a'.Bu ρ ρ':=by rw[hρ];exact Off.GM (fun t ht=>q9 t ht) v
     have hle5:Le d1 d5:=q10.1.trans (hle.trans hv5.1)
     refine⟨d5,L5++L2,by rw[←Zy];exact hv5.behind L2,Ra,Rb,d5,L5,L2,Vs.refl _ _,sa,?_,h5,GK (Ef sb) b' hpb (fun t ht hm=>(hs1' t hm).1 ht) (fun t ht hm=>(hs1' t hm).2 ht) Ls ρ ρ' d1 d5 L2 hoff hle5 h2,?_⟩
     ·exact fun ρ ρ' d d' L ho hl hr=>sb ρ ρ' d d' L (fun t ht=>ho t fun hm=>ht (q8 t hm)) hl hr
     ·intro ρ2 d6 M1 M2 hl ho r1 r2
      refine h3 ρ2 d6 M1 M2 (hle5.trans hl) (fun t ht=>?_) r1 r2
      rw[ZK,not_or] at ht
      exact(ho t (by rw[ZK,not_or];exact⟨fun hm=>ht.1 (q8 t hm),ht.2⟩)).trans (hoff t ht.1)
   ·have hix:=E8 b hcb i hi
    obtain⟨o,op,gs,sn,q1,q2,q3,q4,q5,q6,q7,q8,q9,d4,La,M,q10,q11⟩:=ihb true (marked l xa) lm lx b' ρ d1 L2 hsb covb ffb hcb hb hp.1.2 h2 i hi
    have e1:marked (marked (l.setIfInBounds i true) xa) xb=marked (marked l xa) xb:=by rw[CX,C9 hix]
    have e2:marked (l.setIfInBounds i true) xb=marked l xb:=C9 hix l
    have e3:marked (marked l xb) xa=marked (marked l xa) xb:=hmm
    refine⟨o,op,.par a' gs s',.par xa xb a sn s,q1,q2,?_,?_,by simp only[SI.steps];omega,?_,?_,?_,fun t ht=>by simp[GS.Bu,q9 t ht],d4,La,M++L1,?_,?_⟩
    ·simp only[CB,q3,ha,hs']
     rw[if_pos]
     simp only[Zz,ZF,Aau]
     exact⟨⟨⟨hpa,q6⟩,fun t ht=>⟨by have:=(hs1' t ht).1;simpa using fun hm=>this (q7 t hm),by have:=(hs1' t ht).2;simpa using fun hm=>this (q8 t hm)⟩⟩,fun t ht=>hs2 t (q8 t ht)⟩
    ·simp only[B7,Zz,ZF,beq_iff_eq,Adb]
     rw[e1,e2,CX]
     exact⟨⟨⟨⟨⟨hap,hin⟩,hmm⟩,C0 a (hsb.trans (Sb.self lx i)) hca⟩,q4⟩,C0 s (((hsb.trans (Sb.self lx i)).marked xb).marked xa) hcs⟩
    ·simp only[GS.plain,Zz];exact⟨⟨hpa,q6⟩,hp.2⟩
    ·intro t ht
     simp only[GS.rds,ZK] at ht⊢
     exact ht.imp id (Or.imp (q7 t) id)
    ·intro t ht
     simp only[GS.Bu,ZK] at ht⊢
     exact ht.imp id (Or.imp (q8 t) id)
    ·have v1:Vs d (Ls++L) d1 (Ls++(L1++L2)):=hv.front Ls
     have v0:Vs d1 (Ls++(L1++L2)) d1 ((Ls++L2)++L1):=Vs.perm (by rw[Zy];exact(Aaj).append_left Ls)
     have v2:Vs d1 ((Ls++L2)++L1) d4 ((Ls++(La++M))++L1):=q10.behind L1
     have:=(v1.trans v0).trans v2
     simpa [Zy] using this
    ·refine H7 ?_ (Li q11)
     intro ρ' d' L' ⟨⟨v,hρ⟩,hle,d5,L5,hv5,h5⟩
     have hoff:Off b'.Bu ρ ρ':=by rw[hρ];exact Off.GM (fun t ht=>q9 t ht) v
     have hle5:Le d1 d5:=q10.1.trans (hle.trans hv5.1)
     refine⟨d5,L1++L5,(by rw[←Zy];exact hv5.behind L1:Vs d' (L'++(M++L1)) d5 (L5++L1)).trans (Vs.perm Aaj),Ra,Rb,d5,L1,L5,Vs.refl _ _,?_,sb,GK (Ef sa) a' hpa (fun t ht hm=>hs2' t hm ht) (fun t ht hm=>(hs1' t ht).2 hm) Ls ρ ρ' d1 d5 L1 hoff hle5 h1,h5,?_⟩
     ·exact fun ρ ρ' d d' L ho hl hr=>sa ρ ρ' d d' L (fun t ht=>ho t fun hm=>ht (q8 t hm)) hl hr
     ·intro ρ2 d6 M1 M2 hl ho r1 r2
      refine h3 ρ2 d6 M1 M2 (hle5.trans hl) (fun t ht=>?_) r1 r2
      rw[ZK,not_or] at ht
      exact(ho t (by rw[ZK,not_or];exact⟨ht.1,fun hm=>ht.2 (q8 t hm)⟩)).trans (hoff t ht.2)
def LK{P:Program}{n:Nat}{ops:Array Oper}{q:Nat→Bool}{bs:List Bool}{Ls:List Ag}(hq:∀i o op,q i=true→ops[i]?=some o→GD P n ops o=some op→op.i.quiet=true):
  ∀(s:SI) {la:List Nat}{tgt:Array Bool}{Qn:Env→A0}(l lm lx:Array Bool) (g:GS) (ρ:Env) (d:Ag) (L:List Ag) (i:Nat),Sb lm lx→(∀x∈la,l.getD x true=true→lx.getD x true=true)→s.front=some i→B7 ops q bs la tgt true l lm s=true→CB P n ops s=some g→g.plain=true→
  gws P Ce Qn g Ls ρ d L→q i=true∧Region.free .any ops lx i=true∧i∈Region.ready .any ops l∧i∈la∧∃o op gs s',ops[i]?=some o∧GD P n ops o=some op∧CB P n ops s'=some gs∧B7 ops q bs la tgt true (l.setIfInBounds i true) (lx.setIfInBounds i true) s'=true∧s'.steps+1≤s.steps∧gs.plain=true∧(∀t∈gs.rds,t∈g.rds)∧(∀t∈gs.Bu,t∈g.Bu)∧
   (∀t,op.dst=some t→t∈g.Bu)∧∃d1 L1,Vs d (Ls++L) d1 (Ls++L1)∧gop P Ce op ρ d1 Ls L1 (fun ρ' d' L'=>gws P Ce Qn gs Ls ρ' d' L'):=by
 intro s
 induction s with
 |done=>intro la tgt Qn l lm lx g ρ d L i _ _ h;cases h
 |alt j s t=>intro la tgt Qn l lm lx g ρ d L i _ _ h;cases h
 |bar s=>intro la tgt Qn l lm lx g ρ d L i _ _ h;cases h
 |op tk j s ih=>
  intro la tgt Qn l lm lx g ρ d L i hsb hcov hf hc hs hp h
  cases tk with
  |false=>cases hf
  |true=>
  simp only[SI.front,Option.some.injEq] at hf
  subst hf
  simp only[B7,Zz] at hc
  obtain⟨⟨⟨⟨⟨_,hqi⟩,hfr⟩,hrd⟩,hla⟩,hc'⟩:=hc
  simp only[CB] at hs
  split at hs<;>try cases hs
  rename_i g' s' hg hs'
  rw[ZZ] at hg
  obtain⟨o,ho,hd⟩:=hg
  simp only[GS.plain] at hp
  exact⟨hqi,R7 hsb hfr,by simpa using hrd,by simpa using hla,o,g',s',s,ho,hd,hs',C0 s (hsb.set j) hc',by simp[SI.steps],hp,fun t ht=>by simp[GS.rds,ht],fun t ht=>by simp[GS.Bu,ht],fun t ht=>by simp[GS.Bu,ht],d,L,Vs.refl _ _,h⟩
 |par xa xb a b s iha ihb ihs=>
  intro la tgt Qn l lm lx g ρ d L i hsb hcov hf hc hs hp h
  simp only[B7,Zz,ZF,beq_iff_eq] at hc
  obtain⟨⟨⟨⟨⟨⟨_,hap⟩,hin⟩,hmm⟩,hca⟩,hcb⟩,hcs⟩:=hc
  simp only[CB] at hs
  split at hs<;>try cases hs
  rename_i a' b' s' ha hb hs'
  split at hs<;>try cases hs
  rename_i hsep
  simp only[Zz,ZF,Aau] at hsep
  obtain⟨⟨⟨hpa,hpb⟩,hs1⟩,hs2⟩:=hsep
  simp only[GS.plain,Zz] at hp
  have hs1':∀t∈a'.Bu,t∉b'.rds∧t∉b'.Bu:=fun t ht=>⟨fun hm=>by have:=(hs1 t ht).1;simp[hm] at this,fun hm=>by have:=(hs1 t ht).2;simp[hm] at this⟩
  have hs2':∀t∈b'.Bu,t∉a'.rds:=fun t ht hm=>by have:=hs2 t ht;simp[hm] at this
  obtain⟨hb1,hb2,hdis,hw1,hw2⟩:=EG hap
  have cov:∀(xs ys:List Nat),(∀x∈xs,x∈xa++xb)→(∀x∈xs,x∉ys)→∀x∈xs,(marked l ys).getD x true=true→lx.getD x true=true:=by
   intro xs ys h1 h2 x hx h3;refine hcov x (by simpa using hin x (h1 x hx)) ?_;cases e:l.getD x true with
   |true=>rfl
   |false=>
    rw[Cy] at e
    have:(marked l ys).getD x true=false:=by rw[Cy,BY,if_neg (h2 x hx)];exact e
    rw[this] at h3;cases h3
  have cova:=cov xa xb (fun x hx=>by simp[hx]) hdis
  have covb:=cov xb xa (fun x hx=>by simp[hx]) (fun x hx hm=>hdis x hm hx)
  obtain⟨Ra,Rb,d1,L1,L2,hv,sa,sb,h1,h2,h3⟩:=h
  simp only[SI.front] at hf
  cases hfa:a.front with
  |some j=>
   rw[hfa] at hf
   simp only[Option.some.injEq] at hf
   subst hf
   obtain⟨r1,r2,r3,hix,o,op,gs,sn,q1,q2,q3,q4,q5,q6,q7,q8,q9,d4,L4,q10,q11⟩:=iha (marked l xb) lm lx a' ρ d1 L1 j hsb cova hfa hca ha hpa h1
   have e1:marked (marked (l.setIfInBounds j true) xb) xa=marked (marked l xb) xa:=by rw[CX,C9 hix]
   have e2:marked (l.setIfInBounds j true) xa=marked l xa:=C9 hix l
   refine⟨r1,r2,Fv hdis hw1 hix r3,by simpa using hin j (by simp[hix]),o,op,.par gs b' s',.par xa xb sn b s,q1,q2,?_,?_,by simp only[SI.steps];omega,?_,?_,?_,fun t ht=>by simp[GS.Bu,q9 t ht],d4,L4++L2,?_,?_⟩
   ·simp only[CB,q3,hb,hs']
    rw[if_pos]
    simp only[Zz,ZF,Aau]
    exact⟨⟨⟨q6,hpb⟩,fun t ht=>hs1 t (q8 t ht)⟩,fun t ht=>by have:=hs2' t ht;simpa using fun hm=>this (q7 t hm)⟩
   ·simp only[B7,Zz,ZF,beq_iff_eq,Adb]
    rw[e1,e2,CX]
    exact⟨⟨⟨⟨⟨hap,hin⟩,hmm⟩,q4⟩,C0 b (hsb.trans (Sb.self lx j)) hcb⟩,C0 s (((hsb.trans (Sb.self lx j)).marked xb).marked xa) hcs⟩
   ·simp only[GS.plain,Zz];exact⟨⟨q6,hpb⟩,hp.2⟩
   ·intro t ht
    simp only[GS.rds,ZK] at ht⊢
    exact ht.imp (q7 t) id
   ·intro t ht
    simp only[GS.Bu,ZK] at ht⊢
    exact ht.imp (q8 t) id
   ·have v1:Vs d (Ls++L) d1 (Ls++(L1++L2)):=hv.front Ls
    have v2:Vs d1 ((Ls++L1)++L2) d4 ((Ls++L4)++L2):=q10.behind L2
    have:=v1.trans (by rw[←Zy];exact v2)
    simpa [Zy] using this
   ·refine Vn (hq j o op r1 q1 q2) (fun v h5=>?_) q11
    have hoff:Off a'.Bu ρ (put ρ op.dst v):=Off.GM (fun t ht=>q9 t ht) v
    refine⟨Ra,Rb,d4,L4,L2,Vs.refl _ _,sa,?_,h5,GK (Ef sb) b' hpb (fun t ht hm=>(hs1' t hm).1 ht) (fun t ht hm=>(hs1' t hm).2 ht) Ls ρ _ d1 d4 L2 hoff q10.1 h2,?_⟩
    ·exact fun ρ ρ' d d' L ho hl hr=>sb ρ ρ' d d' L (fun t ht=>ho t fun hm=>ht (q8 t hm)) hl hr
    ·intro ρ2 d6 M1 M2 hl ho r1 r2
     refine h3 ρ2 d6 M1 M2 (q10.1.trans hl) (fun t ht=>?_) r1 r2
     rw[ZK,not_or] at ht
     exact(ho t (by rw[ZK,not_or];exact⟨fun hm=>ht.1 (q8 t hm),ht.2⟩)).trans (hoff t ht.1)
  |none=>
  rw[hfa] at hf
  cases hfb:b.front with
  |some j=>
   rw[hfb] at hf
   simp only[Option.some.injEq] at hf
   subst hf
   obtain⟨r1,r2,r3,hix,o,op,gs,sn,q1,q2,q3,q4,q5,q6,q7,q8,q9,d4,L4,q10,q11⟩:=ihb (marked l xa) lm lx b' ρ d1 L2 j hsb covb hfb hcb hb hpb h2
   have e1:marked (marked (l.setIfInBounds j true) xa) xb=marked (marked l xa) xb:=by rw[CX,C9 hix]
   have e2:marked (l.setIfInBounds j true) xb=marked l xb:=C9 hix l
   have e3:marked (marked l xb) xa=marked (marked l xa) xb:=hmm
   refine⟨r1,r2,Fv (fun i hi hm=>hdis i hm hi) hw2 hix r3,by simpa using hin j (by simp[hix]),o,op,.par a' gs s',.par xa xb a sn s,q1,q2,?_,?_,by simp only[SI.steps];omega,?_,?_,?_,fun t ht=>by simp[GS.Bu,q9 t ht],d4,L1++L4,?_,?_⟩
   ·simp only[CB,q3,ha,hs']
    rw[if_pos]
    simp only[Zz,ZF,Aau]
    exact⟨⟨⟨hpa,q6⟩,fun t ht=>⟨by have:=(hs1' t ht).1;simpa using fun hm=>this (q7 t hm),by have:=(hs1' t ht).2;simpa using fun hm=>this (q8 t hm)⟩⟩,fun t ht=>hs2 t (q8 t ht)⟩
   ·simp only[B7,Zz,ZF,beq_iff_eq,Adb]
    rw[e1,e2,CX]
    exact⟨⟨⟨⟨⟨hap,hin⟩,hmm⟩,C0 a (hsb.trans (Sb.self lx j)) hca⟩,q4⟩,C0 s (((hsb.trans (Sb.self lx j)).marked xb).marked xa) hcs⟩
   ·simp only[GS.plain,Zz];exact⟨⟨hpa,q6⟩,hp.2⟩
   ·intro t ht
    simp only[GS.rds,ZK] at ht⊢
    exact ht.imp id (Or.imp (q7 t) id)
   ·intro t ht
    simp only[GS.Bu,ZK] at ht⊢
    exact ht.imp id (Or.imp (q8 t) id)
   ·have v1:Vs d (Ls++L) d1 (Ls++(L1++L2)):=hv.front Ls
    have v0:Vs d1 (Ls++(L1++L2)) d1 ((Ls++L2)++L1):=Vs.perm (by rw[Zy];exact(Aaj).append_left Ls)
    have v2:Vs d1 ((Ls++L2)++L1) d4 ((Ls++L4)++L1):=q10.behind L1
    have v3:Vs d4 ((Ls++L4)++L1) d4 (Ls++(L1++L4)):=Vs.perm (by rw[Zy];exact(Aaj).append_left Ls)
    exact((v1.trans v0).trans v2).trans v3
   ·refine Vl (hq j o op r1 q1 q2) (fun v h5=>?_) q11
    have hoff:Off b'.Bu ρ (put ρ op.dst v):=Off.GM (fun t ht=>q9 t ht) v
    refine⟨Ra,Rb,d4,L1,L4,Vs.refl _ _,?_,sb,GK (Ef sa) a' hpa (fun t ht hm=>hs2' t hm ht) (fun t ht hm=>(hs1' t ht).2 hm) Ls ρ _ d1 d4 L1 hoff q10.1 h1,h5,?_⟩
    ·exact fun ρ ρ' d d' L ho hl hr=>sa ρ ρ' d d' L (fun t ht=>ho t fun hm=>ht (q8 t hm)) hl hr
    ·intro ρ2 d6 M1 M2 hl ho r1 r2
     refine h3 ρ2 d6 M1 M2 (q10.1.trans hl) (fun t ht=>?_) r1 r2
     rw[ZK,not_or] at ht
     exact(ho t (by rw[ZK,not_or];exact⟨ht.1,fun hm=>ht.2 (q8 t hm)⟩)).trans (hoff t ht.2)
  |none=>
  rw[hfb] at hf
  simp only at hf
  split at hf
  ·rename_i h0
   simp only[Zz] at h0
   obtain⟨e1,N1,v1,M1,rfl,r1⟩:=Hk a h0.1 ha h1
   obtain⟨e2,N2,v2,M2,rfl,r2⟩:=Hk b h0.2 hb h2
   have v3:=Vs.two v1 v2
   have h4:=h3 ρ (Gk.join e2 e1) M1 M2 v3.1 (fun _ _=>rfl) (sa _ _ _ _ _ (fun _ _=>rfl) (Le.BZ _ _) r1) (sb _ _ _ _ _ (fun _ _=>rfl) (Le.BD _ _) r2)
   have el:=IZ hdis (Ee a hca h0.1) (Ee b hcb h0.2)
   have hcs:=C0 s (LP (fun x hx=>by simpa using hin x hx) hsb hcov el) hcs
   rw[←el] at hcs
   obtain⟨r1,r2,r3,hix,o,op,gs,s'',q1,q2,q3,q4,q5,q6,q7,q8,q9,d4,L4,q10,q11⟩:=ihs l lx lx s' ρ _ _ i (fun _ h=>h) hcov hf hcs hs' hp.2 h4
   exact⟨r1,r2,r3,hix,o,op,gs,s'',q1,q2,q3,q4,by simp only[SI.steps];omega,q6,fun t ht=>by simp[GS.rds,q7 t ht],fun t ht=>by simp[GS.Bu,q8 t ht],fun t ht=>by simp[GS.Bu,q9 t ht],d4,L4,((hv.front Ls).trans v3).trans q10,q11⟩
  ·cases hf
def UD{ops:Array Oper}{q:Nat→Bool}{bs:List Bool}:∀(s:SI) {la:List Nat}{tgt l lm:Array Bool},B7 ops q bs la tgt true l lm s=true→s.steps=0→s.fin=true:=by
 intro s;induction s with
 |done=>intro la tgt l lm _ _;rfl
 |op tk i s ih=>intro la tgt l lm _ h;simp only[SI.steps] at h;omega
 |alt i s t ih1 ih2=>intro la tgt l lm _ h;simp only[SI.steps] at h;omega
 |bar s ih=>intro la tgt l lm h;cases h
 |par xa xb a b s iha ihb ihs=>
  intro la tgt l lm hc h
  simp only[B7,Zz] at hc
  simp only[SI.steps] at h
  simp only[SI.fin,Zz]
  exact⟨⟨iha hc.1.1.2 (by omega),ihb hc.1.2 (by omega)⟩,ihs hc.2 (by omega)⟩
def U2{P:Program}{n:Nat}{ds:List Deferred}{ops:Array Oper}{Q:Er}{F:List Ag}{W0:World}{d0:Ag}{q:Nat→Bool}{bs:List Bool}{la lb:List Nat}{tgt l0 l1:Array Bool}{Ra Rb:Env→A0}{Ls:List Ag}{ρ0:Env}{dd:Ag}{DA DB:List Nat}{m:Nat}
  (hsel:Region.noSelect ops=true) (hlast:HI ops bs=true) (hq:∀i o op,q i=true→ops[i]?=some o→GD P n ops o=some op→op.i.quiet=true) (hap:Hj ops bs la lb=true) (ht1:tgt=marked l0 la) (ht2:tgt=marked l1 lb) (sa:Mr DB Ra) (sb:Mr DA Rb)
  (Hs:∀(k:Nat) ρ' d' M1 M2 W',m≤k→Ra ρ' d' M1→Rb ρ' d' M2→Off (DA++DB) ρ0 ρ'→Le dd d'→Ok (d'::((M1++M2)++(Ls++F))) W'→Le d0 d'→B6 W0 W'→Cu P ops (lift n ds F W0 d0 Q) (St false d' Ls F) bs k tgt (act n ρ' ds) W'):
  ∀(N:Nat) (a b:SI) (ga gb:GS) (l:Array Bool) (ρ:Env) (d:Ag) (L1 L2:List Ag) (k:Nat) (W:World),a.steps+b.steps≤N→B7 ops q bs la tgt true (marked l lb) l a=true→B7 ops q bs lb tgt true (marked l la) l b=true→
   CB P n ops a=some ga→CB P n ops b=some gb→ga.plain=true→gb.plain=true→(∀t∈ga.Bu,t∈DA)→(∀t∈gb.Bu,t∈DB)→(∀t∈ga.rds,t∉DB)→(∀t∈gb.rds,t∉DA)→(∀t∈DA,t∉DB)→
   gws P Ce (FI Ls Ra) ga Ls ρ d L1→gws P Ce (FI Ls Rb) gb Ls ρ d L2→Ok (d::((L1++L2)++(Ls++F))) W→Le d0 d→Le dd d→B6 W0 W→Off (DA++DB) ρ0 ρ→a.steps+b.steps+m≤k→
   Cu P ops (lift n ds F W0 d0 Q) (St false d Ls F) bs k l (act n ρ ds) W:=by
 obtain⟨hb1,hb2,hdis,hw1,hw2⟩:=EG hap
 have okS:∀{d:Ag}{L Ls F:List Ag}{W:World}{b:Bool},Ok (d::(L++(Ls++F))) W→St false d Ls F b W:=by
  intro d L Ls F W b x;have x1:Ok (d::(Ls++F)) W:=x.sub (Acw d (Ack L _));exact⟨x1.sub (Acw d (Ack Ls F)),fun hb=>⟨rfl,x1⟩⟩
 have fin:∀(a b:SI) (ga gb:GS) (l:Array Bool) (ρ:Env) (d:Ag) (L1 L2:List Ag) (k:Nat) (W:World),a.fin=true→b.fin=true→B7 ops q bs la tgt true (marked l lb) l a=true→B7 ops q bs lb tgt true (marked l la) l b=true→
   CB P n ops a=some ga→CB P n ops b=some gb→gws P Ce (FI Ls Ra) ga Ls ρ d L1→gws P Ce (FI Ls Rb) gb Ls ρ d L2→Ok (d::((L1++L2)++(Ls++F))) W→Le d0 d→Le dd d→B6 W0 W→Off (DA++DB) ρ0 ρ→m≤k→
   Cu P ops (lift n ds F W0 d0 Q) (St false d Ls F) bs k l (act n ρ ds) W:=by
  intro a b ga gb l ρ d L1 L2 k W ha hb hca hcb hga hgb h1 h2 hOk hle hld hk ho hm
  obtain⟨d1,N1,hv1,M1,rfl,hr1⟩:=Hk a ha hga h1
  obtain⟨d2,N2,hv2,M2,rfl,hr2⟩:=Hk b hb hgb h2
  rw[IZ hdis (Ee a hca ha) (Ee b hcb hb)]
  have x1:Ok (d::((Ls++(L1++L2))++F)) W:=hOk.perm (Z1 d (by
   rw[Zy Ls];exact Dm (L1++L2) Ls F))
  have v3:=Vs.two hv1 hv2
  have x5:Ok (join d2 d1::((M1++M2)++(Ls++F))) W:=(v3.2 F W x1).perm (Z1 _ (by
   rw[Zy Ls];exact Dm Ls (M1++M2) F))
  exact Cu.mono (fun b w hw=>hw.le v3.1) _ _ _ _ (Hs k ρ _ M1 M2 W hm (sa _ _ _ _ _ (fun _ _=>rfl) (Le.BZ d2 d1) hr1) (sb _ _ _ _ _ (fun _ _=>rfl) (Le.BD d2 d1) hr2) ho (hld.trans v3.1) x5 (hle.trans v3.1) hk)
 have cov:∀(xs ys:List Nat) (l:Array Bool),(∀x∈xs,x∉ys)→∀x∈xs,(marked l ys).getD x true=true→l.getD x true=true:=by
  intro xs ys l h2 x hx h3;cases e:l.getD x true with
  |true=>rfl
  |false=>
   rw[Cy] at e
   have:(marked l ys).getD x true=false:=by rw[Cy,BY,if_neg (h2 x hx)];exact e
   rw[this] at h3;cases h3
 have hdis':∀i∈lb,i∉la:=fun i hi hm=>hdis i hm hi
 have look:∀{d:Ag}{w:World}{b:Bool},b=false→St false d Ls F b w→∀a v,HC d Ls a v→w.cell? a=some v:=by
  intro d w b hb hw a v hc;subst hb;exact hc.cell hw.1.head (fun q hq=>(hw.2 rfl).2.2 q (by simp[hq]))
 have taken:∀{i:Nat}{o:Oper}{op:GOp}{ρ:Env}{d:Ag}{M:List Ag}{l:Array Bool}{W:World}{k:Nat}{K:Env→A0},q i=true→bs.getD i false=false→ops[i]?=some o→GD P n ops o=some op→Region.free .any ops l i=true→i∈Region.ready .any ops l→St false d Ls F false W→
   gop P Ce op ρ d Ls M K→(∀v,K (put ρ op.dst v) d M→Cu P ops (lift n ds F W0 d0 Q) (St false d Ls F) bs k (l.setIfInBounds i true) (act n (put ρ op.dst v) ds) W)→
   Cu P ops (lift n ds F W0 d0 Q) (St false d Ls F) bs (k+1) l (act n ρ ds) W:=by
  intro i o op ρ d M l W k K hqi hbi ho hd hf hr hS hop hK
  have hquiet:=hq i o op hqi ho hd
  obtain⟨hopn,hdst,_,hdi,hgd,hgu⟩:=Hf hd
  have goOn:∀v,YieldsIf P ops (St false d Ls F (bs.getD i false)) o v (act n ρ ds)→K (put ρ op.dst v) d M→Cu P ops (lift n ds F W0 d0 Q) (St false d Ls F) bs (k+1) l (act n ρ ds) W:=by
   intro v hy hw;refine Cu.first ho (Region.noSelect_spec hsel) (fun c a w hh=>?_) hlast (fun w hw=>⟨hw.1,fun e=>by cases e⟩) k l _ W (Region.free_spec ho hf) hr hy (by rw[hbi];exact hS) ?_
   ·obtain⟨h1,h2⟩:=hh;refine⟨?_,h2⟩
    cases hdd:o.dst with
    |none=>rw[hdd] at h1;exact h1
    |some t=>rw[hdd] at h1;exact h1
   ·rw[IU hdst,←hgd];exact hK v hw
  rcases hgu with ⟨hgn,hg'⟩|⟨j,want,t,hgn,ht2,htn,hg'⟩
  ·simp only[gop,hg'] at hop
   rw[DU hquiet] at hop
   obtain⟨v,hv,hK'⟩:=hop
   refine goOn v (.inl ⟨by simp[Region.wanted,hgn],fun w hw=>?_⟩) hK'
   exact GV hdi hquiet hv (fun x hx=>Bp (hopn x hx)) (look hbi hw)
  ·simp only[gop,hg'] at hop
   rcases hop with ⟨b,hb,h1,h2⟩|⟨hb,h2⟩
   case inr=>exact goOn undef (.inr ⟨Hq hgn ht2 htn hb,rfl⟩) h2
   by_cases e:b=want
   ·have h1:=h1 e
    rw[DU hquiet] at h1
    obtain⟨v,hv,hK'⟩:=h1
    refine goOn v (.inl ⟨by rw[Gc hgn ht2 htn hb];simp[e],fun w hw=>?_⟩) hK'
    exact GV hdi hquiet hv (fun x hx=>Bp (hopn x hx)) (look hbi hw)
   ·exact goOn undef (.inr ⟨by rw[Gc hgn ht2 htn hb];simpa using e,rfl⟩) (h2 (by cases b<;>cases want<;>simp_all))
 intro N
 induction N with
 |zero=>
  intro a b ga gb l ρ d L1 L2 k W hN hca hcb hga hgb hpa hpb hda hdb hra hrb hdd h1 h2 hOk hle hld hk ho hkk
  have ha:a.fin=true:=UD a hca (by omega)
  have hb:b.fin=true:=UD b hcb (by omega)
  exact fin a b ga gb l ρ d L1 L2 k W ha hb hca hcb hga hgb h1 h2 hOk hle hld hk ho (by omega)
 |succ N ih=>
  intro a b ga gb l ρ d L1 L2 k W hN hca hcb hga hgb hpa hpb hda hdb hra hrb hdd h1 h2 hOk hle hld hk ho hkk
  by_cases hab:a.fin=true∧b.fin=true
  ·exact fin a b ga gb l ρ d L1 L2 k W hab.1 hab.2 hca hcb hga hgb h1 h2 hOk hle hld hk ho (by omega)
  have okA0:Ok (d::((Ls++L1)++(L2++F))) W:=hOk.perm (Z1 d (by
   rw[Zy,Zy];exact((Dm L2 Ls F).append_left L1).trans (Dm L1 Ls _)))
  cases hfa:a.front with
  |some i=>
   obtain⟨r1,r2,r3,hil,o,op,gs,s',ho',hdec,hgs,hck,hst,hpl,hrd,hds,hdst,d1,L1',hv,hop⟩:=LK hq a (marked l lb) l l ga ρ d L1 i (fun _ h=>h) (cov la lb l hdis) hfa hca hga hpa h1
   obtain⟨k,rfl⟩:∃k',k=k'+1:=⟨k - 1,by omega⟩
   have x1:=hv.2 (L2++F) W okA0
   have x2:Ok (d1::((L1'++L2)++(Ls++F))) W:=x1.perm (Z1 d1 (by
    rw[Zy,Zy];exact(Dm Ls L1' _).trans ((Dm Ls L2 F).append_left L1')))
   refine Cu.mono (fun b w hw=>hw.le hv.1) _ _ _ _ (taken (d:=d1) r1 (hb1 i hil) ho' hdec r2 (Fv hdis hw1 hil r3) (okS x2) hop fun v h4=>?_)
   have hoff:Off DA ρ (put ρ op.dst v):=Off.GM (fun t ht=>hda t (hdst t ht)) v
   exact ih s' b gs gb (l.setIfInBounds i true) _ d1 L1' L2 k W (by omega) (by rw[CX];exact hck) (by rw[C9 hil];exact C0 b (Sb.self l i) hcb) hgs hgb hpl hpb (fun t ht=>hda t (hds t ht)) hdb
     (fun t ht=>hra t (hrd t ht)) hrb hdd h4 (GK (Ef sb) gb hpb hrb (fun t ht hm=>hdd t hm (hdb t ht)) Ls ρ _ d d1 L2 hoff hv.1 h2) x2 (hle.trans hv.1) (hld.trans hv.1) hk (ho.trans fun t ht=>hoff t fun hm=>ht (by simp[hm])) (by omega)
  |none=>
  cases hfb:b.front with
  |some i=>
   obtain⟨r1,r2,r3,hil,o,op,gs,s',ho',hdec,hgs,hck,hst,hpl,hrd,hds,hdst,d1,L2',hv,hop⟩:=LK hq b (marked l la) l l gb ρ d L2 i (fun _ h=>h) (cov lb la l hdis') hfb hcb hgb hpb h2
   obtain⟨k,rfl⟩:∃k',k=k'+1:=⟨k - 1,by omega⟩
   have okB0:Ok (d::((Ls++L2)++(L1++F))) W:=okA0.perm (Z1 d (by
    rw[Zy,Zy];exact(Dm L1 L2 F).append_left Ls))
   have x1:=hv.2 (L1++F) W okB0
   have x2:Ok (d1::((L1++L2')++(Ls++F))) W:=x1.perm (Z1 d1 (by
    rw[Zy,Zy];exact((Dm L2' L1 F).append_left Ls).trans ((Dm Ls L1 _).trans ((Dm Ls L2' F).append_left L1))))
   refine Cu.mono (fun b w hw=>hw.le hv.1) _ _ _ _ (taken (d:=d1) r1 (hb2 i hil) ho' hdec r2 (Fv hdis' hw2 hil r3) (okS x2) hop fun v h4=>?_)
   have hoff:Off DB ρ (put ρ op.dst v):=Off.GM (fun t ht=>hdb t (hdst t ht)) v
   exact ih a s' ga gs (l.setIfInBounds i true) _ d1 L1 L2' k W (by omega) (by rw[C9 hil];exact C0 a (Sb.self l i) hca) (by rw[CX];exact hck) hga hgs hpa hpl hda (fun t ht=>hdb t (hds t ht))
     hra (fun t ht=>hrb t (hrd t ht)) hdd (GK (Ef sa) ga hpa hra (fun t ht hm=>hdd t (hda t ht) hm) Ls ρ _ d d1 L1 hoff hv.1 h1) h4 x2 (hle.trans hv.1) (hld.trans hv.1) hk (ho.trans fun t ht=>hoff t fun hm=>ht (by simp[hm])) (by omega)
  |none=>
  have hsteps:1≤a.steps+b.steps:=by
   cases ea:a.fin with
   |false=>have:=(E1 a hca hfa ea).2.2;omega
   |true=>cases eb:b.fin with
    |false=>have:=(E1 b hcb hfb eb).2.2;omega
    |true=>exact absurd ⟨ea,eb⟩ hab
  obtain⟨k,rfl⟩:∃k',k=k'+1:=⟨k - 1,by omega⟩
  have okA:Ok (d::((Ls++L1)++(L2++F))) W:=hOk.perm (Z1 d (by
   rw[Zy,Zy];exact((Dm L2 Ls F).append_left L1).trans (Dm L1 Ls _)))
  have okB:Ok (d::((Ls++L2)++(L1++F))) W:=okA.perm (Z1 d (by
   rw[Zy,Zy];exact(Dm L1 L2 F).append_left Ls))
  have outA:∀{e:Ag}{X M Y:List Ag}{W':World},Ok (e::((Ls++(X++M))++(Y++F))) W'→Ok (e::(X++(M++(Y++(Ls++F))))) W':=by
   intro e X M Y W' x;refine x.perm (Z1 e ?_);rw[Zy,Zy];exact(Dm Ls X _).trans (((Dm Ls M _).trans ((Dm Ls Y F).append_left M)).append_left X)
  have stepA:∀i∈a.Cp,wpOp P ops (lift n ds F W0 d0 Q) i (fun a' w'=>St false d Ls F (bs.getD i false) w'∧Cu P ops (lift n ds F W0 d0 Q) (St false d Ls F) bs k (l.setIfInBounds i true) a' w') (act n ρ ds) W:=by
   intro i hi;have hil:=E8 a hca i hi;obtain⟨o,op,gs,s',ho',hdec,hgs,hck,hst,hpl,hrd,hds,hdst,d1,La,M,hv,hop⟩:=UA a true (marked l lb) l l ga ρ d L1 (fun _ h=>h) (cov la lb l hdis) hfa hca hga hpa h1 i hi;have hOk1:=outA (hv.2 (L2++F) W okA);refine GP (F:=M++(L2++(Ls++F))) ho' hdec hOk1 (fun q hq=>hOk1.2 q (by simp at hq;rcases hq with hq|hq<;>simp[hq])) (fun B hB=>⟨M++(L2++F),by rw[←Abs hB];exact((Abv _ _ _).append_left _).trans (Abv _ _ _)⟩) (Li hop) ?_ ?_
   ·intro ρ' d' L' W' g1 g2 g3 ⟨⟨v,hρ⟩,_,d2,L2',hv2,h4⟩;have h5:=hv2.2 (L2++(Ls++F)) W' (by rw[Zy];exact g1);have hle2:Le d d2:=hv.1.trans (g2.trans hv2.1);have hoff:Off DA ρ ρ':=by rw[hρ];exact Off.GM (fun t ht=>hda t (hdst t ht)) v
    have g1':Ok (d'::((L'++(M++L2))++(Ls++F))) W':=by simpa [Zy] using g1
    have h5':Ok (d2::((L2'++L2)++(Ls++F))) W':=by rw[Zy];exact h5
    refine⟨(okS g1').le (hv.1.trans g2),Cu.mono (fun b w hw=>hw.le hle2) _ _ _ _ (ih s' b gs gb (l.setIfInBounds i true) ρ' d2 L2' L2 k W' (by omega) (by rw[CX];exact hck) (by rw[C9 hil];exact C0 b (Sb.self l i) hcb) hgs hgb hpl hpb (fun t ht=>hda t (hds t ht)) hdb
     (fun t ht=>hra t (hrd t ht)) hrb hdd h4 (GK (Ef sb) gb hpb hrb (fun t ht hm=>hdd t hm (hdb t ht)) Ls ρ ρ' d d2 L2 hoff hle2 h2) h5' (hle.trans hle2) (hld.trans hle2) (hk.trans g3) (ho.trans fun t ht=>hoff t fun hm=>ht (by simp[hm])) (by omega))⟩
   ·intro c d' L' W' _ _ _ h;exact h.elim
  have Ca:∀i∈b.Cp,wpOp P ops (lift n ds F W0 d0 Q) i (fun a' w'=>St false d Ls F (bs.getD i false) w'∧Cu P ops (lift n ds F W0 d0 Q) (St false d Ls F) bs k (l.setIfInBounds i true) a' w') (act n ρ ds) W:=by
   intro i hi;have hil:=E8 b hcb i hi;obtain⟨o,op,gs,s',ho',hdec,hgs,hck,hst,hpl,hrd,hds,hdst,d1,La,M,hv,hop⟩:=UA b true (marked l la) l l gb ρ d L2 (fun _ h=>h) (cov lb la l hdis') hfb hcb hgb hpb h2 i hi;have hOk1:=outA (hv.2 (L1++F) W okB);refine GP (F:=M++(L1++(Ls++F))) ho' hdec hOk1 (fun q hq=>hOk1.2 q (by simp at hq;rcases hq with hq|hq<;>simp[hq])) (fun B hB=>⟨M++(L1++F),by rw[←Abs hB];exact((Abv _ _ _).append_left _).trans (Abv _ _ _)⟩) (Li hop) ?_ ?_
   ·intro ρ' d' L' W' g1 g2 g3 ⟨⟨v,hρ⟩,_,d2,L2',hv2,h4⟩;have h5:=hv2.2 (L1++(Ls++F)) W' (by rw[Zy];exact g1);have hle2:Le d d2:=hv.1.trans (g2.trans hv2.1);have hoff:Off DB ρ ρ':=by rw[hρ];exact Off.GM (fun t ht=>hdb t (hdst t ht)) v
    have g1':Ok (d'::((L'++(M++L1))++(Ls++F))) W':=by simpa [Zy] using g1
    have h5':Ok (d2::((L1++L2')++(Ls++F))) W':=by rw[Zy];exact h5.perm (Z1 d2 (Dm L2' L1 _))
    refine⟨(okS g1').le (hv.1.trans g2),Cu.mono (fun b w hw=>hw.le hle2) _ _ _ _ (ih a s' ga gs (l.setIfInBounds i true) ρ' d2 L1 L2' k W' (by omega) (by rw[C9 hil];exact C0 a (Sb.self l i) hca) (by rw[CX];exact hck) hga hgs hpa hpl hda (fun t ht=>hdb t (hds t ht))
     hra (fun t ht=>hrb t (hrd t ht)) hdd (GK (Ef sa) ga hpa hra (fun t ht hm=>hdd t (hda t ht) hm) Ls ρ ρ' d d2 L1 hoff hle2 h1) h4 h5' (hle.trans hle2) (hld.trans hle2) (hk.trans g3) (ho.trans fun t ht=>hoff t fun hm=>ht (by simp[hm])) (by omega))⟩
   ·intro c d' L' W' _ _ _ h;exact h.elim
  have hr:=Pe (l:=l) hap ht1 ht2 (E8 a hca) (E8 b hcb) (fun e=>(E1 a hca hfa e).1) (fun e=>(E1 b hcb hfb e).1) (Ee a hca) (Ee b hcb) (Il a) (Il b) hab
  refine fun _=>⟨fun h0=>?_,fun i hi=>?_⟩
  ·exfalso
   have none:∀i,¬(i∈a.Cp∨i∈b.Cp):=fun i h=>by have:=(hr i).2 h;rw[h0] at this;cases this
   cases ea:a.fin with
   |false=>exact(E1 a hca hfa ea).2.1 (List.eq_nil_iff_forall_not_mem.2 fun i h=>none i (.inl h))
   |true=>cases eb:b.fin with
    |false=>exact(E1 b hcb hfb eb).2.1 (List.eq_nil_iff_forall_not_mem.2 fun i h=>none i (.inr h))
    |true=>exact hab ⟨ea,eb⟩
  ·rcases (hr i).1 hi with h|h
   ·exact stepA i h
   ·exact Ca i h
def UI{P:Program}{n:Nat}{ds:List Deferred}{ops:Array Oper}{Q:Er}{F:List Ag}{W0:World}{d0:Ag}{bs:List Bool}(hsel:Region.noSelect ops=true)(hlast:HI ops bs=true):
  ∀(si:SI) (top past:Bool) (listed:Array Bool) (s:GS) (ρ:Env) (d:Ag) (L Ls:List Ag) (k:Nat) (W:World),chk ops (quietAt P ops) bs top past listed si=true→CB P n ops si=some s→(past=true→Ls=[])→
   gws P Q.pan Q.n s Ls ρ d L→Ok (d::(L++(Ls++F))) W→Le d0 d→B6 W0 W→si.steps≤k→
   (top=true→Cu P ops (lift n ds F W0 d0 Q) (St past d Ls F) bs k listed (act n ρ ds) W)∧
   (top=false→∀i∈si.Cp,wpOp P ops (lift n ds F W0 d0 Q) i (fun a' w'=>St past d Ls F (bs.getD i false) w'∧Cu P ops (lift n ds F W0 d0 Q) (St past d Ls F) bs (k - 1) (listed.setIfInBounds i true) a' w') (act n ρ ds) W):=by
 have okS:∀{past:Bool}{d:Ag}{L Ls F:List Ag}{W:World}{b:Bool},Ok (d::(L++(Ls++F))) W→past=b→St past d Ls F b W:=by
  intro past d L Ls F W b x e;have x1:Ok (d::(Ls++F)) W:=x.sub (Acw d (Ack L _));exact⟨x1.sub (Acw d (Ack Ls F)),fun hb=>⟨e.trans hb,x1⟩⟩
 have front:∀{d:Ag}{L Ls F:List Ag}{W:World},Ok (d::(L++(Ls++F))) W→Ok (d::((Ls++L)++F)) W:=by
  intro d L Ls F W x;exact x.perm (Z1 d (by rw[←Zy];exact(Aaj).append_right F))
 intro si
 induction si with
 |done=>
  intro top past listed s ρ d L Ls k W hc hs hp h hOk hle hk hst
  simp only[chk,Zz,beq_iff_eq] at hc
  simp[CB] at hs;subst hs
  obtain⟨d1,L1,hv,hq⟩:=h
  exact⟨fun _=>Cu.done hc.2 ⟨ρ,d1,L1,rfl,hv.2 F W (front hOk),hle.trans hv.1,hk,hq⟩ k,fun ht=>by rw[ht] at hc;simp at hc⟩
 |op tk i si ih=>
  intro top past listed s ρ d L Ls k W hc hs hp h hOk hle hk hst
  simp only[CB] at hs
  split at hs<;>try cases hs
  rename_i g s' hg hs'
  rw[ZZ] at hg
  obtain⟨o,ho,hd⟩:=hg
  obtain⟨hop,hdst,_,hdi,hgd,hgu⟩:=Hf hd
  simp only[SI.steps] at hst
  obtain⟨k,rfl⟩:∃k',k=k'+1:=⟨k - 1,by omega⟩
  cases tk with
  |true=>
   simp only[chk,Zz,beq_iff_eq] at hc
   obtain⟨⟨⟨⟨⟨ht,hqi⟩,hpb⟩,hf⟩,hr⟩,hc'⟩:=hc
   have hquiet:g.i.quiet=true:=by
    simp only[quietAt,ho,Aas,hdi,Option.any_some] at hqi;exact hqi
   refine⟨fun _=>?_,fun ht'=>by rw[ht'] at ht;cases ht⟩
   have goOn:∀v,YieldsIf P ops (St past d Ls F (bs.getD i false)) o v (act n ρ ds)→gws P Q.pan Q.n s' Ls (put ρ g.dst v) d L→
     Cu P ops (lift n ds F W0 d0 Q) (St past d Ls F) bs (k+1) listed (act n ρ ds) W:=by
    intro v hy hw
    refine Cu.first ho (Region.noSelect_spec hsel) (fun c a w hh=>?_) hlast (fun w hw=>⟨hw.1,fun e=>by cases e⟩) k listed _ W (Region.free_spec ho hf) (by simpa using hr) hy (okS hOk hpb) ?_
    ·obtain⟨h1,h2⟩:=hh
     refine⟨?_,h2⟩
     cases hdd:o.dst with
     |none=>rw[hdd] at h1;exact h1
     |some t=>rw[hdd] at h1;exact h1
    ·rw[IU hdst,←hgd]
     exact((ih true past _ s' _ d L Ls k W hc' hs' hp hw hOk hle hk (by omega)).1 rfl)
   have look:∀w,St past d Ls F (bs.getD i false) w→∀a v,HC d Ls a v→w.cell? a=some v:=by
    intro w hw a v hc;refine hc.cell hw.1.head (fun q hq=>?_);cases hbi:bs.getD i false with
    |true=>rw[hbi] at hpb;rw[hp hpb] at hq;cases hq
    |false=>exact(hw.2 hbi).2.2 q (by simp[hq])
   rcases hgu with ⟨hgn,hg'⟩|⟨j,want,t,hgn,ht2,htn,hg'⟩
   ·simp only[gws,gop,hg'] at h
    rw[DU hquiet] at h
    obtain⟨v,hv,hK⟩:=h
    refine goOn v (.inl ⟨by simp[Region.wanted,hgn],fun w hw=>?_⟩) hK
    exact GV hdi hquiet hv (fun x hx=>Bp (hop x hx)) (look w hw)
   ·simp only[gws,gop,hg'] at h
    rcases h with ⟨b,hb,h1,h2⟩|⟨hb,h2⟩
    case inr=>exact goOn undef (.inr ⟨Hq hgn ht2 htn hb,rfl⟩) h2
    by_cases e:b=want
    ·have h1:=h1 e
     rw[DU hquiet] at h1
     obtain⟨v,hv,hK⟩:=h1
     refine goOn v (.inl ⟨by rw[Gc hgn ht2 htn hb];simp[e],fun w hw=>?_⟩) hK
     exact GV hdi hquiet hv (fun x hx=>Bp (hop x hx)) (look w hw)
    ·refine goOn undef (.inr ⟨by rw[Gc hgn ht2 htn hb];simpa using e,rfl⟩) (h2 (by cases b<;>cases want<;>simp_all))
  |false=>
   simp only[chk,Zz,beq_iff_eq] at hc
   obtain⟨⟨hr,hpb⟩,hc'⟩:=hc
   obtain⟨d1,L1,hv,h⟩:=h
   have hOk1:=hv.2 (Ls++F) W hOk
   have step:wpOp P ops (lift n ds F W0 d0 Q) i (fun a' w'=>St past d Ls F (bs.getD i false) w'∧Cu P ops (lift n ds F W0 d0 Q) (St past d Ls F) bs k (listed.setIfInBounds i true) a' w') (act n ρ ds) W:=by
    refine GP ho hd hOk1 (fun q hq=>hOk1.2 q (by simp at hq;rcases hq with hq|hq<;>simp[hq])) (fun B hB=>⟨F,by rw[←Abs hB]⟩) h ?_ ?_
    ·intro ρ' d' L' W' h1 h2 h3 ⟨d2,L2,hv2,h4⟩;have hdd:=hv.1.trans h2;refine⟨(okS h1 hpb).le hdd,?_⟩
     exact Cu.mono (fun b w hw=>hw.le (hdd.trans hv2.1)) _ _ _ _ ((ih true past _ s' ρ' d2 L2 Ls k W' hc' hs' hp h4 (hv2.2 _ W' h1) (hle.trans (hdd.trans hv2.1)) (hk.trans h3) (by omega)).1 rfl)
    ·intro c d' L' W' h1 h2 h3 h4;exact⟨rfl,d',Ls++L',front h1,hle.trans (hv.1.trans h2),hk.trans h3,h4⟩
   refine⟨fun ht=>?_,fun _ j hj=>?_⟩
   ·rw[ht] at hr
    simp only[Bool.not_true,Bool.false_or,beq_iff_eq] at hr
    refine fun _=>⟨fun h0=>by rw[h0] at hr;simp at hr,fun j hj=>?_⟩
    rw[hr] at hj
    simp at hj;subst hj
    exact step
   ·simp only[SI.Cp,Z9] at hj
    subst hj
    exact step
 |alt i si ti ih1 ih2=>
  intro top past listed s ρ d L Ls k W hc hs hp h hOk hle hk hst
  simp only[CB] at hs
  split at hs<;>try cases hs
  rename_i g s' t' hg hs' ht'
  rw[ZZ] at hg
  obtain⟨o,ho,hd⟩:=hg
  simp only[SI.steps] at hst
  obtain⟨k,rfl⟩:∃k',k=k'+1:=⟨k - 1,by omega⟩
  simp only[chk,Zz,beq_iff_eq] at hc
  obtain⟨⟨⟨hr,hpb⟩,hc1⟩,hc2⟩:=hc
  obtain⟨⟨d1,L1,hv,h⟩,hrest⟩:=h
  have hOk1:=hv.2 (Ls++F) W hOk
  have step:wpOp P ops (lift n ds F W0 d0 Q) i (fun a' w'=>St past d Ls F (bs.getD i false) w'∧Cu P ops (lift n ds F W0 d0 Q) (St past d Ls F) bs k (listed.setIfInBounds i true) a' w') (act n ρ ds) W:=by
   refine GP ho hd hOk1 (fun q hq=>hOk1.2 q (by simp at hq;rcases hq with hq|hq<;>simp[hq])) (fun B hB=>⟨F,by rw[←Abs hB]⟩) h ?_ ?_
   ·intro ρ' d' L' W' h1 h2 h3 ⟨d2,L2,hv2,h4⟩;have hdd:=hv.1.trans h2;refine⟨(okS h1 hpb).le hdd,?_⟩
    exact Cu.mono (fun b w hw=>hw.le (hdd.trans hv2.1)) _ _ _ _ ((ih1 true past _ s' ρ' d2 L2 Ls k W' hc1 hs' hp h4 (hv2.2 _ W' h1) (hle.trans (hdd.trans hv2.1)) (hk.trans h3) (by omega)).1 rfl)
   ·intro c d' L' W' h1 h2 h3 h4;exact⟨rfl,d',Ls++L',front h1,hle.trans (hv.1.trans h2),hk.trans h3,h4⟩
  have others:=(ih2 false past listed t' ρ d L Ls (k+1) W hc2 ht' hp hrest hOk hle hk (by omega)).2 rfl
  have all:∀j∈i::ti.Cp,wpOp P ops (lift n ds F W0 d0 Q) j (fun a' w'=>St past d Ls F (bs.getD j false) w'∧Cu P ops (lift n ds F W0 d0 Q) (St past d Ls F) bs k (listed.setIfInBounds j true) a' w') (act n ρ ds) W:=by
   intro j hj;rcases ZR.1 hj with rfl|hj
   ·exact step
   ·exact others j hj
  refine⟨fun ht=>?_,fun _ j hj=>all j hj⟩
  rw[ht] at hr
  simp only[Bool.not_true,Bool.false_or,beq_iff_eq] at hr
  refine fun _=>⟨fun h0=>by rw[h0] at hr;simp at hr,fun j hj=>?_⟩
  rw[hr] at hj
  exact all j hj
 |bar si ih=>
  intro top past listed s ρ d L Ls k W hc hs hp h hOk hle hk hst
  simp only[chk,Zz,Aau] at hc
  obtain⟨⟨ht,hpf⟩,hc'⟩:=hc
  simp only[CB,Aaa] at hs
  obtain⟨s',hs',rfl⟩:=hs
  simp only[gws] at h
  refine⟨fun _=>?_,fun ht'=>by rw[ht'] at ht;cases ht⟩
  have:=(ih true true listed s' ρ d (Ls++L) [] k W hc' hs' (fun _=>rfl) h (by simpa using front hOk) hle hk hst).1 rfl
  exact Cu.mono (fun b w hw=>⟨hw.1,fun e=>by have:=(hw.2 e).1;cases this⟩) _ _ _ _ this
 |par la lb a b si iha ihb ih=>
  intro top past listed s ρ d L Ls k W hc hs hp h hOk hle hk hst
  simp only[chk,Zz,Aau,beq_iff_eq] at hc
  obtain⟨⟨⟨⟨⟨⟨ht,hpf⟩,hap⟩,hmm⟩,hca⟩,hcb⟩,hc'⟩:=hc
  subst hpf
  rw[←hmm] at hcb
  simp only[CB] at hs
  split at hs<;>try cases hs
  rename_i a' b' s' ha hb hs'
  split at hs<;>try cases hs
  rename_i hsep
  simp only[Zz,ZF,Aau] at hsep
  obtain⟨⟨⟨hpa,hpb⟩,hs1⟩,hs2⟩:=hsep
  refine⟨fun _=>?_,fun ht'=>by rw[ht'] at ht;cases ht⟩
  obtain⟨Ra,Rb,d1,L1,L2,hv,sa,sb,h1,h2,hrest⟩:=h
  simp only[SI.steps] at hst
  have:=U2 (m:=si.steps) (q:=quietAt P ops) (Q:=Q) (F:=F) (W0:=W0) (d0:=d0) (ds:=ds) (P:=P) (n:=n) (ρ0:=ρ) (dd:=d1) (l0:=marked listed lb) (l1:=marked listed la) hsel hlast (fun i o op h1 h2 h3=>by
    obtain⟨_,_,_,hdi,_,_⟩:=Hf h3;simp only[quietAt,h2,Aas,hdi,Option.any_some] at h1;exact h1) hap rfl hmm sa sb
   (fun k ρ' d' M1 M2 W' hkm hr1 hr2 ho hl hok hle' hk'=>(ih true false _ s' ρ' d' (M1++M2) Ls k W' hc' hs' hp (hrest ρ' d' M1 M2 hl ho hr1 hr2) hok hle' hk' hkm).1 rfl)
   (a.steps+b.steps) a b a' b' listed ρ d1 L1 L2 k W (ZL _) hca hcb ha hb hpa hpb (fun _ h=>h) (fun _ h=>h)
   (fun t ht hm=>by have:=hs2 t hm;simp[ht] at this) (fun t ht hm=>by have:=(hs1 t hm).1;simp[ht] at this) (fun t ht hm=>by have:=(hs1 t ht).2;simp[hm] at this) h1 h2 (hv.2 _ W hOk) (hle.trans hv.1) (Le.refl d1) hk (fun _ _=>rfl) hst
  exact Cu.mono (fun b w hw=>hw.le hv.1) _ _ _ _ this
def Yv(ops:Array Oper):Closed ops (Array.replicate ops.size false):=by
 intro j oj _ hl;rcases Acb j ops.size with h|h
 ·simp[h] at hl
 ·simp[Nat.not_lt.2 h] at hl
def Qv{pr:Bool}{P}{n:Nat}{ds ops}{Q:Er}{F W0 d0}{id:Nat}(hm:P.follows .mixedOrders=true)
  {s}(hs:QT pr P n ops true=some s) {ρ d L Ls W}(h:gws P Q.pan Q.n s Ls ρ d L) (hOk:Ok (d::(L++(Ls++F))) W) (hle:Le d0 d) (hk:B6 W0 W):
  (Code.region id ops true).wp P (lift n ds F W0 d0 Q) (act n ρ ds) W:=by
 simp only[QT] at hs
 split at hs
 ·rename_i hc
  simp only[Zz,decide_eq_true_eq] at hc
  obtain⟨⟨⟨h1,h2⟩,h3⟩,h4⟩:=hc
  refine wp_region_any hm (Cu.any _ _ _ _ (Yv ops) ((UI h1 h2 _ true false _ s ρ d L Ls ops.size _ h4 hs (fun e=>by cases e) h hOk.drew hle ?_ h3).1 rfl))
  exact hk.trans ⟨rfl,rfl,rfl,ZL _⟩
 ·cases hs
def Vg{pr:Bool}{P}{n:Nat}{ds F W0 d0}(hm:P.follows .mixedOrders=true):
  ∀(c:Code) (Q:Er) (ρ:Env) (d:Ag) (L:List Ag) (W:World),gwp P (It pr P n c) Q ρ d L→Ok (d::(L++F)) W→Le d0 d→B6 W0 W→c.wp P (lift n ds F W0 d0 Q) (act n ρ ds) W:=by
 intro c
 induction c with
 |skip=>
  intro Q ρ d L W h hOk hle hk
  exact wp_skip ⟨ρ,d,L,rfl,hOk,hle,hk,h⟩
 |region id ops drawn=>
  intro Q ρ d L W h hOk hle hk
  simp only[It] at h
  cases hs:QT pr P n ops drawn with
  |none=>rw[hs] at h;exact h.elim
  |some s=>
  rw[hs] at h
  cases drawn with
  |false=>
   simp only[QT] at hs
   exact wp_region (IQ _ s hs ρ d L W h hOk hle hk)
  |true=>
   obtain⟨d1,Ls,L1,hv,h⟩:=h
   have hOk1:=hv.2 F W hOk
   refine Qv hm hs h (hOk1.perm (Z1 d1 ?_)) (hle.trans hv.1) hk
   rw[←Zy]
   exact(Aaj).append_right F
 |seq a b iha ihb=>
  intro Q ρ d L W h hOk hle hk
  refine wp_seq (wp_mono (iha _ ρ d L W h hOk hle hk) ?_)
  intro e a w hq
  cases e with
  |normal=>
   obtain⟨ρ',d',L',rfl,h1,h2,h3,h4⟩:=hq
   exact ihb Q ρ' d' L' w h4 h1 h2 h3
  |_=>exact hq
 |cond c a b iha ihb=>
  intro Q ρ d L W h hOk hle hk
  simp only[It] at h
  split at h
  ·rename_i hc
   obtain⟨t,ht,h1,h2⟩:=h
   exact wp_cond_split (by rw[Bp hc];exact ht) (fun e=>iha Q ρ d L W (h1 e) hOk hle hk) (fun e=>ihb Q ρ d L W (h2 e) hOk hle hk)
  ·exact h.elim
 |block id a iha=>
  intro Q ρ d L W h hOk hle hk
  refine wp_block (wp_mono (iha _ ρ d L W h hOk hle hk) ?_)
  intro e a w hq
  cases e with
  |exit i=>
   obtain⟨ρ',d',L',rfl,h1,h2,h3,h4⟩:=hq
   simp only[Exit.inBlock]
   by_cases e:i=id
   ·simp only[e,if_true] at h4⊢
    exact⟨ρ',d',L',rfl,h1,h2,h3,h4⟩
   ·simp only[if_neg e] at h4⊢
    exact⟨ρ',d',L',rfl,h1,h2,h3,h4⟩
  |_=>exact hq
 |loop a iha=>
  intro Q ρ d L W h hOk hle hk
  obtain⟨I,⟨m,hI⟩,round⟩:=h
  refine wp_loop_ghost (fun m a w=>∃ρ d L,a=act n ρ ds∧Ok (d::(L++F)) w∧Le d0 d∧B6 W0 w∧I m ρ d L) m ⟨ρ,d,L,rfl,hOk,hle,hk,hI⟩ ?_
  rintro m a w ⟨ρ',d',L',rfl,h1,h2,h3,h4⟩
  refine wp_mono (iha _ ρ' d' L' w (round m ρ' d' L' h4) h1 h2 h3) ?_
  intro e a w hq
  cases e with
  |normal=>
   obtain⟨ρ'',d'',L'',rfl,k1,k2,k3,m',k4,k5⟩:=hq
   exact⟨m',k4,ρ'',d'',L'',rfl,k1,k2,k3,k5⟩
  |_=>exact hq
 |exit id=>
  intro Q ρ d L W h hOk hle hk
  exact wp_exit ⟨ρ,d,L,rfl,hOk,hle,hk,h⟩
 |ret=>
  intro Q ρ d L W h hOk hle hk
  exact wp_ret ⟨ρ,d,L,rfl,hOk,hle,hk,h⟩
 |_=>intro Q ρ d L W h;exact h.elim
def Km(ρ:Env)(C:Addr→Value→Prop):Is→Value→Prop
 |.tmp t,v=>v=ρ t
 |.cell t n,v=>evq ρ C (.ld n (.tmp t)) v
def GW(ρ:Env)(C:Addr→Value→Prop):List Is→List Value→Prop
 |[],[]=>True
 |r::rs,v::vs=>Km ρ C r v∧GW ρ C rs vs
 |_,_=>False
def Qu:List Value→Value
 |[v]=>v
 |vs=>.tuple vs.toArray
def Cs(res:List Is)(R:Ending→Ag→List Ag→Prop)(ρ:Env)(d:Ag)(L:List Ag):Prop:=
 ∃vs,GW ρ (HC d L) res vs∧∃d' L',Vs d L d' L'∧R (.returned (Qu vs)) d' L'
def mkPost(res:List Is)(R:Ending→Ag→List Ag→Prop):Er:=
 {n:=Cs res R,ex:=fun _ _ _ _=>False,ret:=Cs res R,pan:=fun c d L=>∃d' L',Vs d L d' L'∧R (.panicked c) d' L'}
def TJ(args:List Value):Env:=fun i=>args.getD i undef
def Ot(tmps:Array Value):ResultVar→Sem Value
 |.tmp t=>pure (tmps.getD t undef)
 |.cell a t=>do loadVar t (←asAddr (tmps.getD a undef))
def SG(fn:Func)(tmps:Array Value):results fn tmps=(do let vs←fn.results.mapM (Ot tmps);pure (if h:vs.size=1 then vs[0] else .tuple vs)):=rfl
def LM{P:Program}{n:Nat}{ρ:Env}{ds:List Deferred}{d:Ag}{L:List Ag}{W:World}(hl:∀a v,HC d L a v→W.cell? a=some v):
  ∀(rs:List ResultVar) (gs:List Is) (vs:List Value),rs.mapM (M8 P n)=some gs→GW ρ (HC d L) gs vs→
   (rs.mapM (Ot (act n ρ ds).tmps)).run P W=.ok vs W
 |[],gs,vs,hg,h=>by
  simp at hg;subst hg;cases vs with
  |nil=>simp
  |cons=>simp[GW] at h
 |r::rs,gs,vs,hg,h=>by
  simp only[List.mapM_cons,Option.bind_eq_bind,ZZ,Option.pure_def,Option.some.injEq] at hg;obtain⟨g,hr,gs',hgs,rfl⟩:=hg;cases vs with
  |nil=>simp[GW] at h
  |cons v vs=>
   obtain⟨h1,h2⟩:=h
   have ih:=LM (ds:=ds) hl rs gs' vs hgs h2
   have get:∀t,t<n→(act n ρ ds).tmps.getD t undef=ρ t:=by
    intro t ht;simp[act,ht,Array.getD]
   simp only[List.mapM_cons,Sem.run_bind]
   have one:(Ot (act n ρ ds).tmps r).run P W=.ok v W:=by
    cases r with
    |tmp t=>
     simp only[M8] at hr
     split at hr<;>try cases hr
     rename_i ht
     simp only[Km] at h1;subst h1
     simp only[Ot,get t ht,Sem.run_pure]
    |cell t ty=>
     simp only[M8] at hr
     split at hr<;>try cases hr
     rename_i ht
     simp only[Aaa] at hr
     obtain⟨m,hm,rfl⟩:=hr
     simp only[Km] at h1
     have ldv:∀a,(loadVar ty a).run P W=(Instr.loadAt ty (.pointer (some a))).run P W:=by intro a;simp[Instr.loadAt,Instr.sureAddr]
     cases m with
     |none=>
      obtain⟨b,o,e1,e2⟩:=h1
      have e1:ρ t=.pointer (some ⟨b,o,none⟩):=e1
      simp only[Ot,Sem.run_bind,get t ht,e1,asAddr,Sem.run_pure,Result.andThen,ldv,Sa hm _ _ W (hl _ _ e2)]
     |some m=>
      obtain⟨b,o,cs,e1,e2,e3,rfl⟩:=h1
      have e1:ρ t=.pointer (some ⟨b,o,none⟩):=e1
      simp only[Ot,Sem.run_bind,get t ht,e1,asAddr,Sem.run_pure,Result.andThen,ldv,R4 hm b o cs e2 W (fun i u hu=>hl _ _ (e3 i u hu))]
   rw[one]
   simp only[Result.andThen,ih,Sem.run_pure]
def Bd{pr:Bool}{P f}{g:A6}(hd:QX pr P f=some g){args}(ha:args.length≤g.n){L R}
  (h:gwp P g.code (mkPost g.res R) (TJ args) d L):A8 P f args d L R:=by
 simp only[QX] at hd
 split at hd<;>try cases hd
 rename_i fn hf
 split at hd<;>try cases hd
 rename_i hn
 split at hd<;>try cases hd
 rename_i c hb
 rw[Aaa] at hd
 obtain⟨rs,hr,rfl⟩:=hd
 simp only[Aad,not_or,Bool.not_eq_true,Bool.not_eq_false'] at hn
 refine⟨⟨fn,hf,by rw[hb];rfl,hn.1⟩,fun F W hOk=>?_⟩
 refine calls_of_wp hf hb ?_
 have hinit:({tmps:=args.toArray++Array.replicate (fn.ntmps - args.toArray.size) undef,defers:=[]}:Act)=act fn.ntmps (TJ args) []:=by
  simp only[act,Act.mk.injEq,and_true];apply Array.ext
  ·simp at ha⊢;omega
  ·intro i h1 h2;simp only[Array.getElem_ofFn,TJ];by_cases hi:i<args.length
   ·rw[Array.getElem_append_left (by simpa using hi)];simp[hi]
   ·rw[Array.getElem_append_right (by simpa using hi)];simp[List.getD,List.getElem?_eq_none (Nat.le_of_not_lt hi)]
 rw[hinit]
 have hs:=Vg (ds:=[]) (F:=F) (W0:=W) (d0:=d) (by simpa using hn.2) c _ _ d L W h hOk (Le.refl d) (B6.refl W)
 refine wp_mono hs ?_
 have fin:∀a w,(∃ρ d' L',a=act fn.ntmps ρ []∧Ok (d'::(L'++F)) w∧Le d d'∧B6 W w∧Cs rs R ρ d' L')→
   a.defers=[]∧∃v,(results fn a.tmps).run P w=.ok v w∧(∃d' L',Ok (d'::(L'++F)) w∧Le d d'∧B6 W w∧R (.returned v) d' L'):=by
  rintro a w ⟨ρ,d',L',rfl,h1,h2,h3,vs,h4,d'',L'',h5,h6⟩
  refine⟨rfl,Qu vs,?_,d'',L'',h5.2 F w h1,h2.trans h5.1,h3,h6⟩
  have hl:∀a v,HC d' L' a v→w.cell? a=some v:=fun a v hc=>hc.cell h1.head (fun q hq=>h1.2 q (by simp[hq]))
  have:=LM (P:=P) (n:=fn.ntmps) (ρ:=ρ) (ds:=[]) hl fn.results.toList rs vs hr h4
  rw[SG,Array.mapM_eq_mapM_toList]
  simp only[Sem.run_bind,Sem.run_map,this,Result.andThen,Sem.run_pure]
  cases vs with
  |nil=>rfl
  |cons v vs=>cases vs with
   |nil=>rfl
   |cons v' vs=>rfl
 intro e a w hq
 cases e with
 |normal=>exact fin a w hq
 |ret=>exact fin a w hq
 |panic c=>
  obtain⟨h1,d',L',h2,h3,h4,d'',L'',h5,h6⟩:=hq
  exact⟨h1,d'',L'',h5.2 F w h2,h3.trans h5.1,h4,h6⟩
 |exit i=>obtain⟨_,_,_,_,_,_,_,hh⟩:=hq;exact hh.elim
 |goto l=>exact hq.elim
 |outgrown=>exact hq.elim
end
section
def lk(tk:Bool)(Ls L:List Ag):List Ag:=match tk with|true=>Ls|false=>Ls++L
def DC(d:Ag)(b o:Nat)(v:Value):Prop:=∃c T fr,d b (.cells c T fr)∧c[o]?=some v
def DCs(d:Ag)(b o:Nat)(vs:List Value):Prop:=∃c T fr,d b (.cells c T fr)∧∀i u,vs[i]?=some u→c[o+i]?=some u
def DCs.at{d}{b o:Nat}{vs}(h:DCs d b o vs){i:Nat}{u}(hi:vs[i]?=some u):DC d b (o+i) u:=
 let ⟨c,T,fr,h1,h2⟩:=h
 ⟨c,T,fr,h1,h2 i u hi⟩
def DC.mono{d d'}{b o:Nat}(h:DC d b o v)(hl:Le d d'):DC d' b o v:=
 let ⟨c,T,fr,h1,h2⟩:=h
 ⟨c,T,fr,hl _ _ h1,h2⟩
def DCs.mono{d d'}{b o:Nat}{vs}(h:DCs d b o vs)(hl:Le d d'):DCs d' b o vs:=
 let ⟨c,T,fr,h1,h2⟩:=h
 ⟨c,T,fr,hl _ _ h1,h2⟩
def DC.cells{d}{b o:Nat}(h:DC d b o v):DCs d b o [v]:=
 let ⟨c,T,fr,h1,h2⟩:=h
 ⟨c,T,fr,h1,fun i u hi=>by
  cases i with
  |zero=>simp at hi;subst hi;exact h2
  |succ i=>simp at hi⟩
def DCs.one{d}{b o:Nat}(h:DCs d b o [v]):DC d b o v:=h.at (i:=0) rfl
def MA{d Lk}{b o:Nat}(h:DC d b o v):HC d Lk ⟨b,o,none⟩ v:=
 let ⟨c,T,fr,h1,h2⟩:=h
 ⟨rfl,d,.inl rfl,c,T,fr,h1,h2⟩
def Ci{d Lk}{b o:Nat}{vs}{i:Nat}(h:DCs d b o vs)(hi:vs[i]?=some v):HC d Lk ⟨b,o+i,none⟩ v:=MA (h.at hi)
def A1{d Lk}{b o:Nat}{vs}(h:DCs d b o vs)(hi:vs[0]?=some v):HC d Lk ⟨b,o,none⟩ v:=MA (h.at hi)
def Aj{d Lk}{b o:Nat}{T l}(i:Nat)(h:Lk[i]?=some (bx b T l))(ho:l[o]?=some v):HC d Lk ⟨b,o,none⟩ v:=
 ⟨rfl,bx b T l,.inr (Abj h),l.toArray,T,(0,0),CI _ _,by simpa using ho⟩
section
variable {P:Program}{pan:List PanicEntry→A0}{Qn:Env→A0}{Ls L:List Ag}{ρ:Env}{d:Ag}{tk:Bool}{s:GS}{t:Nat}
def B9{g:GOp}(d1:Ag)(L1:List Ag)(hv:Vs d L d1 L1):gws P pan Qn (.op false g s) Ls ρ d1 L1→gws P pan Qn (.op false g s) Ls ρ d L
 |⟨d2,L2,h1,h2⟩=>⟨d2,L2,hv.trans h1,h2⟩
def BF{g:GOp}{h}(k:∀d',Le d d'→Le h d'→gws P pan Qn (.op false g s) Ls ρ d' L):gws P pan Qn (.op false g s) Ls ρ d (h::L):=
 B9 (join d h) L Vs.freeze (k _ (Le.BD d h) (Le.BZ d h))
def w_q{q:GI}(hq:q.quiet=true)(hv:evq ρ (HC d (lk tk Ls L)) q v)(h:gws P pan Qn s Ls (upd ρ t v) d L):
  gws P pan Qn (.op tk ⟨some t,none,q⟩ s) Ls ρ d L:=by
 cases tk with
 |true=>simp only[gws,gop];rw[DU hq];exact⟨v,hv,h⟩
 |false=>exact⟨d,L,Vs.refl d L,by simp only[gop];rw[DU hq];exact⟨v,hv,d,L,Vs.refl d L,h⟩⟩
def Ew(h:gws P pan Qn s Ls (upd ρ t (ev ρ x)) d L):gws P pan Qn (.op tk ⟨some t,none,.mv x⟩ s) Ls ρ d L:=w_q rfl rfl h
def Ab(e:ev ρ x=.int k a)(h:gws P pan Qn s Ls (upd ρ t (.int k a)) d L):gws P pan Qn (.op tk ⟨some t,none,.mv x⟩ s) Ls ρ d L:=w_q rfl e.symm h
def Ad{a:Bool}(e:ev ρ x=.bool a)(h:gws P pan Qn s Ls (upd ρ t (.bool a)) d L):gws P pan Qn (.op tk ⟨some t,none,.mv x⟩ s) Ls ρ d L:=w_q rfl e.symm h
def As{a}{n c:Nat}(e:ev ρ x=.slice a n c)(h:gws P pan Qn s Ls (upd ρ t (.slice a n c)) d L):gws P pan Qn (.op tk ⟨some t,none,.mv x⟩ s) Ls ρ d L:=w_q rfl e.symm h
def Bk{l}(e:ev ρ x=Al l)(h:gws P pan Qn s Ls (upd ρ t (Al l)) d L):gws P pan Qn (.op tk ⟨some t,none,.mv x⟩ s) Ls ρ d L:=w_q rfl e.symm h
def Bj{l:Array Value}(e:ev ρ x=.tuple l)(h:gws P pan Qn s Ls (upd ρ t (.tuple l)) d L):gws P pan Qn (.op tk ⟨some t,none,.mv x⟩ s) Ls ρ d L:=w_q rfl e.symm h
def CV{f:Fn}{a b:Array Value}(e:ev ρ x=.func f a b)(h:gws P pan Qn s Ls (upd ρ t (.func f a b)) d L):gws P pan Qn (.op tk ⟨some t,none,.mv x⟩ s) Ls ρ d L:=w_q rfl e.symm h
def Yi{a b}(e:ev ρ c=.bool true)(ea:ev ρ a=v)(h:gws P pan Qn s Ls (upd ρ t v) d L):gws P pan Qn (.op tk ⟨some t,none,.pick c a b⟩ s) Ls ρ d L:=
 w_q rfl ⟨true,e,by simp[ea]⟩ h
def Yc{a b}(e:ev ρ c=.bool false)(eb:ev ρ b=v)(h:gws P pan Qn s Ls (upd ρ t v) d L):gws P pan Qn (.op tk ⟨some t,none,.pick c a b⟩ s) Ls ρ d L:=
 w_q rfl ⟨false,e,by simp[eb]⟩ h
def Ap{a b}{v:Bool}(e:ev ρ c=.bool true)(ea:ev ρ a=.bool v)(h:gws P pan Qn s Ls (upd ρ t (.bool v)) d L):gws P pan Qn (.op tk ⟨some t,none,.pick c a b⟩ s) Ls ρ d L:=Yi e ea h
def An{a b}{v:Bool}(e:ev ρ c=.bool false)(eb:ev ρ b=.bool v)(h:gws P pan Qn s Ls (upd ρ t (.bool v)) d L):gws P pan Qn (.op tk ⟨some t,none,.pick c a b⟩ s) Ls ρ d L:=Yc e eb h
def Af{off b o:Nat}(e:ev ρ x=.pointer (some ⟨b,o,none⟩))(h:gws P pan Qn s Ls (upd ρ t (.pointer (some ⟨b,o+off,none⟩))) d L):
  gws P pan Qn (.op tk ⟨some t,none,.fld off x⟩ s) Ls ρ d L:=w_q rfl ⟨b,o,e,rfl⟩ h
def Ah{b o:Nat}(e:ev ρ x=.pointer (some ⟨b,o,none⟩))(hc:HC d (lk tk Ls L) ⟨b,o,none⟩ v)(h:gws P pan Qn s Ls (upd ρ t v) d L):
  gws P pan Qn (.op tk ⟨some t,none,.ld none x⟩ s) Ls ρ d L:=w_q rfl ⟨b,o,e,hc⟩ h
def AD{n b:Nat}{T l}(i:Nat)(e:ev ρ x=pZ b)(hi:(lk tk Ls L)[i]?=some (bx b T l))(hn:l.length=n)
  (h:gws P pan Qn s Ls (upd ρ t (.agg l.toArray)) d L):gws P pan Qn (.op tk ⟨some t,none,.ld (some n) x⟩ s) Ls ρ d L:=
 w_q rfl ⟨b,0,l,e,hn,fun j u hu=>by rw[Aac];exact Aj i hi hu,rfl⟩ h
def BE{n b o:Nat}{l}(e:ev ρ x=.pointer (some ⟨b,o,none⟩))(hd:DCs d b o l)(hn:l.length=n)
  (h:gws P pan Qn s Ls (upd ρ t (.agg l.toArray)) d L):gws P pan Qn (.op tk ⟨some t,none,.ld (some n) x⟩ s) Ls ρ d L:=
 w_q rfl ⟨b,o,l,e,hn,fun _ _ hu=>Ci hd hu,rfl⟩ h
def Db{op:BinOp}(e:C2 op (ev ρ x) (ev ρ y)=some v)(h:gws P pan Qn s Ls (upd ρ t v) d L):
  gws P pan Qn (.op tk ⟨some t,none,.bin op x y⟩ s) Ls ρ d L:=w_q rfl e h
def EJ(h1: -9223372036854775808≤a)(h2:a≤9223372036854775807):IntKind.i64.wrap a=a:=by
 simp[IntKind.wrap,IntKind.signed,IntKind.bits];omega
def AI(ex:ev ρ x=vZ a)(ey:ev ρ y=vZ b)(h1: -9223372036854775808≤a+b)(h2:a+b≤9223372036854775807)
  (h:gws P pan Qn s Ls (upd ρ t (vZ (a+b))) d L):gws P pan Qn (.op tk ⟨some t,none,.bin .add x y⟩ s) Ls ρ d L:=
 Db (by rw[ex,ey];simp[C2,EJ h1 h2]) h
def Bn(ex:ev ρ x=vZ a)(ey:ev ρ y=vZ b)(h1: -9223372036854775808≤a - b)(h2:a - b≤9223372036854775807)
  (h:gws P pan Qn s Ls (upd ρ t (vZ (a - b))) d L):gws P pan Qn (.op tk ⟨some t,none,.bin .sub x y⟩ s) Ls ρ d L:=
 Db (by rw[ex,ey];simp[C2,EJ h1 h2]) h
def Hb(ex:ev ρ x=vZ a)(ey:ev ρ y=vZ b)(h1: -9223372036854775808≤a*b)(h2:a*b≤9223372036854775807)
  (h:gws P pan Qn s Ls (upd ρ t (vZ (a*b))) d L):gws P pan Qn (.op tk ⟨some t,none,.bin .mul x y⟩ s) Ls ρ d L:=
 Db (by rw[ex,ey];simp[C2,EJ h1 h2]) h
def Ie(ex:ev ρ x=vZ a)(ey:ev ρ y=vZ b)(h1:0≤a)(h2:0<b)(h3:a≤9223372036854775807)
  (h:gws P pan Qn s Ls (upd ρ t (vZ (a / b))) d L):gws P pan Qn (.op tk ⟨some t,none,.bin .quo x y⟩ s) Ls ρ d L:=by
 refine Db ?_ h
 have h4:¬b=0:=by omega
 have h5:a.tdiv b=a / b:=Int.tdiv_eq_ediv_of_nonneg h1
 have h6:0≤a / b:=Int.ediv_nonneg h1 (by omega)
 have h7:a / b≤a:=Int.ediv_le_self b h1
 rw[ex,ey];simp[C2,h4,h5];exact EJ (by omega) (by omega)
def Im(ex:ev ρ x=.int k a)(ey:ev ρ y=.int k b)(h1:0≤a)(h2:0<b)
  (h:gws P pan Qn s Ls (upd ρ t (.int k (a % b))) d L):gws P pan Qn (.op tk ⟨some t,none,.bin .rem x y⟩ s) Ls ρ d L:=by
 refine Db ?_ h
 have h4:¬b=0:=by omega
 have h5:a.tmod b=a % b:=Int.tmod_eq_emod_of_nonneg h1
 rw[ex,ey];simp[C2,h4,h5]
def Ax(ex:ev ρ x=.int k a)(ey:ev ρ y=.int k b)(h:gws P pan Qn s Ls (upd ρ t (.bool (decide (a<b)))) d L):
  gws P pan Qn (.op tk ⟨some t,none,.bin .lss x y⟩ s) Ls ρ d L:=Db (by rw[ex,ey];simp[C2]) h
def CW(ex:ev ρ x=.int k a)(ey:ev ρ y=.int k b)(h:gws P pan Qn s Ls (upd ρ t (.bool (decide (a≤b)))) d L):
  gws P pan Qn (.op tk ⟨some t,none,.bin .leq x y⟩ s) Ls ρ d L:=Db (by rw[ex,ey];simp[C2]) h
def AP(ex:ev ρ x=.int k a)(ey:ev ρ y=.int k b)(h:gws P pan Qn s Ls (upd ρ t (.bool (decide (b<a)))) d L):
  gws P pan Qn (.op tk ⟨some t,none,.bin .gtr x y⟩ s) Ls ρ d L:=Db (by rw[ex,ey];simp[C2]) h
def B5(ex:ev ρ x=.int k a)(ey:ev ρ y=.int k b)(h:gws P pan Qn s Ls (upd ρ t (.bool (decide (b≤a)))) d L):
  gws P pan Qn (.op tk ⟨some t,none,.bin .geq x y⟩ s) Ls ρ d L:=Db (by rw[ex,ey];simp[C2]) h
def Aq(ex:ev ρ x=.int k a)(ey:ev ρ y=.int k b)(h:gws P pan Qn s Ls (upd ρ t (.bool (decide (a=b)))) d L):
  gws P pan Qn (.op tk ⟨some t,none,.bin .eql x y⟩ s) Ls ρ d L:=Db (by rw[ex,ey];simp[C2];rfl) h
def AG(ex:ev ρ x=.int k a)(ey:ev ρ y=.int k b)(h:gws P pan Qn s Ls (upd ρ t (.bool (decide (a≠b)))) d L):
  gws P pan Qn (.op tk ⟨some t,none,.bin .neq x y⟩ s) Ls ρ d L:=Db (by rw[ex,ey];simp[C2];by_cases e:a=b<;>simp[e]) h
def Ek{a b}(ex:ev ρ x=Al a)(ey:ev ρ y=Al b)(h:gws P pan Qn s Ls (upd ρ t (.bool (decide (a=b)))) d L):
  gws P pan Qn (.op tk ⟨some t,none,.bin .eql x y⟩ s) Ls ρ d L:=Db (by rw[ex,ey];simp[C2,Al];by_cases e:a=b<;>simp[e]) h
def C3{a b}(ex:ev ρ x=Al a)(ey:ev ρ y=Al b)(h:gws P pan Qn s Ls (upd ρ t (.bool (decide (a≠b)))) d L):
  gws P pan Qn (.op tk ⟨some t,none,.bin .neq x y⟩ s) Ls ρ d L:=Db (by rw[ex,ey];simp[C2,Al];by_cases e:a=b<;>simp[e]) h
def Lf{a b}(ex:ev ρ x=Al a)(ey:ev ρ y=Al b)(h:gws P pan Qn s Ls (upd ρ t (.bool (Op.bytesLess a b))) d L):
  gws P pan Qn (.op tk ⟨some t,none,.bin .lss x y⟩ s) Ls ρ d L:=Db (by rw[ex,ey];simp[C2,Al]) h
def Xj{a b}(ex:ev ρ x=Al a)(ey:ev ρ y=Al b)(h:gws P pan Qn s Ls (upd ρ t (.bool (!(Op.bytesLess a b||decide (a=b))))) d L):
  gws P pan Qn (.op tk ⟨some t,none,.bin .gtr x y⟩ s) Ls ρ d L:=Db (by rw[ex,ey];simp[C2,Al];by_cases e:a=b<;>simp[e]) h
def PM{a b}(ex:ev ρ x=Al a)(ey:ev ρ y=Al b)(h:gws P pan Qn s Ls (upd ρ t (.bool (!Op.bytesLess a b))) d L):
  gws P pan Qn (.op tk ⟨some t,none,.bin .geq x y⟩ s) Ls ρ d L:=Db (by rw[ex,ey];simp[C2,Al]) h
def YI{a b}(ex:ev ρ x=Al a)(ey:ev ρ y=Al b)(hn:a.length+b.length≤9223372036854775807)(h:gws P pan Qn s Ls (upd ρ t (Al (a++b))) d L):
  gws P pan Qn (.op tk ⟨some t,none,.bin .add x y⟩ s) Ls ρ d L:=by
 refine Db ?_ h
 have hs:∀l:List UInt8,(⟨l.toArray⟩:ByteArray).size=l.length:=fun l=>by simp[ByteArray.size]
 have:¬(((a.length+b.length:Nat):Int)>IntKind.i64.max):=by
  have:IntKind.i64.max=9223372036854775807:=by decide
  rw[this];omega
 rw[ex,ey]
 simp only[C2,Al,hs,if_neg this,Option.some.injEq,Value.string.injEq]
 apply ByteArray.ext
 simp
def Bi{b:Bool}(ex:ev ρ x=.bool b)(h:gws P pan Qn s Ls (upd ρ t (.bool (!b))) d L):gws P pan Qn (.op tk ⟨some t,none,.un .not x⟩ s) Ls ρ d L:=
 w_q rfl (by simp[evq,unV,ex]) h
def Xb(ex:ev ρ x=vZ a)(h1: -9223372036854775807≤a)(h2:a≤9223372036854775807)(h:gws P pan Qn s Ls (upd ρ t (vZ (-a))) d L):
  gws P pan Qn (.op tk ⟨some t,none,.un .neg x⟩ s) Ls ρ d L:=
 w_q rfl (by have:=EJ (a:= -a) (by omega) (by omega);simp[evq,unV,ex,this]) h
def Tm{j}(ex:ev ρ x=.int j a)(h:gws P pan Qn s Ls (upd ρ t (.int k (k.wrap a))) d L):gws P pan Qn (.op tk ⟨some t,none,.cvi k x⟩ s) Ls ρ d L:=
 w_q rfl ⟨j,a,ex,rfl⟩ h
def FW{j}(ex:ev ρ x=.int j a)(h1: -9223372036854775808≤a)(h2:a≤9223372036854775807)(h:gws P pan Qn s Ls (upd ρ t (vZ a)) d L):
  gws P pan Qn (.op tk ⟨some t,none,.cvi .i64 x⟩ s) Ls ρ d L:=Tm ex (by rw[EJ h1 h2];exact h)
def AA{a}{n c:Nat}(ex:ev ρ x=.slice a n c)(h:gws P pan Qn s Ls (upd ρ t (vZ n)) d L):gws P pan Qn (.op tk ⟨some t,none,.len x⟩ s) Ls ρ d L:=
 w_q rfl ⟨a,n,c,ex,rfl⟩ h
def ED{l}(ex:ev ρ x=Al l)(h:gws P pan Qn s Ls (upd ρ t (vZ l.length)) d L):gws P pan Qn (.op tk ⟨some t,none,.lens x⟩ s) Ls ρ d L:=
 w_q rfl ⟨l,ex,rfl⟩ h
def Ic(ex:ev ρ x=.int k a)(ey:ev ρ y=.int k b)(h:gws P pan Qn s Ls (upd ρ t (.int k (max a b))) d L):
  gws P pan Qn (.op tk ⟨some t,none,.mx2 x y⟩ s) Ls ρ d L:=w_q rfl ⟨k,a,b,ex,ey,by congr 1;split<;>omega⟩ h
def PE(ex:ev ρ x=.int k a)(ey:ev ρ y=.int k b)(h:gws P pan Qn s Ls (upd ρ t (.int k (min a b))) d L):
  gws P pan Qn (.op tk ⟨some t,none,.mn2 x y⟩ s) Ls ρ d L:=w_q rfl ⟨k,a,b,ex,ey,by congr 1;split<;>omega⟩ h
def AL{i:Nat}{vs:Array Value}(ex:ev ρ x=.tuple vs)(e:vs[i]?=some v)(h:gws P pan Qn s Ls (upd ρ t v) d L):
  gws P pan Qn (.op tk ⟨some t,none,.ext x i⟩ s) Ls ρ d L:=w_q rfl ⟨vs,ex,e⟩ h
def SAd(a:Option Addr)(n b o:Nat):Prop:=n≠0→a=some ⟨b,o,none⟩
def SAd.some(n b o:Nat):SAd (some ⟨b,o,none⟩) n b o:=fun _=>rfl
def Eh{i}{sz b o n c:Nat}{a}{j:Int}(m:Nat)(ex:ev ρ x=.slice a n c)(ei:ev ρ i=.int k j)(hm:j=(m:Int))(hl:m<n)(hA:SAd a n b o)
  (h:gws P pan Qn s Ls (upd ρ t (.pointer (some ⟨b,o+m*sz,none⟩))) d L):gws P pan Qn (.op tk ⟨some t,none,.idx sz x i⟩ s) Ls ρ d L:=by
 subst hm
 rw[hA (by omega)] at ex
 exact w_q rfl ⟨b,o,n,c,k,m,ex,ei,by omega,by omega,rfl⟩ h
def Uu{i l}{j:Int}{u:UInt8}(m:Nat)(ex:ev ρ x=Al l)(ei:ev ρ i=.int k j)(hm:j=(m:Int))(hl:l[m]?=some u)
  (h:gws P pan Qn s Ls (upd ρ t (.int .u8 u.toNat)) d L):gws P pan Qn (.op tk ⟨some t,none,.sidx x i⟩ s) Ls ρ d L:=by
 subst hm
 exact w_q rfl ⟨l,k,m,u,ex,ei,by omega,by simpa using hl,rfl⟩ h
def W8{fn:Fn}{first cap}(h:gws P pan Qn s Ls (upd ρ t (.func fn (first.map (ev ρ)).toArray (cap.map (ev ρ)).toArray)) d L):
  gws P pan Qn (.op tk ⟨some t,none,.mkf fn first cap⟩ s) Ls ρ d L:=w_q rfl rfl h
def BN{pl:List (Nat×Nat)}{z:List Value}{ps:List (Nat×Operand)}{cs:List Value}(e:Instr.fill (pl[·]?) z.toArray (ps.map fun p=>(p.1,ev ρ p.2))=some cs.toArray)
  (h:gws P pan Qn s Ls (upd ρ t (.agg cs.toArray)) d L):gws P pan Qn (.op tk ⟨some t,none,.bld pl z ps⟩ s) Ls ρ d L:=w_q rfl ⟨cs.toArray,e,rfl⟩ h
def Xg{a}{n c b o:Nat}{l}(ex:ev ρ x=.slice a n c)(hn:n=l.length)(hA:SAd a n b o)
  (hc:∀i u,l[i]?=some u→HC d (lk tk Ls L) ⟨b,o+i,none⟩ (Bz u)) (h:gws P pan Qn s Ls (upd ρ t (Al l)) d L):gws P pan Qn (.op tk ⟨some t,none,.b2s x⟩ s) Ls ρ d L:=by
 subst hn
 refine w_q rfl ⟨a,l,c,ex,?_,?_,rfl⟩ h
 ·intro e
  cases l with
  |nil=>rfl
  |cons u l=>have:=hA (by simp);rw[e] at this;cases this
 ·intro a' e i u hu
  have hl:l.length≠0:=by
   intro h0;have:=List.length_eq_zero_iff.1 h0;subst this;simp at hu
  have:=hA hl
  rw[e] at this;cases this
  rw[Addr.add_lit]
  exact hc i u hu
def Y5{l m}(hx:Fj (HC d (lk tk Ls L)) (ev ρ x) l)(hy:Fj (HC d (lk tk Ls L)) (ev ρ y) m)(h:gws P pan Qn s Ls (upd ρ t (vZ (Lib.compareBytes l m))) d L):
  gws P pan Qn (.op tk ⟨some t,none,.bcmp x y⟩ s) Ls ρ d L:=w_q rfl ⟨l,m,hx,hy,rfl⟩ h
def UX{neg:Bool}{n c n' c':Nat}(ex:ev ρ x=.slice none n c)(ey:ev ρ y=.slice none n' c')(h:gws P pan Qn s Ls (upd ρ t (.bool (!neg))) d L):
  gws P pan Qn (.op tk ⟨some t,none,.eqs neg x y⟩ s) Ls ρ d L:=w_q rfl ⟨none,n,c,ex,⟨n',c',ey⟩,by cases neg<;>rfl⟩ h
def UY{neg:Bool}{a:Addr}{n c n' c':Nat}(ex:ev ρ x=.slice (some a) n c)(ey:ev ρ y=.slice none n' c')(h:gws P pan Qn s Ls (upd ρ t (.bool neg)) d L):
  gws P pan Qn (.op tk ⟨some t,none,.eqs neg x y⟩ s) Ls ρ d L:=w_q rfl ⟨some a,n,c,ex,⟨n',c',ey⟩,by cases neg<;>rfl⟩ h
def SQ{neg:Bool}{a b:Bool}(ex:ev ρ x=.bool a)(ey:ev ρ y=.bool b)(h:gws P pan Qn s Ls (upd ρ t (.bool (neg ^^(a==b)))) d L):
  gws P pan Qn (.op tk ⟨some t,none,.eqb neg x y⟩ s) Ls ρ d L:=w_q rfl ⟨a,b,ex,ey,rfl⟩ h
def Ae{g:Nat}{want:Bool}{dst:Option Nat}(e:ρ g=.bool want)(h:gws P pan Qn (.op tk ⟨dst,none,i⟩ s) Ls ρ d L):gws P pan Qn (.op tk ⟨dst,some (g,want),i⟩ s) Ls ρ d L:=by
 cases tk with
 |true=>simp only[gws,gop] at h⊢;exact .inl ⟨want,e,fun _=>h,fun e=>by cases want<;>cases e⟩
 |false=>obtain⟨d1,L1,h1,h2⟩:=h;exact⟨d1,L1,h1,by simp only[gop] at h2⊢;exact .inl ⟨want,e,fun _=>h2,fun e=>by cases want<;>cases e⟩⟩
def Ze{g:Nat}{want:Bool}{dst:Option Nat}(e:ρ g=.bool (!want))(h:gws P pan Qn s Ls (put ρ dst undef) d L):gws P pan Qn (.op tk ⟨dst,some (g,want),i⟩ s) Ls ρ d L:=by
 cases tk with
 |true=>simp only[gws,gop] at h⊢;exact .inl ⟨!want,e,(fun e=>by cases want<;>cases e),fun _=>h⟩
 |false=>exact⟨d,L,Vs.refl d L,by simp only[gop];exact .inl ⟨!want,e,(fun e=>by cases want<;>cases e),fun _=>⟨d,L,Vs.refl d L,h⟩⟩⟩
def Zj{g:Nat}{want:Bool}{dst:Option Nat}(e:ρ g=undef)(h:gws P pan Qn s Ls (put ρ dst undef) d L):gws P pan Qn (.op tk ⟨dst,some (g,want),i⟩ s) Ls ρ d L:=by
 cases tk with
 |true=>simp only[gws,gop] at h⊢;exact .inr ⟨e,h⟩
 |false=>exact⟨d,L,Vs.refl d L,by simp only[gop];exact .inr ⟨e,d,L,Vs.refl d L,h⟩⟩
def AY{g t:Nat}{want:Bool}(e:ρ g=undef)(h:gws P pan Qn s Ls (upd ρ t undef) d L):gws P pan Qn (.op tk ⟨some t,some (g,want),i⟩ s) Ls ρ d L:=Zj e h
def Ak{g t:Nat}{want:Bool}(e:ρ g=.bool (!want))(h:gws P pan Qn s Ls (upd ρ t undef) d L):gws P pan Qn (.op tk ⟨some t,some (g,want),i⟩ s) Ls ρ d L:=Ze e h
def Qj{g:Nat}(e:ρ g=v):upd ρ g v=ρ:=by
 funext i;simp only[upd];cases h:Nat.beq i g with
 |false=>rfl
 |true=>have:=Abp h;subst this;exact e.symm
def Lb{g:Nat}(e:ρ g=v)(h:gws P pan Qn s Ls (upd ρ g v) d L):gws P pan Qn s Ls ρ d L:=by rwa [Qj e] at h
def AE{g:Nat}{want:Bool}{dst:Option Nat}[Decidable p](e:ρ g=.bool (decide p))(hp:p)(h:gws P pan Qn (.op tk ⟨dst,some (g,want),i⟩ s) Ls (upd ρ g (.bool true)) d L):
  gws P pan Qn (.op tk ⟨dst,some (g,want),i⟩ s) Ls ρ d L:=Lb (by rw[e];simp[hp]) h
def AB{g:Nat}{want:Bool}{dst:Option Nat}[Decidable p](e:ρ g=.bool (decide p))(hp:¬p)(h:gws P pan Qn (.op tk ⟨dst,some (g,want),i⟩ s) Ls (upd ρ g (.bool false)) d L):
  gws P pan Qn (.op tk ⟨dst,some (g,want),i⟩ s) Ls ρ d L:=Lb (by rw[e];simp[hp]) h
def Jc{g:Nat}{want b:Bool}{dst:Option Nat}(e:ρ g=.bool b)(hp:b=true)(h:gws P pan Qn (.op tk ⟨dst,some (g,want),i⟩ s) Ls (upd ρ g (.bool true)) d L):
  gws P pan Qn (.op tk ⟨dst,some (g,want),i⟩ s) Ls ρ d L:=Lb (by rw[e,hp]) h
def Lj{g:Nat}{want b:Bool}{dst:Option Nat}(e:ρ g=.bool b)(hp:b=false)(h:gws P pan Qn (.op tk ⟨dst,some (g,want),i⟩ s) Ls (upd ρ g (.bool false)) d L):
  gws P pan Qn (.op tk ⟨dst,some (g,want),i⟩ s) Ls ρ d L:=Lb (by rw[e,hp]) h
def Aa(h:Qn ρ d L):gws P pan Qn .done [] ρ d L:=⟨d,L,Vs.refl _ _,h⟩
def AW(h:Qn ρ d (Ls++L)):gws P pan Qn .done Ls ρ d L:=⟨d,Ls++L,Vs.refl _ _,h⟩
def Bt(h:gws P pan Qn s [] ρ d (Ls++L)):gws P pan Qn (.bar s) Ls ρ d L:=h
def Xd(ex:ev ρ x=v)(h:∀b T,gws P pan Qn s Ls (upd ρ t (pZ b)) d (bx b T v.cells.toList::L)):
  gws P pan Qn (.op false ⟨some t,none,.box x⟩ s) Ls ρ d L:=⟨d,L,Vs.refl d L,fun b T=>⟨_,_,Vs.refl _ _,by subst ex;exact h b T⟩⟩
def AO{l}(ex:ev ρ x=.agg l.toArray)(h:∀b T,gws P pan Qn s Ls (upd ρ t (pZ b)) d (bx b T l::L)):
  gws P pan Qn (.op false ⟨some t,none,.box x⟩ s) Ls ρ d L:=Xd ex h
def AX{z}(h:∀b T,gws P pan Qn s Ls (upd ρ t (pZ b)) d (bx b T z.cells.toList::L)):
  gws P pan Qn (.op false ⟨some t,none,.alo z⟩ s) Ls ρ d L:=⟨d,L,Vs.refl d L,fun b T=>⟨_,_,Vs.refl _ _,h b T⟩⟩
def SS{n:Nat}{b o:Nat}{T l}(i:Nat)(hi:L[i]?=some (bx b T l))(ex:ev ρ x=.pointer (some ⟨b,o,none⟩))(ey:ev ρ y=v)
  (hn:v.cells.size=n) (hl:o+n≤l.length) (h1:(v.cells.toList.all (·.oneCell'))=true) (h:gws P pan Qn s Ls ρ d (L.set i (bx b T (patch l o v.cells.toList)))):
  gws P pan Qn (.op false ⟨none,none,.st n x y⟩ s) Ls ρ d L:=⟨d,L,Vs.refl d L,i,b,o,T,l,hi,ex,by rw[ey];exact hn,hl,by rw[ey];exact h1,_,_,Vs.refl _ _,by rw[ey];exact h⟩
def DI{n sz:Nat}{z}{ps:List (Nat×Operand)}{cs}(hn:n*sz≤16777216)(e:Instr.fill (fun i=>some (i*sz,sz)) (BC z (n*sz)).toArray (ps.map fun p=>(p.1,ev ρ p.2))=some cs.toArray)
  (h:∀b T,gws P pan Qn s Ls (upd ρ t (.slice (some ⟨b,0,none⟩) n n)) d (bx b T cs::L)):gws P pan Qn (.op false ⟨some t,none,.bsl n sz z ps⟩ s) Ls ρ d L:=
 ⟨d,L,Vs.refl d L,hn,cs.toArray,e,fun b T=>⟨_,_,Vs.refl _ _,h b T⟩⟩
def Io{sz by_:Nat}{z k'}{n c:Nat}(ex:ev ρ x=.int k (n:Nat))(ey:ev ρ y=.int k' (c:Nat))(h1:n≤c)(h2:c≤9223372036854775807)(h3:by_*c≤281474976710656)
  (h:∀b T,gws P pan Qn s Ls (upd ρ t (.slice (some ⟨b,0,none⟩) n c)) d (bx b T (BC z (c*sz))::L)):gws P pan Qn (.op false ⟨some t,none,.mks sz by_ z x y⟩ s) Ls ρ d L:=
 ⟨d,L,Vs.refl d L,k,k',n,c,ex,ey,h1,h2,h3,fun b T=>⟨_,_,Vs.refl _ _,h b T⟩⟩
def AR{f args R vs}(ea:args.map (ev ρ)=vs)(hc:A8 P f vs d [] (Ret R))
  (h:∀v d' L',Le d d'→R v d' L'→gws P pan Qn s Ls (upd ρ t v) d' (L'++L)):gws P pan Qn (.op false ⟨some t,none,.call f args⟩ s) Ls ρ d L:=
 ⟨d,L,Vs.refl d L,.inl ⟨[],L,Ret R,rfl,by rw[ea];exact hc,fun e d' L' hl hr=>by
  cases e with
  |returned v=>exact⟨_,_,Vs.refl _ _,h v d' L' hl hr⟩
  |panicked c=>exact hr.elim
  |outgrown=>exact hr⟩⟩
def Dv(n:Nat){f args R vs}(ea:args.map (ev ρ)=vs)(hc:A8 P f vs d (L.take n) (Ret R))
  (h:∀v d' L',Le d d'→R v d' L'→gws P pan Qn s Ls (upd ρ t v) d' (L'++L.drop n)):gws P pan Qn (.op false ⟨some t,none,.call f args⟩ s) Ls ρ d L:=
 ⟨d,L,Vs.refl d L,.inl ⟨L.take n,L.drop n,Ret R,by simp,by rw[ea];exact hc,fun e d' L' hl hr=>by
  cases e with
  |returned v=>exact⟨_,_,Vs.refl _ _,h v d' L' hl hr⟩
  |panicked c=>exact hr.elim
  |outgrown=>exact hr⟩⟩
def Sz(n:Nat){f g}{first cap:Array Value}{args R vs}(ef:ev ρ f=.func (.func g) first cap)
  (ea:first.toList++args.map (ev ρ)++cap.toList=vs) (hc:A8 P g vs d (L.take n) (Ret R))
  (h:∀v d' L',Le d d'→R v d' L'→gws P pan Qn s Ls (upd ρ t v) d' (L'++L.drop n)):gws P pan Qn (.op false ⟨some t,none,.callv f args⟩ s) Ls ρ d L:=
 ⟨d,L,Vs.refl d L,g,first,cap,L.take n,L.drop n,Ret R,ef,by simp,by rw[ea];exact hc,fun e d' L' hl hr=>by
  cases e with
  |returned v=>exact⟨_,_,Vs.refl _ _,h v d' L' hl hr⟩
  |panicked c=>exact hr.elim
  |outgrown=>exact hr⟩
end
def MF{P}{pan:List PanicEntry→A0}{g:GOp}{ρ d Lk L}{K K':Env→A0}(hk:∀ρ d L,K ρ d L→K' ρ d L)(h:gop P pan g ρ d Lk L K):gop P pan g ρ d Lk L K':=H7 hk h
def EN{P}{pan:List PanicEntry→A0}{Qn Qn':Env→A0}(hq:∀ρ d L,Qn ρ d L→Qn' ρ d L):∀(s:GS) {Ls ρ d L},gws P pan Qn s Ls ρ d L→gws P pan Qn' s Ls ρ d L
 |.done,_,_,_,_,⟨d1,L1,h1,h2⟩=>⟨d1,L1,h1,hq _ _ _ h2⟩
 |.op true _ s,_,_,_,_,h=>MF (fun _ _ _ h=>EN hq s h) h
 |.op false _ s,_,_,_,_,⟨d1,L1,h1,h2⟩=>⟨d1,L1,h1,MF (fun _ _ _ ⟨d3,L3,h3,h⟩=>⟨d3,L3,h3,EN hq s h⟩) h2⟩
 |.alt _ s t,_,_,_,_,⟨⟨d1,L1,h1,h2⟩,h3⟩=>⟨⟨d1,L1,h1,MF (fun _ _ _ ⟨d3,L3,h3,h⟩=>⟨d3,L3,h3,EN hq s h⟩) h2⟩,EN hq t h3⟩
 |.bar s,_,_,_,_,h=>EN hq s h
 |.par _ _ s,_,_,_,_,⟨Ra,Rb,d1,L1,L2,hv,sa,sb,h1,h2,h3⟩=>⟨Ra,Rb,d1,L1,L2,hv,sa,sb,h1,h2,fun ρ' d' M1 M2 hl ho r1 r2=>EN hq s (h3 ρ' d' M1 M2 hl ho r1 r2)⟩
def Fh{P}:∀(c:Cz) {Q Q':Er}{ρ d L},gwp P c Q ρ d L→(∀ρ d L,Q.n ρ d L→Q'.n ρ d L)→(∀i ρ d L,Q.ex i ρ d L→Q'.ex i ρ d L)→
  (∀ρ d L,Q.ret ρ d L→Q'.ret ρ d L)→Q.pan=Q'.pan→gwp P c Q' ρ d L
 |.skip,_,_,_,_,_,h,h1,_,_,_=>h1 _ _ _ h
 |.reg false s,_,_,_,_,_,h,h1,_,_,h4=>by simp only[gwp] at h⊢;rw[←h4];exact EN h1 s h
 |.reg true s,_,_,_,_,_,h,h1,_,_,h4=>by
  simp only[gwp] at h⊢;obtain⟨d1,Ls,L1,hv,h⟩:=h;exact⟨d1,Ls,L1,hv,by rw[←h4];exact EN h1 s h⟩
 |.seq a b,_,_,_,_,_,h,h1,h2,h3,h4=>by
  simp only[gwp] at h⊢;exact Fh a h (fun ρ d L h=>Fh b h h1 h2 h3 h4) h2 h3 h4
 |.cond c a b,_,_,_,_,_,h,h1,h2,h3,h4=>by
  simp only[gwp] at h⊢;obtain⟨t,ht,ha,hb⟩:=h;exact⟨t,ht,fun e=>Fh a (ha e) h1 h2 h3 h4,fun e=>Fh b (hb e) h1 h2 h3 h4⟩
 |.block id a,_,_,_,_,_,h,h1,h2,h3,h4=>by
  simp only[gwp] at h⊢;refine Fh a h h1 (fun i ρ d L h=>?_) h3 h4;simp only at h⊢;split
  ·rename_i e;rw[if_pos e] at h;exact h1 _ _ _ h
  ·rename_i e;rw[if_neg e] at h;exact h2 _ _ _ _ h
 |.loop a,_,_,_,_,_,h,_,h2,h3,h4=>by
  simp only[gwp] at h⊢;obtain⟨I,hI,round⟩:=h;exact⟨I,hI,fun m ρ d L hm=>Fh a (round m ρ d L hm) (fun _ _ _ h=>h) h2 h3 h4⟩
 |.exit i,_,_,_,_,_,h,_,h2,_,_=>h2 i _ _ _ h
 |.ret,_,_,_,_,_,h,_,_,h3,_=>h3 _ _ _ h
 |.bad,_,_,_,_,_,h,_,_,_,_=>h.elim
def FP{P}{c:Cz}{Q:Er}{N N':Env→A0}(hn:∀ρ d L,N ρ d L→N' ρ d L){ρ d L}(h:gwp P c {Q with n:=N} ρ d L):gwp P c {Q with n:=N'} ρ d L:=
 Fh c h hn (fun _ _ _ _ h=>h) (fun _ _ _ h=>h) rfl
def HF{d}{b:Nat}{T l}(h:Le (bx b T l) d):DCs d b 0 l:=
 ⟨l.toArray,T,(0,0),h _ _ (CI _ _),fun i u hu=>by simpa using hu⟩
section
variable {P:Program}{Q:Er}{ρ:Env}{d:Ag}{L:List Ag}
def Ay{s}(h:gws P Q.pan Q.n s [] ρ d L):gwp P (.reg false s) Q ρ d L:=h
def AT{s}(h:gws P Q.pan Q.n s L ρ d []):gwp P (.reg true s) Q ρ d L:=⟨d,L,[],by rw[ZW];exact Vs.refl d L,h⟩
def Hw{s}(is js:List Nat)(hp:(is++js).isPerm (Z8 L.length)=true)(h:gws P Q.pan Q.n s (pick L is) ρ d (pick L js)):gwp P (.reg true s) Q ρ d L:=
 ⟨d,pick L is,pick L js,by have:=Vs.pick (d:=d) (L:=L) (is++js) hp;simpa [pick] using this,h⟩
def Ai{a b:Cz}(h:gwp P a {Q with n:=gwp P b Q} ρ d L):gwp P (.seq a b) Q ρ d L:=h
def Am(h:Q.n ρ d L):gwp P .skip Q ρ d L:=h
def Ar(h:Q.ret ρ d L):gwp P .ret Q ρ d L:=h
def AV{i:Nat}(h:Q.ex i ρ d L):gwp P (.exit i) Q ρ d L:=h
def Av{i:Nat}{a:Cz}(h:gwp P a {Q with ex:=fun j=>if j=i then Q.n else Q.ex j} ρ d L):gwp P (.block i a) Q ρ d L:=h
def Zu{a b:Cz}{t:Bool}(e:ev ρ c=.bool t)(h1:t=true→gwp P a Q ρ d L)(h2:t=false→gwp P b Q ρ d L):gwp P (.cond c a b) Q ρ d L:=⟨t,e,h1,h2⟩
def Y7{a b:Cz}[Decidable p](e:ev ρ c=.bool (decide p))(h1:p→gwp P a Q ρ d L)(h2:¬p→gwp P b Q ρ d L):gwp P (.cond c a b) Q ρ d L:=
 ⟨decide p,e,fun h=>h1 (of_decide_eq_true h),fun h=>h2 (of_decide_eq_false h)⟩
def Bb{a b:Cz}(e:ev ρ c=.bool true)(h:gwp P a Q ρ d L):gwp P (.cond c a b) Q ρ d L:=⟨true,e,fun _=>h,fun e=>by cases e⟩
def AK{a b:Cz}(e:ev ρ c=.bool false)(h:gwp P b Q ρ d L):gwp P (.cond c a b) Q ρ d L:=⟨false,e,(fun e=>by cases e),fun _=>h⟩
def Au{a b:Cz}[Decidable p](e:ev ρ c=.bool (decide p))(hp:p)(h:gwp P a Q ρ d L):gwp P (.cond c a b) Q ρ d L:=Bb (by rw[e];simp[hp]) h
def Ao{a b:Cz}[Decidable p](e:ev ρ c=.bool (decide p))(hp:¬p)(h:gwp P b Q ρ d L):gwp P (.cond c a b) Q ρ d L:=AK (by rw[e];simp[hp]) h
def E9{a b:Cz}{t:Bool}(e:ev ρ c=.bool t)(hp:t=true)(h:gwp P a Q ρ d L):gwp P (.cond c a b) Q ρ d L:=Bb (by rw[e,hp]) h
def CU{a b:Cz}{t:Bool}(e:ev ρ c=.bool t)(hp:t=false)(h:gwp P b Q ρ d L):gwp P (.cond c a b) Q ρ d L:=AK (by rw[e,hp]) h
def YB{a:Cz}(I:Nat→Env→A0)(m:Nat)(h0:I m ρ d L)(round:∀m ρ d L,I m ρ d L→gwp P a {Q with n:=fun ρ d L=>∃m',m'<m∧I m' ρ d L} ρ d L):gwp P (.loop a) Q ρ d L:=
 ⟨I,⟨m,h0⟩,round⟩
def A9(ρ:Env):List (Nat×Value)→Prop
 |[]=>True
 |p::l=>ρ p.1=p.2∧A9 ρ l
def HU(ρ:Env):List (Nat×Value)→Env
 |[]=>ρ
 |p::l=>upd (HU ρ l) p.1 p.2
def KL{ρ}:∀{l:List (Nat×Value)},A9 ρ l→HU ρ l=ρ
 |[],_=>rfl
 |p::l,⟨h1,h2⟩=>by simp only[HU];rw[KL h2];exact Qj h1
def Bo{c:Cz}(l:List (Nat×Value))(e:A9 ρ l)(h:gwp P c Q (HU ρ l) d L):gwp P c Q ρ d L:=by rwa [KL e] at h
def A9.app{ρ}:∀{l m:List (Nat×Value)},A9 ρ l→A9 ρ m→A9 ρ (l++m)
 |[],_,_,h=>h
 |_::_,_,⟨h1,h2⟩,h=>⟨h1,h2.app h⟩
def A9.off{X:List Nat}{ρ ρ'}(ho:Off X ρ ρ'):∀{l:List (Nat×Value)},(l.all fun p=> !X.contains p.1)=true→A9 ρ l→A9 ρ' l
 |[],_,_=>trivial
 |p::l,h,⟨h1,h2⟩=>by
  simp only[List.all_cons,Zz] at h;exact⟨(ho p.1 (fun hm=>by have:=h.1;simp[hm] at this)).trans h1,A9.off ho h.2 h2⟩
def F8{Qn:Env→A0}{pan:List PanicEntry→A0}{Ls β a b s}(keep:List (Nat×Value))(sa:α→List (Nat×Value))(Ia:α→A0)(sb:β→List (Nat×Value))(Ib:β→A0)(L1 L2:List Ag)(hv:L=L1++L2)
  (ma:∀x d d' M,Le d d'→Ia x d M→Ia x d' M) (mb:∀x d d' M,Le d d'→Ib x d M→Ib x d' M) (ka:∀x,((sa x).all fun p=> !b.Bu.contains p.1)=true) (kb:∀x,((sb x).all fun p=> !a.Bu.contains p.1)=true)
  (kk:(keep.all fun p=> !(a.Bu++b.Bu).contains p.1)=true) (hk:A9 ρ keep)
  (h1:gws P Ce (FI Ls fun ρ d M=>∃x,A9 ρ (sa x)∧Ia x d M) a Ls ρ d L1) (h2:gws P Ce (FI Ls fun ρ d M=>∃x,A9 ρ (sb x)∧Ib x d M) b Ls ρ d L2)
  (h3:∀x y ρ d' M1 M2,Le d d'→Ia x d' M1→Ib y d' M2→gws P pan Qn s Ls (HU ρ (sa x++(sb y++keep))) d' (M1++M2)):gws P pan Qn (.par a b s) Ls ρ d L:=by
 refine⟨_,_,d,L1,L2,hv▸Vs.refl d L,?_,?_,h1,h2,fun ρ' d' M1 M2 hl ho ⟨x,hx,ix⟩ ⟨y,hy,iy⟩=>?_⟩
 ·rintro ρ ρ' d d' M ho hl ⟨x,hx,ix⟩
  exact⟨x,hx.off ho (ka x),ma x d d' M hl ix⟩
 ·rintro ρ ρ' d d' M ho hl ⟨x,hx,ix⟩
  exact⟨x,hx.off ho (kb x),mb x d d' M hl ix⟩
 ·have:=h3 x y ρ' d' M1 M2 hl ix iy
  rwa [KL (hx.app (hy.app (hk.off ho kk)))] at this
def Bg{a:Cz}(slots:α→List (Nat×Value))(inv:α→Ag→List Ag→Prop)(meas:α→Nat)(x0:α)(h0:A9 ρ (slots x0))(i0:inv x0 d L)
  (round:∀x ρ d L,inv x d L→gwp P a {Q with n:=fun ρ d L=>∃x',meas x'<meas x∧A9 ρ (slots x')∧inv x' d L} (HU ρ (slots x)) d L):gwp P (.loop a) Q ρ d L:=by
 refine YB (fun m ρ d L=>∃x,meas x=m∧A9 ρ (slots x)∧inv x d L) (meas x0) ⟨x0,rfl,h0,i0⟩ ?_
 rintro m ρ d L ⟨x,rfl,h1,h2⟩
 refine Bo _ h1 (FP (fun ρ' d' L' ⟨x',k1,k2,k3⟩=>⟨meas x',k1,x',rfl,k2,k3⟩) (round x ρ d L h2))
def CD{a:Cz}(slots:α→List (Nat×Value))(Lx:α→List Ag)(ok:α→Prop)(meas:α→Nat)(x0:α)(h0:A9 ρ (slots x0))(hL:L=Lx x0)(hok:ok x0)
  (round:∀x ρ,ok x→gwp P a {Q with n:=fun ρ d' L'=>∃x',meas x'<meas x∧A9 ρ (slots x')∧d'=d∧L'=Lx x'∧ok x'} (HU ρ (slots x)) d (Lx x)):gwp P (.loop a) Q ρ d L:=
 Bg slots (fun x d' L'=>d'=d∧L'=Lx x∧ok x) meas x0 h0 ⟨rfl,hL,hok⟩ (fun x ρ d' L' ⟨h1,h2,h3⟩=>by subst h1;subst h2;exact round x ρ h3)
def Ct{a b:Cz}(M:Env→A0)(h1:gwp P a {Q with n:=M} ρ d L)(h2:∀ρ d L,M ρ d L→gwp P b Q ρ d L):gwp P (.seq a b) Q ρ d L:=
 Ai (FP h2 h1)
def Vs.Qs(d:Ag):∀L:List Ag,∃d',Vs d L d' []∧Le d d'∧∀h∈L,Le h d'
 |[]=>⟨d,Vs.refl d [],Le.refl d,fun _ h=>by cases h⟩
 |h::L=>by
  obtain⟨d',h1,h2,h3⟩:=Vs.Qs (Gk.join d h) L;refine⟨d',Vs.freeze.trans h1,(Le.BD d h).trans h2,fun k hk=>?_⟩
  rcases ZR.1 hk with rfl|hk
  ·exact(Le.BZ d k).trans h2
  ·exact h3 k hk
def SO{R}{t:Nat}(e:ρ t=v)(h:∀d',Le d d'→(∀k∈L,Le k d')→R (.returned v) d' []):Cs [.tmp t] R ρ d L:=
 let ⟨d',h1,h2,h3⟩:=Vs.Qs d L
 ⟨[v],⟨e.symm,trivial⟩,d',[],h1,h d' h2 h3⟩
def PT{R}{t:Nat}{L'}(e:ρ t=v)(hs:L'.Sublist L)(h:R (.returned v) d L'):Cs [.tmp t] R ρ d L:=
 ⟨[v],⟨e.symm,trivial⟩,d,L',Vs.drop hs,h⟩
def Fu{R}{t:Nat}(e:ρ t=v)(h:R (.returned v) d []):Cs [.tmp t] R ρ d L:=PT e (ZB L) h
def Zw{R}{t u:Nat}{w L'}(e:ρ t=v)(e':ρ u=w)(hs:L'.Sublist L)(h:R (.returned (.tuple #[v,w])) d L'):Cs [.tmp t,.tmp u] R ρ d L:=
 ⟨[v,w],⟨e.symm,e'.symm,trivial⟩,d,L',Vs.drop hs,h⟩
def Zl{R}{t u:Nat}{w}(e:ρ t=v)(e':ρ u=w)(h:R (.returned (.tuple #[v,w])) d []):Cs [.tmp t,.tmp u] R ρ d L:=Zw e e' (ZB L) h
end
end
def Ac{P}{Q:Er}{ρ L s}{b:Cz}(h:gws P Q.pan (gwp P b Q) s [] ρ d L):gwp P (.seq (.reg false s) b) Q ρ d L:=h
section
def AM(P:Program)(f:FuncId)(args:List Value)(d:Ag)(v:Value):Prop:=A8 P f args d [] (Ret fun r d' L'=>r=v∧d'=d∧L'=[])
section
variable {P:Program}{pan:List PanicEntry→A0}{Qn:Env→A0}{Ls L:List Ag}{ρ:Env}{d:Ag}{tk:Bool}{s:GS}{t:Nat}
def AF{f args vs}(ea:args.map (ev ρ)=vs)(hc:AM P f vs d v)
  (h:gws P pan Qn s Ls (upd ρ t v) d L):gws P pan Qn (.op false ⟨some t,none,.call f args⟩ s) Ls ρ d L:=
 AR ea hc (fun r d' L' _ ⟨h1,h2,h3⟩=>by subst h1;subst h2;subst h3;exact h)
end
section
variable {P:Program}{pan:List PanicEntry→A0}{Qn:Env→A0}{Ls L:List Ag}{ρ:Env}{d:Ag}{tk:Bool}{s:GS}{t:Nat}
def Ea{f g}{first cap:Array Value}{args vs}(ef:ev ρ f=.func (.func g) first cap)(ea:first.toList++args.map (ev ρ)++cap.toList=vs)(hc:AM P g vs d v)
  (h:gws P pan Qn s Ls (upd ρ t v) d L):gws P pan Qn (.op false ⟨some t,none,.callv f args⟩ s) Ls ρ d L:=
 Sz 0 ef ea hc (fun r d' L' _ ⟨h1,h2,h3⟩=>by subst h1;subst h2;subst h3;exact h)
end
def int_eq(h:a=b):Value.int k a=Value.int k b:=by rw[h]
def W6{ρ d L}{t:Nat}{a b:Bool}(e:ρ t=.bool a)(h:a=b):Cs [.tmp t] (Ret fun r d' L'=>r=.bool b∧d'=d∧L'=[]) ρ d L:=
 Fu e ⟨by rw[h],rfl,rfl⟩
def RSl{α}(sz:Nat)(R:Ag→List Value→α→Prop)(d:Ag)(v:Value)(xs:List α):Prop:=
 ∃a c b o,v=.slice a xs.length c∧SAd a xs.length b o∧(c≠0→∀a',a=some a'→a'.spot=none)∧(a=none→c=0)∧xs.length≤c∧c≤9223372036854775807∧xs.length≤140737488355328∧
  ∀i (h:i<xs.length),∃cs,cs.length=sz∧DCs d b (o+i*sz) cs∧R d cs xs[i]
def RSl.mono{sz:Nat}{R}(hR:∀{d d' cs x},Le d d'→R d cs x→R d' cs x){d d'}{xs:List α}(h:RSl sz R d v xs)(hl:Le d d'):RSl sz R d' v xs:=
 let ⟨a,c,b,o,h1,h2,h3,h4,h5,h6,h7,h8⟩:=h
 ⟨a,c,b,o,h1,h2,h3,h4,h5,h6,h7,fun i hi=>let ⟨cs,k1,k2,k3⟩:=h8 i hi;⟨cs,k1,k2.mono hl,hR hl k3⟩⟩
def RSl.nil{sz:Nat}{R d}:RSl sz R d (.slice none 0 0) ([]:List α):=
 ⟨none,0,0,0,rfl,fun h=>absurd rfl h,fun _ _ h=>(nomatch h),fun _=>rfl,ZL _,by omega,ZN _,fun i h=>absurd h (Z3 i)⟩
def RSl.Be{sz:Nat}{R d}{xs:List α}(h:RSl sz R d v xs):xs.length≤140737488355328:=
 let ⟨_,_,_,_,_,_,_,_,_,_,h7,_⟩:=h
 h7
def GG(_:Ag)(cs:List Value)(x:UInt8):Prop:=cs=[Bz x]
def By(_:Ag)(cs:List Value)(x:Int):Prop:=cs=[vZ x]∧ -9223372036854775808≤x∧x≤9223372036854775807
def A2(_:Ag)(cs:List Value)(x:List UInt8):Prop:=cs=[Al x]∧x.length≤140737488355328
def EH(d:Ag)(v:Value)(l:List UInt8):Prop:=RSl 1 GG d v l
def CL(d:Ag)(v:Value)(l:List Int):Prop:=RSl 1 By d v l
def BK(d:Ag)(v:Value)(l:List (List UInt8)):Prop:=RSl 1 A2 d v l
def RBs(d:Ag)(cs:List Value)(l:List UInt8):Prop:=∃u,cs=[u]∧EH d u l
def WT(d:Ag)(v:Value)(l:List (List UInt8)):Prop:=RSl 1 RBs d v l
def EH.Be{d l}(h:EH d v l):l.length≤140737488355328:=RSl.Be h
def EH.mono{d d' l}(h:EH d v l)(hl:Le d d'):EH d' v l:=RSl.mono (fun _ h=>h) h hl
def CL.mono{d d'}{l:List Int}(h:CL d v l)(hl:Le d d'):CL d' v l:=RSl.mono (fun _ h=>h) h hl
def BK.mono{d d' l}(h:BK d v l)(hl:Le d d'):BK d' v l:=RSl.mono (fun _ h=>h) h hl
def WT.mono{d d' l}(h:WT d v l)(hl:Le d d'):WT d' v l:=RSl.mono (fun hl ⟨u,h1,h2⟩=>⟨u,h1,h2.mono hl⟩) h hl
section
variable {P:Program}{pan:List PanicEntry→A0}{Qn:Env→A0}{Ls L:List Ag}{ρ:Env}{d:Ag}{tk:Bool}{s:GS}{t:Nat}
def Xq{l m}(ex:ev ρ x=Al l)(ey:ev ρ y=Al m)(h:gws P pan Qn s Ls (upd ρ t (vZ (Lib.compareBytes l m))) d L):
  gws P pan Qn (.op tk ⟨some t,none,.bcmp x y⟩ s) Ls ρ d L:=Y5 (.inl ex) (.inl ey) h
end
def F2:∀a:List UInt8,Op.bytesLess a a=false
 |[]=>rfl
 |a::l=>by simp[Op.bytesLess,F2 l]
def JU:∀{a b c},Op.bytesLess a b=true→Op.bytesLess b c=true→Op.bytesLess a c=true
 |_,[],_,h,_=>by cases ‹List UInt8›<;>simp[Op.bytesLess] at h
 |_,_::_,[],_,h=>by simp[Op.bytesLess] at h
 |[],_::_,_::_,_,_=>by simp[Op.bytesLess]
 |a::l,b::m,c::n,h1,h2=>by
  simp only[Op.bytesLess,Aad,Zz,decide_eq_true_eq,beq_iff_eq,UInt8.lt_iff_toNat_lt] at h1 h2⊢;rcases h1 with h1|⟨rfl,h1⟩
  ·rcases h2 with h2|⟨rfl,h2⟩
   ·exact .inl (by omega)
   ·exact .inl h1
  ·rcases h2 with h2|⟨rfl,h2⟩
   ·exact .inl h2
   ·exact .inr ⟨rfl,JU h1 h2⟩
def Mx:∀a b:List UInt8,Op.bytesLess a b=true∨a=b∨Op.bytesLess b a=true
 |[],[]=>.inr (.inl rfl)
 |[],_::_=>.inl rfl
 |_::_,[]=>.inr (.inr rfl)
 |a::l,b::m=>by
  simp only[Op.bytesLess,Aad,Zz,decide_eq_true_eq,beq_iff_eq,UInt8.lt_iff_toNat_lt,List.cons.injEq];rcases Nat.lt_trichotomy a.toNat b.toNat with h|h|h
  ·exact .inl (.inl h)
  ·have h:a=b:=UInt8.toNat_inj.1 h;subst h;rcases Mx l m with h|h|h
   ·exact .inl (.inr ⟨rfl,h⟩)
   ·exact .inr (.inl ⟨rfl,h⟩)
   ·exact .inr (.inr (.inr ⟨rfl,h⟩))
  ·exact .inr (.inr (.inl h))
end
end Go.Gk
end
section
namespace Go.Gk
open Go Go.ChangeShapes Go.WideShapes Go.ChangeAt Go.RowKit
variable{W W':World}{apart fresh handsOn again:Bool}
section
def hw(W:World):Ag:=fun b o=>W.heap[b]?=some o
def Ok.hw(W:World):Ok [Gk.hw W] W:=⟨by simp,by simp;exact fun b o h=>h⟩
def PI(hs:Sub (hw W) W'){b:Nat}(hb:b<W.heap.size):W'.heap[b]?=W.heap[b]?:=by
 rw[hs b _ (Array.getElem?_eq_getElem hb),Array.getElem?_eq_getElem hb]
def SY(hs:Sub (hw W) W')(hk:B6 W W')(may:MemPlace→Prop):W.keptBut W' may:=by
 refine⟨hk.os,hk.output,fun i hi=>?_⟩
 rw[PI hs hi];exact(World.keptBut_refl W may).2.2 i hi
def Vk(hs:Sub (hw W) W'):∀(p:MemPlace),p.block<W.heap.size→W.sameAt W' p
 |.cell b o,h=>by
  have:=PI hs (b:=b) h;simp only[World.sameAt,World.cell?,this]
 |.map b,h=>PI hs h
def UC(hs:Sub (hw W) W'){a:Addr}(h:a.block<W.heap.size):W'.frozen? a=W.frozen? a:=by
 simp only[World.frozen?,PI hs h]
section
variable {H:Type}{enc:TypeId×Value→H}{P:Program}
def OY(hl:laidOutB P=true){sp:Nat→Bool}:∀{ts:List TypeId}{vs}{ds:List (DataW H)}{ps:List MemPlace},(ts.all fun t=>P.readableRec t && decide (t<P.types.size))=true→
  DataW.TrodAll enc P W 0 (fun _=>true) true ts vs ds ps→(∀p∈ps,W.sameAt W' p)→(∀p∈ps,sp p.block=true)→DataW.TrodAll enc P W' 0 sp true ts vs ds ps
 |[],[],[],_,_,h,_,_=>h
 |t::ts,_::_,_::_,_,hr,⟨p,q,h1,h2,e⟩,hsame,hsp=>by
  simp only[List.all_cons,Zz,decide_eq_true_eq] at hr;exact⟨p,q,WideElems.Trod_stays hl hr.1.1 hr.1.2 h1 (fun x hx=>hsame x (by rw[e];exact List.mem_append_left _ hx)) (fun x hx=>hsp x (by rw[e];exact List.mem_append_left _ hx)),
   OY hl hr.2 h2 (fun x hx=>hsame x (by rw[e];exact Acz _ hx)) (fun x hx=>hsp x (by rw[e];exact Acz _ hx)),e⟩
def Vw{fn:Func}{s:ChangeSpec}{args:Array Value}{ds gs:List (DataW H)}{before:List MemPlace}
  (hl:laidOutB P=true) (hp:(fn.params.toList.all fun t=>P.readableRec t && decide (t<P.types.size))=true)
  (hW:DataW.Whole enc P fn.params.toList s.vars apart W args.toList ds gs before) (hv:s.vars=[])
  (hs:s.fn H (ds++gs)={results:=[.lit (.bool true)],args:=ds}) {tb}(ht:fn.resultTypes= #[tb]) (hb:P.underlying tb=some .bool)
  (hsub:Sub (hw W) W') (hk:B6 W W'):s.post enc P fn apart fresh handsOn again W args (.bool true) W':=by
 have hlt:=hW.lt
 have hres:∀(b:Nat) (sp:Nat→Bool) (hd:Bool),DataW.TrodAll enc P W' b sp hd fn.resultTypes.toList ((Value.bool true).resultList fn.resultTypes.size) (s.fn H (ds++gs)).results []:=by
  intro b sp hd;rw[hs,ht];exact trodAll_cons_mk (shut_bool hb true) trodAll_mk0
 have hW':=hW
 obtain⟨p,q,hA,hV,rfl,hz,hn⟩:=hW'
 rw[hv] at hV
 obtain⟨hg0,rfl⟩:=trodVars_none hV
 have hargs:∀sp:Nat→Bool,(∀x∈p++[],sp x.block=true)→DataW.TrodAll enc P W' 0 sp true fn.params.toList args.toList (s.fn H (ds++gs)).args p:=by
  intro sp h;rw[hs];exact OY hl hp hA (fun x hx=>Vk hsub x (hlt x (by simpa using hx))) (fun x hx=>h x (by simpa using hx))
 have hvars:∀sp:Nat→Bool,DataW.TrodVars enc P W' sp s.vars (s.fn H (ds++gs)).vars []:=by
  intro sp;rw[hs,hv];rfl
 have hok:∀(j:Nat) (t:TypeId) (r:Value),fn.resultTypes[j]?=some t→((Value.bool true).resultList fn.resultTypes.size)[j]?=some r→Value.okWide P W' .any 0 t r:=
  ok_one ht rfl (okWide_bool_mk hb true)
 refine⟨ds,gs,p++[],[],p,[],hW,hres _ _ _,hargs _ (fun x hx=>by simpa using hlt x hx),hvars _,SY hsub hk _,fun _=>?_⟩
 refine⟨hok,_,_,([]++p)++[],⟨[]++p,[],trodAll_append (hargs _ (fun _ _=>rfl)) (hres _ _ _),hvars _,rfl,?_,?_⟩,?_⟩
 ·intro b off hp
  rw[UC hsub (by have:=hlt _ (by simpa using hp);exact this)]
  exact hz b off (by simpa using hp)
 ·intro ha
  simpa using hn ha
 ·intro x hx _
  simpa using hx
def MM{f}{fn:Func}{s:ChangeSpec}{args:Array Value}{ds gs:List (DataW H)}{before:List MemPlace}
  (hl:laidOutB P=true) (hp:(fn.params.toList.all fun t=>P.readableRec t && decide (t<P.types.size))=true)
  (hW:DataW.Whole enc P fn.params.toList s.vars apart W args.toList ds gs before) (hv:s.vars=[])
  (hs:s.fn H (ds++gs)={results:=[.lit (.bool true)],args:=ds}) {tb}(ht:fn.resultTypes= #[tb]) (hb:P.underlying tb=some .bool)
  (hc:A8 P f args.toList (hw W) [] (Ret fun v _ _=>v=.bool true)):
  Calls P f args W fun e W'=>∃v,e=.returned v∧s.post enc P fn apart fresh handsOn again W args v W':=by
 have:=hc.2 [] W (by simpa using Ok.hw W)
 rw[show args.toList.toArray=args from by simp] at this
 refine this.mono fun e W' ⟨d',L',h1,h2,h3,h4⟩=>?_
 cases e with
 |returned v=>
  have hv':v=.bool true:=h4
  subst hv'
  exact⟨_,rfl,Vw hl hp hW hv hs ht hb (h1.head.le h2) h3⟩
 |panicked c=>exact h4.elim
 |outgrown=>exact h4.elim
end
end
end Go.Gk
end
section
namespace Go.Gk
open Go
variable{v:Value}
section
def BO(sz:Nat)(v:Value)(n:Nat)(xs:List Value)(h:Ag):Prop:=
 xs.length=n*sz∧n≤140737488355328∧((v=.slice none 0 0∧n=0∧h=emp)∨
  ∃b T l c,v=.slice (some ⟨b,0,none⟩) n c∧h=bx b T l∧n≤c∧c≤9223372036854775807∧c*sz≤l.length∧l.take xs.length=xs)
def BO.nil(sz:Nat):BO sz (.slice none 0 0) 0 [] emp:=⟨by simp,by omega,.inl ⟨rfl,rfl,rfl⟩⟩
def BO.mk{sz n c b:Nat}{T l xs}(h1:xs.length=n*sz)(h2:n≤140737488355328)(h3:n≤c)(h4:c≤9223372036854775807)(h5:c*sz≤l.length)(h6:l.take xs.length=xs):
  BO sz (.slice (some ⟨b,0,none⟩) n c) n xs (bx b T l):=⟨h1,h2,.inr ⟨b,T,l,c,rfl,rfl,h3,h4,h5,h6⟩⟩
def BO.lit{sz n b:Nat}{T l}(h1:l.length=n*sz)(h2:n≤140737488355328):BO sz (.slice (some ⟨b,0,none⟩) n n) n l (bx b T l):=
 BO.mk h1 h2 (ZL n) (by omega) (by rw[h1];exact ZL _) (by simp)
def BO.slice{sz n:Nat}{xs h}(o:BO sz v n xs h):∃a b c,v=.slice a n c∧SAd a n b 0∧n≤c∧(c≠0→∀a',a=some a'→a'.spot=none)∧(a=none→c=0)∧c≤9223372036854775807∧
  ∀i u,xs[i]?=some u→∀d Lk,h∈Lk→HC d Lk ⟨b,i,none⟩ u:=by
 obtain⟨h1,h2,⟨rfl,rfl,rfl⟩|⟨b,T,l,c,rfl,rfl,h3,h4,h5,h6⟩⟩:=o
 ·refine⟨none,0,0,rfl,fun h=>absurd rfl h,ZL 0,(fun _ _ h=>nomatch h),fun _=>rfl,by omega,fun i u hu=>?_⟩
  have:xs=[]:=ZD (by simpa using h1)
  subst this;simp at hu
 ·refine⟨_,b,c,rfl,SAd.some n b 0,h3,(fun _ _ h=>by cases h;rfl),(fun h=>nomatch h),h4,fun i u hu d Lk hk=>⟨rfl,bx b T l,.inr hk,l.toArray,T,(0,0),CI _ _,?_⟩⟩
  have hi:i<xs.length:=(ZO.1 hu).1
  rw[←h6] at hu
  rw[Z4 (by omega)] at hu
  simpa using hu
def Vs.put{d h h' L}{i:Nat}(hi:L[i]?=some h):Vs d (h'::L) d (L.set i h'):=by
 obtain⟨A,B,rfl,e2⟩:=Gx hi h';rw[e2];refine(Vs.perm (L':=h::(A++h'::B)) ?_).trans (Vs.drop (Aaz _ _));refine(Z1 h' List.perm_middle).trans ((Z0 h h' _).trans (Z1 h List.perm_middle.symm))
def RdX(d:Ag)(Lk:List Ag)(v:Value)(m sz:Nat)(news:List Value):Prop:=
 ∃a c,v=.slice a m c∧news.length=m*sz∧(a=none→news=[])∧∀a',a=some a'→∀i u,news[i]?=some u→HC d Lk (a'.add i) u
def RdX.lit{d Lk}{b n c sz:Nat}{T l}(i:Nat)(hi:Lk[i]?=some (bx b T l))(hl:l.length=n*sz):RdX d Lk (.slice (some ⟨b,0,none⟩) n c) n sz l:=
 ⟨_,c,rfl,hl,(fun h=>nomatch h),fun a' h j u hu=>by cases h;rw[Addr.add_lit,Aac];exact Aj i hi hu⟩
def BO.rdx{sz n:Nat}{xs h d Lk}(o:BO sz v n xs h)(hk:h∈Lk):RdX d Lk v n sz xs:=by
 have hl:=o.1;obtain⟨a,b,c,rfl,h2,h3,h4,h5,h6,h7⟩:=o.slice;refine⟨a,c,rfl,hl,?_,?_⟩
 ·intro e;cases xs with
  |nil=>rfl
  |cons u us=>
   have:n≠0:=by rintro rfl;simp at hl
   rw[h2 this] at e;cases e
 ·intro a' ha i u hu;have:n≠0:=by
   rintro rfl;have:xs=[]:=ZD (by simpa using hl);subst this;simp at hu
  have e:=h2 this;rw[ha] at e;cases e;rw[Addr.add_lit,Aac];exact h7 i u hu d Lk hk
section
variable {P:Program}{pan:List PanicEntry→A0}{Qn:Env→A0}{Ls L:List Ag}{ρ:Env}{d:Ag}{s:GS}{t:Nat}
def Ny{sz by_:Nat}{z x y}(i:Nat){n m:Nat}{xs news h}(ex:ev ρ x=v)(hi:L[i]?=some h)(ho:BO sz v n xs h)
  {w}(ey:ev ρ y=w) (hx:RdX d (Ls++L++L) w m sz news) (h1:(news.all (·.oneCell'))=true) (_hsz:0<sz) (hm:n+m≤140737488355328) (hb:(n+m)*by_≤140737488355328)
  (k:∀v' h',BO sz v' (n+m) (xs++news) h'→∃d2 L2,Vs d (L.set i h') d2 L2∧gws P pan Qn s Ls (upd ρ t v') d2 L2):gws P pan Qn (.op false ⟨some t,none,.app sz by_ z x y⟩ s) Ls ρ d L:=by
 obtain⟨xa,xc,rfl,hl,hx0,hxc⟩:=hx
 have hxl:=ho.1
 have hlen:(xs++news).length=(n+m)*sz:=by rw[ZH,hxl,hl,Aai]
 refine⟨d,L,Vs.refl d L,?_⟩
 simp only[gop,gi,maxLen]
 obtain⟨h2,h3,⟨rfl,rfl,rfl⟩|⟨b,T,l,c,rfl,rfl,h4,h5,h6,h7⟩⟩:=ho
 ·have hxs:xs=[]:=ZD (by simpa using hxl)
  subst hxs
  refine⟨none,0,0,xa,m,xc,news,ex,ey,hl,h1,hx0,hxc,by omega,by omega,fun hle=>.inl ?_,fun hlt=>⟨by simpa using hb,[],by simp,fun _=>rfl,(fun _ h=>nomatch h),fun b T c' hc1 hc2=>?_⟩⟩
  ·have hm0:m=0:=by omega
   subst hm0
   have hn:news=[]:=ZD (by simpa using hl)
   subst hn
   obtain⟨d2,L2,hv,hg⟩:=k (.slice none 0 0) emp (by simpa using BO.nil sz)
   have e:L.set i emp=L:=by
    obtain⟨hlt,he⟩:=ZO.1 hi;rw[←he];simp
   rw[e] at hv
   exact⟨rfl,d2,L2,hv,by simpa [put] using hg⟩
  ·have o:BO sz (.slice (some ⟨b,0,none⟩) (0+m) c') (0+m) ([]++news) (bx b T (news++BC z ((c' - (0+m))*sz))):=by
    refine BO.mk hlen hm (by omega) hc2 ?_ ?_
    ·simp only[ZH,hl,BC,Aay,List.length_range];rw[←Aai];exact Nat.le_of_eq (by congr 1;omega)
    ·simp
   obtain⟨d2,L2,hv,hg⟩:=k _ _ o
   exact⟨d2,L2,(Vs.put hi).trans hv,by simpa [put] using hg⟩
 ·refine⟨_,n,c,xa,m,xc,news,ex,ey,hl,h1,hx0,hxc,by omega,h5,fun hle=>.inr ⟨i,b,0,T,l,rfl,hi,?_,?_⟩,fun hlt=>⟨hb,xs,hxl,(fun h=>nomatch h),fun a' ha j u hu=>?_,fun b' T' c' hc1 hc2=>?_⟩⟩
  ·rw[Aac];exact Aaf (ZQ sz hle) h6
  ·have h8:(n+m)*sz≤l.length:=Aaf (ZQ sz hle) h6
   rw[Aai] at h8
   refine k (.slice (some ⟨b,0,none⟩) (n+m) c) (bx b T (patch l (0+n*sz) news)) (BO.mk hlen hm hle h5 ?_ ?_)
   ·simp only[patch,ZH,ZP,Aab]
    have:=hl
    omega
   ·rw[hlen,Aai]
    have e1:l.take (n*sz)=xs:=by rw[←hxl];exact h7
    simp only[patch,Aac,e1]
    rw[←hl,←hxl,←ZH]
    exact List.take_left
  ·cases ha
   rw[Addr.add_lit,Aac]
   refine⟨rfl,bx b T l,.inr (Acz _ (Abj hi)),l.toArray,T,(0,0),CI _ _,?_⟩
   have hj:j<xs.length:=(ZO.1 hu).1
   rw[←h7] at hu
   rw[Z4 (by omega)] at hu
   simpa using hu
  ·have o:BO sz (.slice (some ⟨b',0,none⟩) (n+m) c') (n+m) (xs++news) (bx b' T' (xs++news++BC z ((c' - (n+m))*sz))):=by
    refine BO.mk hlen hm hc1 hc2 ?_ ?_
    ·simp only[ZH,hxl,hl,BC,Aay,List.length_range];rw[←Aai,←Aai];exact Nat.le_of_eq (by congr 1;omega)
    ·exact List.take_left
   obtain⟨d2,L2,hv,hg⟩:=k _ _ o
   exact⟨d2,L2,(Vs.put hi).trans hv,by simpa [put] using hg⟩
def Zg{sz by_:Nat}{z x y}(i:Nat){n m:Nat}{xs news h}(ex:ev ρ x=v)(hi:L[i]?=some h)(ho:BO sz v n xs h)
  {w}(ey:ev ρ y=w) (hx:RdX d (Ls++L++L) w m sz news) (h1:(news.all (·.oneCell'))=true) (hsz:0<sz) (hm:n+m≤140737488355328) (hb:(n+m)*by_≤140737488355328)
  (k:∀v' h',BO sz v' (n+m) (xs++news) h'→gws P pan Qn s Ls (upd ρ t v') d (L.set i h')):gws P pan Qn (.op false ⟨some t,none,.app sz by_ z x y⟩ s) Ls ρ d L:=
 Ny i ex hi ho ey hx h1 hsz hm hb (fun v' h' o=>⟨d,_,Vs.refl _ _,k v' h' o⟩)
end
def BO.dcs{sz n:Nat}{xs h d}(o:BO sz v n xs h)(hl:Le h d):∃a b c,v=.slice a n c∧SAd a n b 0∧n≤c∧(c≠0→∀a',a=some a'→a'.spot=none)∧(a=none→c=0)∧c≤9223372036854775807∧
  (xs≠[]→∃(l:Array Value) (T:TypeId) (fr:Nat×Nat),d b (.cells l T fr)∧∀(i:Nat) (u:Value),xs[i]?=some u→l[i]?=some u):=by
 obtain⟨h1,h2,⟨rfl,rfl,rfl⟩|⟨b,T,l,c,rfl,rfl,h3,h4,h5,h6⟩⟩:=o
 ·have:xs=[]:=ZD (by simpa using h1)
  subst this
  exact⟨none,0,0,rfl,fun h=>absurd rfl h,ZL 0,(fun _ _ h=>nomatch h),fun _=>rfl,by omega,fun h=>absurd rfl h⟩
 ·refine⟨_,b,c,rfl,SAd.some n b 0,h3,(fun _ _ h=>by cases h;rfl),(fun h=>nomatch h),h4,fun _=>⟨l.toArray,T,(0,0),hl _ _ (CI _ _),fun i u hu=>?_⟩⟩
  have hi:i<xs.length:=(ZO.1 hu).1
  rw[←h6] at hu
  rw[Z4 (by omega)] at hu
  simpa using hu
def BO.rsl{α}{sz n:Nat}{R cs}{xs:List α}{h d}(o:BO sz v n cs h)(hl:Le h d)(hn:n=xs.length)(hsz:0<sz)
  (hR:∀i (hi:i<xs.length),R d ((cs.drop (i*sz)).take sz) xs[i]):RSl sz R d v xs:=by
 have h1:=o.1
 have h2:=o.2.1
 obtain⟨a,b,c,rfl,k1,k2,k3,k4,k5,k6⟩:=o.dcs hl
 subst hn
 refine⟨a,c,b,0,rfl,k1,k3,k4,k2,k5,h2,fun i hi=>⟨(cs.drop (i*sz)).take sz,?_,?_,hR i hi⟩⟩
 ·have:(i+1)*sz≤xs.length*sz:=ZQ sz hi
  rw[Aai] at this
  simp only[ZP,Aab,h1]
  omega
 ·have:cs≠[]:=by
   rintro rfl;have h3:(i+1)*sz≤xs.length*sz:=ZQ sz hi;have h4:xs.length*sz=0:=by rw[←h1];rfl
   rw[Aai,Abh] at h3;omega
  obtain⟨l,T,fr,e1,e2⟩:=k6 this
  refine⟨l,T,fr,e1,fun j u hu=>?_⟩
  rw[List.getElem?_take] at hu
  split at hu
  ·rw[Abi] at hu
   rw[Aac]
   exact e2 _ _ hu
  ·cases hu
def BO.YN{α}{n:Nat}{R cs}{xs:List α}{h d}(o:BO 1 v n cs h)(hl:Le h d)(hn:n=xs.length)
  (hR:∀i (hi:i<xs.length),∃u,cs[i]?=some u∧R d [u] xs[i]):RSl 1 R d v xs:=by
 refine o.rsl hl hn (by omega) (fun i hi=>?_)
 obtain⟨u,hu,hr⟩:=hR i hi
 have:(cs.drop (i*1)).take 1=[u]:=by
  rw[Abw];obtain⟨hlt,he⟩:=ZO.1 hu;rw[ZT hlt,he];rfl
 rw[this];exact hr
def BO.bytes{n:Nat}{xs h d}(o:BO 1 v n (xs.map Bz) h)(hl:Le h d):EH d v xs:=by
 have hn:=o.1;refine o.YN hl (by simpa using hn.symm) (fun i hi=>⟨Bz xs[i],by simp[hi],rfl⟩)
def RSl.rdx{α R d}{xs:List α}{f:α→Value}(h:RSl 1 R d v xs)(hf:∀cs x,R d cs x→cs=[f x])(Lk:List Ag):RdX d Lk v xs.length 1 (xs.map f):=by
 obtain⟨a,c,b,o,rfl,h2,h3,h4,h5,h6,h7,h8⟩:=h;refine⟨a,c,rfl,by simp,?_,?_⟩
 ·intro e;cases xs with
  |nil=>rfl
  |cons u us=>have:=h2 (by simp);rw[e] at this;cases this
 ·intro a' ha i u hu;have hi:i<xs.length:=by
   have:=(ZO.1 hu).1;simpa using this
  have e:=h2 (by omega);rw[ha] at e;cases e;obtain⟨cs,k1,k2,k3⟩:=h8 i hi;have:=hf _ _ k3;subst this;rw[Aat,ZJ hi] at hu;simp only[Aba,Option.some.injEq] at hu;subst hu;rw[Abw] at k2;rw[Addr.add_lit];exact MA k2.one
def EH.rdx{d xs}(h:EH d v xs)(Lk:List Ag):RdX d Lk v xs.length 1 (xs.map Bz):=RSl.rdx h (fun _ _ h=>h) Lk
def CL.rdx{d}{xs:List Int}(h:CL d v xs)(Lk:List Ag):RdX d Lk v xs.length 1 (xs.map (Value.int .i64)):=RSl.rdx h (fun _ _ h=>h.1) Lk
def BK.rdx{d xs}(h:BK d v xs)(Lk:List Ag):RdX d Lk v xs.length 1 (xs.map Al):=RSl.rdx h (fun _ _ h=>h.1) Lk
end
end Go.Gk
end
section
namespace Go.Gk
open Go Go.ChangeShapes Go.WideShapes Go.ChangeAt Go.RowKit
section
variable {H:Type}{enc:TypeId×Value→H}{P:Program}{W:World}
def Rd(enc:TypeId×Value→H)(P:Program)(W:World)(t:TypeId){α}(R:Ag→List Value→α→Prop):Prop:=
 ∀(held:Bool) (fuel:Nat) (cs:List Value) (x:DataW H×List MemPlace),DataW.trod enc P W 0 (fun _=>true) held fuel t cs=some x→(∀n∈x.1.weights P t,n≤reachBytes)→∃a:α,R (hw W) cs a
def LU{n:Nat}(h:n≤reachBytes):n≤140737488355328:=Nat.le_of_lt (Nat.lt_of_le_of_lt h (by decide))
def Sd{t}(ht:P.underlying t=some .bool):Rd enc P W t (fun _ cs (b:Bool)=>cs=[.bool b]):=by
 intro held fuel cs x h _;obtain⟨b,h1,h2⟩:=DataW.trod_bool ht h;exact⟨b,h1⟩
def IY{t}(ht:P.underlying t=some (.int .i64)):Rd enc P W t By:=by
 intro held fuel cs x h _;obtain⟨n,h1,h2,h3⟩:=DataW.trod_int ht h;have hb:=bounds_i64 h3;exact⟨n,h1,hb.1,hb.2⟩
def P9{t}(ht:P.underlying t=some .string):Rd enc P W t A2:=by
 intro held fuel cs x h hw;obtain⟨s,h1,h2,h3⟩:=DataW.trod_string ht h;refine⟨s.data.toList,?_,?_⟩
 ·rw[h1];simp[Al]
 ·subst h2;exact LU (hw _ (by simp[DataW.weights]))
def Lp{a:Addr}{v}(h:W.cell? a=some v):a.spot=none∧DC (hw W) a.block a.off v:=by
 refine⟨OQ h,?_⟩
 unfold World.cell? at h;split at h
 ·rename_i c T fr hb;split at h
  ·cases h
  ·exact⟨c,T,fr,hb,h⟩
 ·cases h
def GA{a:Addr}{n:Nat}{cs}(h:W.cells? 0 a n=some cs)(hn:0<n):a.spot=none∧cs.length=n∧DCs (hw W) a.block a.off cs:=by
 unfold World.cells? at h;rw[if_pos (ZN _)] at h;have hl:cs.length=n:=by simpa using mapM_some_length h
 have one:∀i,i<n→∀u,cs[i]?=some u→W.cell? (a.add i)=some u:=by
  intro i hi u hu;have:=mapM_some_get h i i (by simp[hi]);rw[this,hu]
 have hs:a.spot=none:=by
  have:=one 0 hn cs[0] (ZJ (by omega));rw[add_zero] at this;exact(Lp this).1
 obtain⟨b,o,s⟩:=a;simp only at hs;subst hs;have h0:=one 0 hn cs[0] (ZJ (by omega));rw[Addr.add_lit] at h0;obtain⟨_,c,T,fr,hb,_⟩:=Lp h0;refine⟨rfl,hl,c,T,fr,hb,fun i u hu=>?_⟩
 have hi:i<n:=by have:=(ZO.1 hu).1;omega
 have:=one i hi u hu;rw[Addr.add_lit] at this;obtain⟨_,c',T',fr',hb',hc'⟩:=Lp this;simp only[Gk.hw] at hb hb';rw[hb] at hb';cases hb';exact hc'
def P6{t e:TypeId}{sz:Nat}{α:Type}{R:Ag→List Value→α→Prop}(ht:P.underlying t=some (.slice e))(hc:P.cellsOf e=sz)(hsz:0<sz)(hb:1≤P.bytesOf e)(he:Rd enc P W e R):
  Rd enc P W t (fun d cs (xs:List α)=>∃v,cs=[v]∧RSl sz R d v xs):=by
 subst hc
 intro held fuel cs x h hw
 rcases DataW.trod_slice ht h with ⟨rfl,rfl⟩|⟨a,len,cap,elems,rest,n,rfl,rfl,rfl,_,hlc,hcm,hlen,hel,hsp,_⟩
 ·exact⟨[],_,rfl,RSl.nil⟩
 ·have hwt:(elems.length+rest.length)*P.bytesOf e≤reachBytes:=hw _ (by simp[DataW.weights,ht])
  obtain⟨hrl,hre⟩:=hsp rfl
  have hcap:cap≤140737488355328:=by
   have h1:(elems.length+rest.length)*1≤(elems.length+rest.length)*P.bytesOf e:=Nat.mul_le_mul_left _ hb;have h2:=LU (Aaf h1 hwt);omega
  have one:∀i (hi:i<len),∃u:α,∃cs,cs.length=P.cellsOf e∧a.spot=none∧DCs (Gk.hw W) a.block (a.off+i*P.cellsOf e) cs∧R (Gk.hw W) cs u:=by
   intro i hi;have h1:=hel i hi;have hi':i<elems.length:=by omega
   rw[ZJ hi',ZZ] at h1;obtain⟨cs,h2,h3⟩:=h1;obtain⟨k1,k2,k3⟩:=GA h2 hsz;have hmem:∀(l:List (DataW H)) (y:DataW H),y∈l→∀n∈y.weights P e,n∈DataW.weightsAll P e l:=by
    intro l;induction l with
    |nil=>intro y hy;cases hy
    |cons z l ih=>
     intro y hy n hn
     simp only[DataW.weightsAll,ZK]
     rcases ZR.1 hy with rfl|hy
     ·exact .inl hn
     ·exact .inr (ih y hy n hn)
   obtain⟨u,hu⟩:=he held n cs elems[i] h3 (fun m hm=>hw m (by
    simp only[DataW.weights,ht,ZR,ZK];exact .inr (.inl (hmem _ _ (Abq.2 ⟨elems[i],ZC hi',rfl⟩) m hm))))
   have hs:a.spot=none:=by
    obtain⟨b,o,s⟩:=a;by_cases h0:i*P.cellsOf e=0
    ·rw[h0,add_zero] at k1;exact k1
    ·have:=hel 0 (by omega);rw[ZJ (by omega),ZZ] at this;obtain⟨cs',h2',_⟩:=this;rw[Acf,add_zero] at h2';exact(GA h2' hsz).1
   obtain⟨b,o,s⟩:=a;simp only at hs;subst hs;rw[Addr.add_lit] at k3;exact⟨u,cs,k2,rfl,k3,hu⟩
  have hspot:cap≠0→a.spot=none:=by
   intro h0;by_cases h1:0<len
   ·obtain⟨_,_,_,hs,_⟩:=one 0 h1;exact hs
   ·have:=hre 0 (by omega);have hl0:len=0:=by omega
    rw[ZJ (by omega),ZZ] at this;obtain⟨cs',h2',_⟩:=this;rw[hl0,Aac,Acf,add_zero] at h2';exact(GA h2' hsz).1
  refine⟨List.ofFn (n:=len) fun i=>(one i i.isLt).choose,_,rfl,some a,cap,a.block,a.off,?_,?_,fun h0 a' ha=>?_,(fun h=>nomatch h),?_,by omega,?_,?_⟩
  ·simp
  ·intro h0
   have h0':len≠0:=by simpa using h0
   have:=hspot (by omega)
   obtain⟨b,o,s⟩:=a;simp only at this;subst this;rfl
  ·cases ha;exact hspot h0
  ·simpa using hlc
  ·simp;omega
  ·intro i hi
   have hi':i<len:=by simpa using hi
   obtain⟨cs,k1,_,k3,k4⟩:=(one i hi').choose_spec
   exact⟨cs,k1,k3,by simpa using k4⟩
def OR{t}{fs:Array Field}(ht:P.underlying t=some (.struct fs)){held:Bool}{fuel:Nat}{cs}{x:DataW H×List MemPlace}(h:DataW.trod enc P W 0 (fun _=>true) held fuel t cs=some x)
  (hw:∀n∈x.1.weights P t,n≤reachBytes):cs.length=P.cellsOf t∧∀(i o ty sz:Nat),(fs[i]?).map (fun f=>(f.offset,f.type))=some (o,ty)→P.cellsOf ty=sz→∀{α R},Rd enc P W ty R→
   ∃a:α,R (Gk.hw W) ((cs.drop o).take sz) a:=by
 obtain⟨xs,n,rfl,rfl,hl,hxl,hf⟩:=DataW.trod_struct ht h
 refine⟨hl,fun i o ty sz hi hsz α R hr=>?_⟩
 subst hsz
 rw[Aaa] at hi
 obtain⟨f,hi,e⟩:=hi
 simp only[Prod.mk.injEq] at e
 obtain⟨rfl,rfl⟩:=e
 have h1:=hf i f hi
 have hi':i<fs.size:=(Array.getElem?_eq_some_iff.1 hi).1
 rw[ZJ (by omega)] at h1
 refine hr held n _ _ h1 (fun m hm=>hw m ?_)
 simp only[DataW.weights,ht]
 refine DataW.weights_mem_each (j:=i) (t:=f.type) ?_ ?_ m hm
 ·rw[Aat,Array.getElem?_toList,hi];rfl
 ·rw[Aat,ZJ (by omega)];rfl
def FF{ts:List TypeId}{ds:List (DataW H)}(h:(DataW.weightsEach P ts ds).all (·≤reachBytes)=true){j:Nat}{t}{d:DataW H}(ht:ts[j]?=some t)(hd:ds[j]?=some d):∀n∈d.weights P t,n≤reachBytes:=by
 intro n hn;simpa using ZF.1 h _ (DataW.weights_mem_each ht hd n hn)
def TU{t α R}(hr:Rd enc P W t R){v}{d:DataW H}{ps:List MemPlace}(h:DataW.Trod enc P W 0 (fun _=>true) true t v d ps)
  (hw:∀n∈d.weights P t,n≤reachBytes):∃a:α,R (Gk.hw W) v.cells.toList a:=by
 obtain⟨fuel,hf⟩:=h
 exact hr true fuel _ _ hf hw
def Po{base:Nat}{r:Reach}{t e:TypeId}{sz:Nat}{α:Type}{R:Ag→List Value→α→Prop}(ht:P.underlying t=some (.slice e))(hc:P.cellsOf e=sz)(hsz:0<sz)(hb:1≤P.bytesOf e)(he:Rd enc P W e R)
  {v:Value}{d:DataW H}{ps:List MemPlace}(hok:Value.okWide P W r base t v) (h:DataW.Trod enc P W 0 (fun _=>true) true t v d ps) (hw:∀n∈d.weights P t,n≤reachBytes):∃xs:List α,RSl sz R (Gk.hw W) v xs:=by
 obtain⟨a,len,cap,rfl⟩:=okWide_slice ht hok
 obtain⟨xs,v',e1,h2⟩:=TU (P6 ht hc hsz hb he) h hw
 have e1:[Value.slice a len cap]=[v']:=e1
 cases e1
 exact⟨xs,h2⟩
def Jv{base:Nat}{r:Reach}{t}{fs:Array Field}{α R}(ht:P.underlying t=some (.struct fs))(hr:Rd enc P W t R)
  {v}{d:DataW H}{ps:List MemPlace}(hok:Value.okWide P W r base t v) (h:DataW.Trod enc P W 0 (fun _=>true) true t v d ps) (hw:∀n∈d.weights P t,n≤reachBytes):∃(cs:List Value) (x:α),v=.agg cs.toArray∧R (Gk.hw W) cs x:=by
 obtain⟨cs,rfl,_⟩:=okWide_struct ht hok
 obtain⟨x,h2⟩:=TU hr h hw
 exact⟨cs.toList,x,by simp,h2⟩
end
end Go.Gk
namespace Go.Gk
def Zk{α}{l:List α}(h:l.length=2):∃a b,l=[a,b]:=by
 match l,h with|[a,b],_=>exact⟨a,b,rfl⟩
end Go.Gk
end
section
namespace Go.Gk
open Go
variable{v v0:Value}{x y x0:Operand}{a j b:Int}{T:TypeId}{f:FuncId}
section
def Q8(N:Nat)(v:Value)(c:List UInt8)(h:Ag):Prop:=
 c.length≤N∧∃b T,v=.slice (some ⟨b,0,none⟩) c.length N∧h=bx b T (c.map Bz++ZI (N - c.length) (Bz 0))
def Q8.full{N:Nat}{c h}(r:Q8 N v c h):∃b,v=.slice (some ⟨b,0,none⟩) c.length N∧Q8 N (.slice (some ⟨b,0,none⟩) N N) (c++ZI (N - c.length) 0) h:=by
 obtain⟨hc,b,T,rfl,rfl⟩:=r;have hl:(c++ZI (N - c.length) (0:UInt8)).length=N:=by simp;omega
 refine⟨b,rfl,by omega,b,T,by rw[hl],?_⟩
 rw[hl];simp
def Q8.bytes{N:Nat}{c h d}(r:Q8 N v c h)(hl:Le h d)(hN:N≤140737488355328):EH d v c:=by
 obtain⟨hc,b,T,rfl,rfl⟩:=r;exact(BO.mk (sz:=1) (xs:=c.map Bz) (n:=c.length) (c:=N) (by simp) (by omega) hc (by omega) (by simp;omega) (by simp)).bytes hl
def EH.pre{d a}{n c:Nat}{l}(h:EH d (.slice a n c) l){k:Nat}(hk:k≤l.length):EH d (.slice a k c) (l.take k):=by
 obtain⟨a',c',b,o,e,h2,h3,h4,h5,h6,h7,h8⟩:=h;cases e;have hl:(l.take k).length=k:=by simp;omega
 refine⟨a,c,b,o,by rw[hl],fun h0=>?_,h3,h4,by omega,h6,by omega,fun i hi=>?_⟩
 ·rw[hl] at h0;exact h2 (by omega)
 ·obtain⟨cs,k1,k2,k3⟩:=h8 i (by omega);exact⟨cs,k1,k2,by simpa using k3⟩
section
variable {P:Program}{pan:List PanicEntry→A0}{Qn:Env→A0}{Ls L:List Ag}{ρ:Env}{d:Ag}{s:GS}{t:Nat}{tk:Bool}
def S4(a:Int):Value.int .u8 (IntKind.u8.wrap a)=Bz (UInt8.ofNat (a % 256).toNat):=by
 have h0:0≤a % 256:=Int.emod_nonneg a (by omega);have h1:a % 256<256:=Int.emod_lt_of_pos a (by omega);have h2:(a % 256).toNat<256:=by omega
 simp only[Bz,IntKind.wrap,IntKind.signed,IntKind.bits,Value.int.injEq,true_and];simp[Nat.mod_eq_of_lt h2];omega
def Fs{j}(ex:ev ρ x=.int j a)(h:gws P pan Qn s Ls (upd ρ t (Bz (UInt8.ofNat (a % 256).toNat))) d L):gws P pan Qn (.op tk ⟨some t,none,.cvi .u8 x⟩ s) Ls ρ d L:=
 Tm ex (by rw[S4];exact h)
end
end
section
def chunk(cs:List Value)(i sz:Nat):List Value:=(cs.drop (i*sz)).take sz
def AN{α}(sz:Nat)(R:Ag→List Value→α→Prop)(d:Ag)(v:Value)(xs:List α)(h:Ag):Prop:=
 ∃cs,BO sz v xs.length cs h∧∀i (hi:i<xs.length),R d (chunk cs i sz) xs[i]
def Src{α}(sz:Nat)(R:Ag→List Value→α→Prop)(d:Ag)(Lk:List Ag)(w:Value)(ys:List α):Prop:=
 ∃news,RdX d Lk w ys.length sz news∧(news.all (·.oneCell'))=true∧∀i (hi:i<ys.length),R d (chunk news i sz) ys[i]
def Eg{α}(R:Ag→List Value→α→Prop):Prop:=∀d cs x,R d cs x→(cs.all (·.oneCell'))=true
def HG{α}(R:Ag→List Value→α→Prop):Prop:=∀{d d' cs x},Le d d'→R d cs x→R d' cs x
def GU:Eg By:=fun _ _ _ h=>by obtain⟨rfl,_⟩:=h;rfl
def CQ:Eg A2:=fun _ _ _ h=>by obtain⟨rfl,_⟩:=h;rfl
def CM:HG By:=fun _ h=>h
def Dl:HG A2:=fun _ h=>h
section
variable {α:Type}{sz:Nat}{R:Ag→List Value→α→Prop}{d:Ag}{v:Value}{xs:List α}{h:Ag}
def OD{cs}{n i:Nat}(hl:cs.length=n*sz)(hi:i<n):(chunk cs i sz).length=sz:=by
 have:(i+1)*sz≤n*sz:=ZQ sz hi;rw[Aai,Abh] at this;simp only[chunk,ZP,Aab,hl];omega
def DO{cs ds}{n i:Nat}(hl:cs.length=n*sz)(hi:i<n):chunk (cs++ds) i sz=chunk cs i sz:=by
 have:(i+1)*sz≤n*sz:=ZQ sz hi;rw[Aai,Abh] at this;simp only[chunk];rw[List.drop_append_of_le_length (by omega),List.take_append_of_le_length (by simp only[Aab];omega)]
def Eu{cs ds}{n i:Nat}(hl:cs.length=n*sz)(hi:n≤i):chunk (cs++ds) i sz=chunk ds (i - n) sz:=by
 have h1:n*sz≤i*sz:=ZQ sz hi;simp only[chunk];rw[List.drop_append,List.drop_of_length_le (by omega),List.nil_append,hl,Nat.sub_mul]
def AN.nil:AN sz R d (.slice none 0 0) [] emp:=⟨[],BO.nil sz,fun i hi=>absurd hi (Z3 i)⟩
def AN.Iw{b:Nat}:AN sz R d (.slice (some ⟨b,0,none⟩) 0 0) [] (bx b T []):=⟨[],BO.lit (by simp) (by simp),fun i hi=>absurd hi (Z3 i)⟩
def AN.mono(hR:HG R)(o:AN sz R d v xs h){d'}(hl:Le d d'):AN sz R d' v xs h:=
 let ⟨cs,h1,h2⟩:=o
 ⟨cs,h1,fun i hi=>hR hl (h2 i hi)⟩
def AN.Be(o:AN sz R d v xs h):xs.length≤140737488355328:=let ⟨_,h1,_⟩:=o;h1.2.1
def AN.val(o:AN sz R d v xs h):∃a c,v=.slice a xs.length c:=by
 obtain⟨cs,h1,_⟩:=o;obtain⟨a,b,c,e,_⟩:=h1.slice;exact⟨a,c,e⟩
def RSl.val(o:RSl sz R d v xs):∃a c,v=.slice a xs.length c:=let ⟨a,c,_,_,e,_⟩:=o;⟨a,c,e⟩
def AN.rsl(o:AN sz R d v xs h)(hR:HG R)(hsz:0<sz){d'}(hl:Le d d')(hh:Le h d'):RSl sz R d' v xs:=by
 obtain⟨cs,h1,h2⟩:=o;exact h1.rsl hh rfl hsz (fun i hi=>hR hl (h2 i hi))
def AN.src(o:AN sz R d v xs h)(hc:Eg R){Lk}(hk:h∈Lk):Src sz R d Lk v xs:=by
 obtain⟨cs,h1,h2⟩:=o;refine⟨cs,h1.rdx hk,?_,h2⟩
 have hl:=h1.1;rw[ZF];intro u hu;obtain⟨j,hj,rfl⟩:=List.getElem_of_mem hu;by_cases h0:sz=0
 ·subst h0;simp at hl;subst hl;simp at hj
 ·have hq:j / sz<xs.length:=by rw[Nat.div_lt_iff_lt_mul (by omega)];omega
  have:=ZF.1 (hc _ _ _ (h2 _ hq)) cs[j] (by
   have hdm:=Nat.div_add_mod' j sz;have hm:=Nat.mod_lt j (show 0<sz by omega);rw[List.mem_iff_getElem?];refine⟨j % sz,?_⟩
   rw[chunk,Z4 hm,Abi,hdm,ZJ hj])
  exact this
def RSl.src(o:RSl sz R d v xs)(hc:Eg R)(_:0<sz)(Lk:List Ag):Src sz R d Lk v xs:=by
 obtain⟨a,c,b,o,rfl,h2,h3,h4,h5,h6,h7,h8⟩:=o;have key:∀n,n≤xs.length→∃news:List Value,news.length=n*sz∧(∀j u,news[j]?=some u→DC d b (o+j) u)∧(news.all (·.oneCell'))=true∧∀i (hi:i<n) (hi':i<xs.length),R d (chunk news i sz) xs[i]:=by
  intro n;induction n with
  |zero=>exact fun _=>⟨[],by simp,fun j u hu=>by simp at hu,rfl,fun i hi=>absurd hi (Z3 i)⟩
  |succ n ih=>
   intro hn
   obtain⟨news,k1,k2,k3,k4⟩:=ih (by omega)
   obtain⟨cs,m1,m2,m3⟩:=h8 n (by omega)
   refine⟨news++cs,by simp[k1,m1,Aai],fun j u hu=>?_,?_,fun i hi hi'=>?_⟩
   ·rw[List.getElem?_append] at hu
    split at hu
    ·exact k2 j u hu
    ·rename_i hj
     have:=m2.at hu
     rw[k1] at this
     rw[show o+j=o+n*sz+(j - n*sz) by omega]
     exact this
   ·rw[List.all_append,k3,hc _ _ _ m3];rfl
   ·by_cases e:i<n
    ·rw[DO k1 e];exact k4 i e hi'
    ·obtain rfl:i=n:=by omega
     rw[Eu k1 (ZL _),Nat.sub_self]
     have:chunk cs 0 sz=cs:=by simp[chunk,←m1]
     rw[this];exact m3
 obtain⟨news,k1,k2,k3,k4⟩:=key xs.length (ZL _);refine⟨news,⟨a,c,rfl,k1,fun e=>?_,fun a' ha i u hu=>?_⟩,k3,fun i hi=>k4 i hi hi⟩
 ·cases xs with
  |nil=>exact ZD (by simpa using k1)
  |cons x xs=>have:=h2 (by simp);rw[e] at this;cases this
 ·have h0:xs.length≠0:=by
   intro h0;rw[h0,Acf] at k1;rw[ZD k1] at hu;simp at hu
  have e:=h2 h0;rw[ha] at e;cases e;rw[Addr.add_lit];exact MA (k2 i u hu)
def Src.lit{Lk}{b c n:Nat}{cs}{ys:List α}(i:Nat)(hi:Lk[i]?=some (bx b T cs))(hn:n=ys.length)(hl:cs.length=ys.length*sz)(h1:(cs.all (·.oneCell'))=true)
  (h2:∀i (hi:i<ys.length),R d (chunk cs i sz) ys[i]):Src sz R d Lk (.slice (some ⟨b,0,none⟩) n c) ys:=by
 subst hn
 exact⟨cs,RdX.lit i hi hl,h1,h2⟩
def AN.lit{b n:Nat}{cs}(hn:n=xs.length)(hl:cs.length=xs.length*sz)(hx:xs.length≤140737488355328)(h2:∀i (hi:i<xs.length),R d (chunk cs i sz) xs[i]):
  AN sz R d (.slice (some ⟨b,0,none⟩) n n) xs (bx b T cs):=by
 subst hn
 exact⟨cs,BO.lit hl hx,h2⟩
def AN.D8{b:Nat}{cs}{x:α}(hl:cs.length=sz)(h2:R d cs x):AN sz R d (.slice (some ⟨b,0,none⟩) 1 1) [x] (bx b T cs):=
 AN.lit rfl (by simp[hl]) (by simp) (fun i hi=>by
  obtain rfl:i=0:=by simpa using hi
  have:chunk cs 0 sz=cs:=by simp[chunk,←hl]
  rw[this];exact h2)
end
def AN.PX{d}{b n:Nat}{cs l}(e:cs=l.map Bz)(hn:n=l.length)(hx:l.length≤140737488355328):AN 1 GG d (.slice (some ⟨b,0,none⟩) n n) l (bx b T cs):=by
 subst e;refine AN.lit hn (by simp) hx (fun i hi=>?_);simp only[GG,chunk,Abw,←List.map_drop,←List.map_take];rw[ZT hi];rfl
def AN.Zv{d}{b n:Nat}{cs}{l:List Int}(e:cs=l.map (Value.int .i64))(hb:∀x∈l, -9223372036854775808≤x∧x≤9223372036854775807)(hn:n=l.length)(hx:l.length≤140737488355328):AN 1 By d (.slice (some ⟨b,0,none⟩) n n) l (bx b T cs):=by
 subst e;refine AN.lit hn (by simp) hx (fun i hi=>?_);simp only[By,chunk,Abw,←List.map_drop,←List.map_take];rw[ZT hi];exact⟨rfl,hb _ (ZC hi)⟩
def AN.bytes{d v xs h}(o:AN 1 GG d v xs h):BO 1 v xs.length (xs.map Bz) h:=by
 obtain⟨cs,h1,h2⟩:=o;have hl:=h1.1;have:cs=xs.map Bz:=by
  apply Abz
  ·simp at hl⊢;exact hl
  ·intro i h3 h4;have h5:i<xs.length:=by simpa using h4
   have h6:chunk cs i 1=[Bz xs[i]]:=h2 i h5;simp only[chunk,Abw] at h6;have h7:=congrArg (·[0]?) h6;simp only[Z4 (show 0<1 by omega),Abi,Nat.add_zero,ZJ h3,List.getElem?_cons_zero,Option.some.injEq] at h7;simp[h7]
 rw[←this];exact h1
section
variable {P:Program}{pan:List PanicEntry→A0}{Qn:Env→A0}{Ls L:List Ag}{ρ:Env}{d:Ag}{s:GS}{t:Nat}{tk:Bool}
def CO{α}{sz by_:Nat}{R z}(i:Nat){v w}{xs ys:List α}{h}(ex:ev ρ x=v)(hi:L[i]?=some h)(ho:AN sz R d v xs h)
  (ey:ev ρ y=w) (hs:Src sz R d (Ls++L++L) w ys) (hsz:0<sz) (hm:xs.length+ys.length≤140737488355328) (hb:(xs.length+ys.length)*by_≤140737488355328)
  (k:∀v' h',AN sz R d v' (xs++ys) h'→gws P pan Qn s Ls (upd ρ t v') d (L.set i h')):gws P pan Qn (.op false ⟨some t,none,.app sz by_ z x y⟩ s) Ls ρ d L:=by
 obtain⟨cs,h1,h2⟩:=ho
 obtain⟨news,k1,k2,k3⟩:=hs
 have hl:=h1.1
 refine Zg i ex hi h1 ey k1 k2 hsz hm hb (fun v' h' o=>k v' h' ⟨cs++news,by rw[ZH];exact o,fun j hj=>?_⟩)
 by_cases e:j<xs.length
 ·rw[DO hl e,Abt e];exact h2 j e
 ·rw[Eu hl (by omega),Acl (by omega)]
  exact k3 _ (by simp at hj;omega)
def DH{α:Type}{sz by_:Nat}{R:Ag→List Value→α→Prop}{z:List Value}{x y:Operand}(i:Nat){v w:Value}{xs ys:List α}{h g:Ag}(ex:ev ρ x=v)(hi:L[i]?=some h)(ho:AN sz R d v xs h)
  (ey:ev ρ y=w) (hs:AN sz R d w ys g) (hc:Eg R) (hsz:0<sz) (hm:xs.length+ys.length≤140737488355328) (hb:(xs.length+ys.length)*by_≤140737488355328)
  (k:∀v' h',AN sz R d v' (xs++ys) h'→gws P pan Qn s Ls (upd ρ t v') d (L.set i h')):gws P pan Qn (.op false ⟨some t,none,.app sz by_ z x y⟩ s) Ls ρ d (g::L):=by
 obtain⟨cs,h1,h2⟩:=ho
 obtain⟨news,k1,k2,k3⟩:=(hs.src hc (by simp):Src sz R d (Ls++(g::L)++(g::L)) w ys)
 have hl:=h1.1
 refine Ny (i+1) ex (by simpa using hi) h1 ey k1 k2 hsz hm hb (fun v' h' o=>⟨d,L.set i h',?_,k v' h' ⟨cs++news,by rw[ZH];exact o,fun j hj=>?_⟩⟩)
 ·rw[List.set_cons_succ]
  exact Vs.drop (Aaz _ _)
 ·by_cases e:j<xs.length
  ·rw[DO hl e,Abt e];exact h2 j e
  ·rw[Eu hl (by omega),Acl (by omega)]
   exact k3 _ (by simp at hj;omega)
def Ko{v l h}(ex:ev ρ x=v)(hr:AN 1 GG d v l h)(hk:h∈lk tk Ls L)(k:gws P pan Qn s Ls (upd ρ t (Al l)) d L):gws P pan Qn (.op tk ⟨some t,none,.b2s x⟩ s) Ls ρ d L:=by
 have o:=hr.bytes;obtain⟨a,b,c,rfl,h2,h3,h4,h5,h6,h7⟩:=o.slice;refine Xg (b:=b) (o:=0) ex rfl h2 (fun i u hu=>?_) k;rw[Aac];exact h7 i _ (by rw[Aat,hu];rfl) d _ hk
def AJ{α}{sz:Nat}{R i v}{xs:List α}{k}{m:Nat}(ex:ev ρ x=v)(hr:RSl sz R d v xs)(ei:ev ρ i=.int k j)(hm:j=(m:Int))(hl:m<xs.length)
  (h:∀b o cs,cs.length=sz→DCs d b o cs→R d cs xs[m]→gws P pan Qn s Ls (upd ρ t (.pointer (some ⟨b,o,none⟩))) d L):gws P pan Qn (.op tk ⟨some t,none,.idx sz x i⟩ s) Ls ρ d L:=by
 obtain⟨a,c,b,o,rfl,h2,h3,h4,h5,h6,h7,h8⟩:=hr
 obtain⟨cs,k1,k2,k3⟩:=h8 m hl
 exact Eh m ex ei hm hl h2 (h b _ cs k1 k2 k3)
end
section
variable {P:Program}{Q:Er}{ρ:Env}{d:Ag}{L:List Ag}
def OB{α:Type}{a:Cz}(slots:α→Value→List (Nat×Value))(inv:α→Value→Ag→Ag→List Ag→Prop)(meas:α→Nat)(x0:α)(v0:Value)(h0:Ag)(hs:A9 ρ (slots x0 v0))(i0:inv x0 v0 h0 d L)
  (round:∀x v h ρ d L,inv x v h d L→gwp P a {Q with n:=fun ρ d L=>∃x' v' h',meas x'<meas x∧A9 ρ (slots x' v')∧inv x' v' h' d L} (HU ρ (slots x v)) d L):gwp P (.loop a) Q ρ d L:=
 Bg (α:=α×Value×Ag) (fun x=>slots x.1 x.2.1) (fun x d L=>inv x.1 x.2.1 x.2.2 d L) (fun x=>meas x.1) (x0,v0,h0) hs i0
  (fun x ρ d L hi=>FP (fun _ _ _ ⟨x',v',h',a,b,c⟩=>⟨(x',v',h'),a,b,c⟩) (round x.1 x.2.1 x.2.2 ρ d L hi))
end
section
variable {P:Program}{pan:List PanicEntry→A0}{Qn:Env→A0}{Ls L:List Ag}{ρ:Env}{d:Ag}{s t:GS}{g:GOp}
def Dx(h1:gws P pan Qn (.op false g s) Ls ρ d L)(h2:gws P pan Qn t Ls ρ d L):gws P pan Qn (.alt g s t) Ls ρ d L:=⟨h1,h2⟩
def YF(is:List Nat)(hp:is.isPerm (Z8 L.length)=true)(h:gws P pan Qn (.op false g s) Ls ρ d (pick L is)):gws P pan Qn (.op false g s) Ls ρ d L:=B9 d _ (Vs.pick is hp) h
def FV(h:∃d1 L1,Vs d L d1 L1∧Qn ρ d1 L1):gws P pan Qn .done [] ρ d L:=h
def A4{C:Addr→Value→Prop}{t:Nat}{v}(e:ρ t=v):Km ρ C (.tmp t) v:=e.symm
def A3{t n b:Nat}{l}(i:Nat)(e:ρ t=pZ b)(hi:L[i]?=some (bx b T l))(hn:l.length=n):Km ρ (HC d L) (.cell t (some n)) (.agg l.toArray):=
 ⟨b,0,l,e,hn,fun j u hu=>by rw[Aac];exact Aj i hi hu,rfl⟩
def Iv{res:List Is}{R}(vs:List Value)(hr:GW ρ (HC d L) res vs)(h:∀d',Le d d'→(∀k∈L,Le k d')→R (.returned (Qu vs)) d' []):Cs res R ρ d L:=
 let ⟨d',h1,h2,h3⟩:=Vs.Qs d L
 ⟨vs,hr,d',[],h1,h d' h2 h3⟩
def BG{res:List Is}{R}(vs:List Value){L'}(hr:GW ρ (HC d L) res vs)(hs:L'.Sublist L)(h:R (.returned (Qu vs)) d L'):Cs res R ρ d L:=
 ⟨vs,hr,d,L',Vs.drop hs,h⟩
end
section
variable {P:Program}{pan:List PanicEntry→A0}{Qn:Env→A0}{Ls L:List Ag}{ρ:Env}{d:Ag}{s:GS}{t:Nat}{tk:Bool}
end
def A8.Zo{P args d L R R'}
  (h:A8 P f args d L R) (hr:∀e d' L',Le d d'→R e d' L'→∃d2 L2,Vs d' L' d2 L2∧R' e d2 L2):A8 P f args d L R':=
 ⟨h.1,fun F W x=>(h.2 F W x).mono fun e W' ⟨d',L',a,b,c,r⟩=>let ⟨d2,L2,v,r2⟩:=hr e d' L' b r;⟨d2,L2,v.2 F W' a,b.trans v.1,c,r2⟩⟩
end
section
def E4:List Ag→Ag
 |[]=>emp
 |h::L=>join h (E4 L)
def Fa:∀{L h},h∈L→Le h (E4 L)
 |k::L,h,hm=>by
  rcases ZR.1 hm with rfl|hm
  ·exact Le.BD _ _
  ·exact(Fa hm).trans (Le.BZ _ _)
def MX{k}:∀{L},(∀h∈L,DG k h)→DG k (E4 L)
 |[],_=>fun _ _ _ _ e=>e.elim
 |h::_,hd=>fun b o o' e e'=>e'.elim (hd h (ZG ..) b o o' e) (MX (fun h' hm=>hd h' (ZE _ hm)) b o o' e)
def Vs.cons{d d' h L L'}(v:Vs d L d' L'):Vs d (h::L) d' (h::L'):=
 ⟨v.1,fun F W x=>(v.2 (h::F) W (x.perm (List.perm_middle.symm.cons d))).perm (List.perm_middle.cons d')⟩
def Vs.PH{d L0}:∀{L},L.Pairwise DG→Vs d (E4 L::L0) d (L++L0)
 |[],_=>Vs.drop (Aaz _ _)
 |h::L,hp=>by
  rw[List.pairwise_cons] at hp;exact(Vs.split (MX hp.1)).trans (Vs.cons (Vs.PH hp.2))
def Vs.Nx{d L0}:∀{L},Vs d (L++L0) d (E4 L::L0)
 |[]=>Vs.emp
 |_::L=>(Vs.cons (Vs.Nx (L:=L))).trans Vs.join
def Vs.pack{d}(L:List Ag):Vs d L d [E4 L]:=by
 have:=Vs.Nx (d:=d) (L0:=[]) (L:=L);rwa [ZW] at this
def Ok.pw{d L F W}(x:Ok (d::(L++F)) W):(d::L).Pairwise DG:=x.1.sublist ((List.sublist_append_left L F).cons_cons d)
def Ok.Zx{P args d L R}(h:A8 P f args d L (Ret R)):A8 P f args d L (Ret fun v d' L'=>R v d' L'∧(d'::L').Pairwise DG):=
 ⟨h.1,fun F W x=>(h.2 F W x).mono fun e W' ⟨d',L',a,b,c,r⟩=>⟨d',L',a,b,c,by
  cases e with
  |returned v=>exact⟨r,a.pw⟩
  |panicked c=>exact r
  |outgrown=>exact r⟩⟩
def AM.borrow{P vs d L v}(h:∀d1,Le d d1→(∀k∈L,Le k d1)→AM P f vs d1 v):
  A8 P f vs d L (Ret fun r d' L'=>r=v∧d'=d∧L'=L):=by
 have h:=h (E4 (d::L)) (Fa (ZG ..)) (fun k hk=>Fa (ZE _ hk))
 refine⟨h.1,fun F W x=>?_⟩
 have hp:=x.pw
 have y:Ok (E4 (d::L)::([]++F)) W:=by
  have:=(Vs.Nx (d:=emp) (L0:=F) (L:=d::L)).2 [] W (by simpa using x.emp);simpa using this.tail
 refine(h.2 F W y).mono fun e W' ⟨d',L',a,b,c,r⟩=>?_
 cases e with
 |panicked c=>exact r.elim
 |outgrown=>exact r.elim
 |returned u=>
  obtain⟨rfl,rfl,rfl⟩:=r
  refine⟨d,L,?_,Le.refl d,c,rfl,rfl,rfl⟩
  have:=(Vs.PH (d:=emp) (L0:=F) hp).2 [] W' (by simpa using a.emp)
  simpa using this.tail
section
variable {P:Program}{pan:List PanicEntry→A0}{Qn:Env→A0}{Ls L:List Ag}{ρ:Env}{d:Ag}{s:GS}{t:Nat}{tk:Bool}
def K8{args vs v}(ea:args.map (ev ρ)=vs)(hc:∀d1,Le d d1→(∀k∈L,Le k d1)→AM P f vs d1 v)
  (h:gws P pan Qn s Ls (upd ρ t v) d L):gws P pan Qn (.op false ⟨some t,none,.call f args⟩ s) Ls ρ d L:=by
 refine Dv (R:=fun r d' L'=>r=v∧d'=d∧L'=L) L.length ea (by rw[List.take_length];exact AM.borrow hc) (fun r d' L' _ ⟨h1,h2,h3⟩=>?_)
 subst h1;subst h2;subst h3
 rw[List.drop_length,ZW];exact h
def Xz{args R vs A B}(hL:L=A++B)(ea:args.map (ev ρ)=vs)(hc:A8 P f vs d A (Ret R))
  (h:∀v d' L',Le d d'→R v d' L'→gws P pan Qn s Ls (upd ρ t v) d' (L'++B)):gws P pan Qn (.op false ⟨some t,none,.call f args⟩ s) Ls ρ d L:=by
 subst hL
 refine Dv A.length ea (by rw[List.take_left];exact hc) (fun v d' L' hl hr=>?_)
 rw[List.drop_left];exact h v d' L' hl hr
end
def RSl.cut{α}{sz:Nat}{R d a}{n c:Nat}{xs:List α}(hr:RSl sz R d (.slice a n c) xs){l h m:Nat}(h1:l≤h)(h2:h≤m)(h3:m≤c)(h4:h≤xs.length):
  RSl sz R d (.slice (if m=l then a else a.map fun a=>⟨a.block,a.off+l*sz,none⟩) (h - l) (m - l)) ((xs.drop l).take (h - l)):=by
 obtain⟨a',c',b,o,e,k2,k3,k4,k5,k6,k7,k8⟩:=hr
 cases e
 have hl:((xs.drop l).take (h - l)).length=h - l:=by simp;omega
 refine⟨_,m - l,b,o+l*sz,by rw[hl],fun h0=>?_,fun h0 a' ha=>?_,fun h0=>?_,by omega,by omega,by omega,fun i hi=>?_⟩
 ·rw[hl] at h0
  rw[if_neg (by omega),k2 (by omega)];rfl
 ·rw[if_neg (by omega)] at ha
  cases a with
  |none=>cases ha
  |some a=>cases ha;rfl
 ·split at h0
  ·omega
  ·cases a with
   |none=>have:=k4 rfl;omega
   |some a=>cases h0
 ·rw[hl] at hi
  obtain⟨cs,j1,j2,j3⟩:=k8 (l+i) (by omega)
  refine⟨cs,j1,?_,?_⟩
  ·rw[Aai,←Nat.add_assoc] at j2;exact j2
  ·simpa using j3
section
variable {P:Program}{pan:List PanicEntry→A0}{Qn:Env→A0}{Ls L:List Ag}{ρ:Env}{d:Ag}{s:GS}{t:Nat}{tk:Bool}{α:Type}{sz:Nat}{R:Ag→List Value→α→Prop}{x y z:Operand}{v:Value}{xs:List α}{kk kk':IntKind}{n m:Nat}
def GO(ex:ev ρ x=v)(hr:RSl sz R d v xs)(ey:ev ρ y=.int kk j)(hj:j=(n:Int))(hn:n≤xs.length)(k:∀v',RSl sz R d v' (xs.take n)→gws P pan Qn s Ls (upd ρ t v') d L):
  gws P pan Qn (.op tk ⟨some t,none,.sl sz x none (some y) none⟩ s) Ls ρ d L:=by
 subst hj
 have hr':=hr
 obtain⟨a,c,b,o,rfl,h2,h3,h4,h5,h6,h7,h8⟩:=hr
 have hc:EU xs.length c none (some (ev ρ y)) none=some (0,n,c):=by
  simp only[EU,Iz,Hr,IB,Aas,Aba,ey,bnd];rw[if_pos (by omega)];simp
 refine w_q rfl ⟨a,xs.length,c,0,n,c,ex,h3,hc,rfl⟩ (k _ ?_)
 simpa using hr'.cut (l:=0) (h:=n) (m:=c) (by omega) (by omega) (ZL c) hn
def DF(ex:ev ρ x=v)(hr:RSl sz R d v xs)(ey:ev ρ y=.int kk j)(hj:j=(n:Int))(hn:n≤xs.length)(k:∀v',RSl sz R d v' (xs.drop n)→gws P pan Qn s Ls (upd ρ t v') d L):
  gws P pan Qn (.op tk ⟨some t,none,.sl sz x (some y) none none⟩ s) Ls ρ d L:=by
 subst hj
 have hr':=hr
 obtain⟨a,c,b,o,rfl,h2,h3,h4,h5,h6,h7,h8⟩:=hr
 have hc:EU xs.length c (some (ev ρ y)) none none=some (n,xs.length,c):=by
  simp only[EU,Iz,Hr,IB,Ade,ZX,if_false,Aas,ey,bnd];rw[if_pos (by omega)];simp
 refine w_q rfl ⟨a,xs.length,c,n,xs.length,c,ex,fun(h0:c≠n)=>h3 (by omega),hc,rfl⟩ (k _ ?_)
 have:=hr'.cut (l:=n) (h:=xs.length) (m:=c) (by omega) (by omega) (ZL c) (ZL _)
 rwa [Z7 (by simp)] at this
def Oh{j':Int}(ex:ev ρ x=v)(hr:RSl sz R d v xs)(ey:ev ρ y=.int kk j)(ez:ev ρ z=.int kk' j')(hj:j=(n:Int))(hj':j'=(m:Int))(hnm:n≤m)(hn:m≤xs.length)(k:∀v',RSl sz R d v' ((xs.drop n).take (m - n))→gws P pan Qn s Ls (upd ρ t v') d L):
  gws P pan Qn (.op tk ⟨some t,none,.sl sz x (some y) (some z) none⟩ s) Ls ρ d L:=by
 subst hj;subst hj'
 have hr':=hr
 obtain⟨a,c,b,o,rfl,h2,h3,h4,h5,h6,h7,h8⟩:=hr
 have hc:EU xs.length c (some (ev ρ y)) (some (ev ρ z)) none=some (n,m,c):=by
  simp only[EU,Iz,Hr,IB,Aas,ey,ez,bnd];rw[if_pos (by omega)];simp only[Aas,Int.toNat_natCast];rw[if_pos (by omega)];simp
 exact w_q rfl ⟨a,xs.length,c,n,m,c,ex,fun(h0:c≠n)=>h3 (by omega),hc,rfl⟩ (k _ (hr'.cut (l:=n) (h:=m) (m:=c) hnm (by omega) (ZL c) hn))
end
section
variable {P:Program}{pan:List PanicEntry→A0}{Qn:Env→A0}{Ls L:List Ag}{ρ:Env}{d:Ag}{s:GS}{t:Nat}
def LB{sz by_:Nat}{z x y}(i:Nat){v}{n m b:Nat}{xs cs h}(ex:ev ρ x=v)(hi:L[i]?=some h)(ho:BO sz v n xs h)
  (ey:ev ρ y=.slice (some ⟨b,0,none⟩) m m) (hl:cs.length=m*sz) (h1:(cs.all (·.oneCell'))=true) (hsz:0<sz) (hm:n+m≤140737488355328) (hb:(n+m)*by_≤140737488355328)
  (k:∀v' h',BO sz v' (n+m) (xs++cs) h'→gws P pan Qn s Ls (upd ρ t v') d (L.set i h')):gws P pan Qn (.op false ⟨some t,none,.app sz by_ z x y⟩ s) Ls ρ d (bx b T cs::L):=by
 have hrd:RdX d (Ls++(bx b T cs::L)++(bx b T cs::L)) (.slice (some ⟨b,0,none⟩) m m) m sz cs:=
  RdX.lit (T:=T) (Ls.length) (by rw[Zy,List.getElem?_append_right (ZL _)];simp) hl
 refine Ny (i+1) ex (by simpa using hi) ho ey hrd h1 hsz hm hb (fun v' h' o=>⟨d,L.set i h',?_,k v' h' o⟩)
 rw[List.set_cons_succ]
 exact Vs.drop (Aaz _ _)
end
section
variable {P:Program}{Q:Er}{ρ:Env}{d:Ag}{L:List Ag}
def Dh{s}(Ls L1:List Ag)(hL:L=Ls++L1)(h:gws P Q.pan Q.n s Ls ρ d L1):gwp P (.reg true s) Q ρ d L:=⟨d,Ls,L1,by rw[hL];exact Vs.refl d _,h⟩
def G0{res:List Is}{R}(vs:List Value){d' L'}(hr:GW ρ (HC d L) res vs)(hs:Vs d L d' L')(h:R (.returned (Qu vs)) d' L'):Cs res R ρ d L:=
 ⟨vs,hr,d',L',hs,h⟩
end
section
variable {P:Program}{pan:List PanicEntry→A0}{Qn:Env→A0}{Ls L:List Ag}{ρ:Env}{d:Ag}{s:GS}{t:Nat}{tk:Bool}
def IX{x i}{b n c:Nat}{k}(m:Nat)(ex:ev ρ x=.slice (some ⟨b,0,none⟩) n c)(ei:ev ρ i=.int k j)(hm:j=(m:Int))(hl:m<n)
  (h:gws P pan Qn s Ls (upd ρ t (.pointer (some ⟨b,m,none⟩))) d L):gws P pan Qn (.op tk ⟨some t,none,.idx 1 x i⟩ s) Ls ρ d L:=
 Eh (o:=0) m ex ei hm hl (SAd.some n b 0) (by rw[Aac,Abw];exact h)
end
end
section
def A8.borrow{P vs d L}{Q:Value→List Ag→Prop}(h:∀d1,Le d d1→(∀k∈L,Le k d1)→A8 P f vs d1 [] (Ret fun r d' L'=>d'=d1∧Q r L')):
  A8 P f vs d L (Ret fun r d' L'=>d'=d∧∃L1,L'=L1++L∧Q r L1):=by
 have h:=h (E4 (d::L)) (Fa (ZG ..)) (fun k hk=>Fa (ZE _ hk))
 refine⟨h.1,fun F W x=>?_⟩
 have hp:=x.pw
 have y:Ok (E4 (d::L)::([]++F)) W:=by
  have:=(Vs.Nx (d:=emp) (L0:=F) (L:=d::L)).2 [] W (by simpa using x.emp);simpa using this.tail
 refine(h.2 F W y).mono fun e W' ⟨d',L',a,b,c,r⟩=>?_
 cases e with
 |panicked c=>exact r.elim
 |outgrown=>exact r.elim
 |returned u=>
  obtain⟨rfl,r⟩:=r
  refine⟨d,L'++L,?_,Le.refl d,c,rfl,L',rfl,r⟩
  have:=(Vs.PH (d:=emp) (L0:=L'++F) hp).2 [] W' (by simpa using a.emp)
  have z:Ok ((d::L)++(L'++F)) W':=by simpa using this.tail
  refine z.perm ?_
  simp only[List.cons_append,Zy]
  refine Z1 d ?_
  rw[←Zy,←Zy]
  exact List.Perm.append_right F Aaj
section
variable {P:Program}{pan:List PanicEntry→A0}{Qn:Env→A0}{Ls L:List Ag}{ρ:Env}{d:Ag}{s:GS}{t:Nat}{tk:Bool}
def Az{n:Nat}{b o:Nat}{l}(i:Nat)(l':List Value)(hi:L[i]?=some (bx b T l))(ex:ev ρ x=.pointer (some ⟨b,o,none⟩))(ey:ev ρ y=v)
  (hn:v.cells.size=n) (hl:o+n≤l.length) (h1:(v.cells.toList.all (·.oneCell'))=true) (hp:patch l o v.cells.toList=l') (h:gws P pan Qn s Ls ρ d (L.set i (bx b T l'))):
  gws P pan Qn (.op false ⟨none,none,.st n x y⟩ s) Ls ρ d L:=by subst hp;exact SS i hi ex ey hn hl h1 h
end
def Vs.RZ(B:List Ag):∀(A:List Ag) (d:Ag),∃d',Vs d (A++B) d' B∧Le d d'∧∀h∈A,Le h d'
 |[],d=>⟨d,Vs.refl d B,Le.refl d,fun _ h=>by cases h⟩
 |h::A,d=>by
  obtain⟨d',h1,h2,h3⟩:=Vs.RZ B A (Gk.join d h);refine⟨d',Vs.freeze.trans h1,(Le.BD d h).trans h2,fun k hk=>?_⟩
  rcases ZR.1 hk with rfl|hk
  ·exact(Le.BZ d k).trans h2
  ·exact h3 k hk
def Qt{P}{Q:Er}{ρ d L s d1}(Ls L1:List Ag)(hv:Vs d L d1 (Ls++L1))(h:gws P Q.pan Q.n s Ls ρ d1 L1):gwp P (.reg true s) Q ρ d L:=⟨d1,Ls,L1,hv,h⟩
end
section
section
variable {P:Program}{pan:List PanicEntry→A0}{Qn:Env→A0}{Ls L:List Ag}{ρ:Env}{d:Ag}{s:GS}{t:Nat}{tk:Bool}
def Xi{neg:Bool}{offs:List (Nat×Nat)}{xs ys:Array Value}(r:Bool)(ex:ev ρ x=.agg xs)(ey:ev ρ y=.agg ys)(h:IA xs ys offs=some r)(k:gws P pan Qn s Ls (upd ρ t (.bool (neg ^^ r))) d L):
  gws P pan Qn (.op tk ⟨some t,none,.eqc neg offs x y⟩ s) Ls ρ d L:=w_q rfl ⟨xs,ys,r,ex,ey,h,rfl⟩ k
def BJ{n b o:Nat}{l}(i:Nat)(e:ev ρ x=.pointer (some ⟨b,o,none⟩))(hi:(lk tk Ls L)[i]?=some (bx b T l))(hn:Nat.ble (o+n) l.length=true)
  (h:gws P pan Qn s Ls (upd ρ t (.agg ((l.drop o).take n).toArray)) d L):gws P pan Qn (.op tk ⟨some t,none,.ld (some n) x⟩ s) Ls ρ d L:=by
 have hn:=No hn
 refine w_q rfl ⟨b,o,(l.drop o).take n,e,by simp;omega,fun j u hu=>Aj i hi ?_,rfl⟩ h
 rw[List.getElem?_take] at hu
 split at hu
 ·rw[Abi] at hu;exact hu
 ·cases hu
def U8{n b o j:Nat}{l}(e:ev ρ x=.pointer (some ⟨b,o+j,none⟩))(hd:DCs d b o l)(hn:Nat.ble (j+n) l.length=true)
  (h:gws P pan Qn s Ls (upd ρ t (.agg ((l.drop j).take n).toArray)) d L):gws P pan Qn (.op tk ⟨some t,none,.ld (some n) x⟩ s) Ls ρ d L:=by
 have hn:=No hn
 refine w_q rfl ⟨b,o+j,(l.drop j).take n,e,by simp;omega,fun i u hu=>?_,rfl⟩ h
 rw[List.getElem?_take] at hu
 split at hu
 ·rw[Abi] at hu
  rw[Nat.add_assoc];exact Ci hd hu
 ·cases hu
def Re(a:Int):IntKind.u64.wrap a=a % 18446744073709551616:=by simp[IntKind.wrap,IntKind.signed,IntKind.bits]
def Hz{j}(ex:ev ρ x=.int j a)(h:gws P pan Qn s Ls (upd ρ t (.int .u64 (a % 18446744073709551616))) d L):gws P pan Qn (.op tk ⟨some t,none,.cvi .u64 x⟩ s) Ls ρ d L:=
 Tm ex (by rw[Re];exact h)
def Yx(ex:ev ρ x=.int .u64 a)(h:gws P pan Qn s Ls (upd ρ t (.int .u64 ((0 - a) % 18446744073709551616))) d L):gws P pan Qn (.op tk ⟨some t,none,.un .neg x⟩ s) Ls ρ d L:=
 w_q rfl (by simp only[evq,unV,ex,Re]) h
def FH{k}(ex:ev ρ x=.int k a)(ey:ev ρ y=.int k b)(h2:b≠0)(h:gws P pan Qn s Ls (upd ρ t (.int k (a.tmod b))) d L):gws P pan Qn (.op tk ⟨some t,none,.bin .rem x y⟩ s) Ls ρ d L:=
 Db (by rw[ex,ey];simp[C2,h2]) h
def R1{l kk}{n:Nat}(ex:ev ρ x=Al l)(ey:ev ρ y=.int kk j)(hj:j=(n:Int))(hn:n≤l.length)(h:gws P pan Qn s Ls (upd ρ t (Al (l.take n))) d L):
  gws P pan Qn (.op tk ⟨some t,none,.sls x none (some y)⟩ s) Ls ρ d L:=by
 subst hj
 refine w_q rfl ⟨l,0,n,l.length,ex,?_,rfl⟩ (by simpa using h)
 simp only[EU,Iz,Hr,IB,Aas,Aba,Option.map_none,ey,bnd]
 rw[if_pos (by omega)];simp
def Ph{l kk}{n:Nat}(ex:ev ρ x=Al l)(ey:ev ρ y=.int kk j)(hj:j=(n:Int))(hn:n≤l.length)(h:gws P pan Qn s Ls (upd ρ t (Al (l.drop n))) d L):
  gws P pan Qn (.op tk ⟨some t,none,.sls x (some y) none⟩ s) Ls ρ d L:=by
 subst hj
 refine w_q rfl ⟨l,n,l.length,l.length,ex,?_,rfl⟩ (by rw[Z7 (by simp)];exact h)
 simp only[EU,Iz,Hr,IB,Ade,ZX,if_false,Aas,Aba,Option.map_none,ey,bnd]
 rw[if_pos (by omega)];simp
def E5{z}(e0:ev ρ x0=v0)(c0:v0.cells= #[v0])(h:∀b T,gws P pan Qn s Ls (upd ρ t (.slice (some ⟨b,0,none⟩) 1 1)) d (bx b T [v0]::L)):
  gws P pan Qn (.op false ⟨some t,none,.bsl 1 1 [z] [(0,x0)]⟩ s) Ls ρ d L:=by
 refine DI (by omega) ?_ h
 simp[Instr.fill,BC,Z8,List.range.loop,e0,c0]
def G5{z x1 v1}(e0:ev ρ x0=v0)(c0:v0.cells= #[v0])(e1:ev ρ x1=v1)(c1:v1.cells= #[v1])(h:∀b T,gws P pan Qn s Ls (upd ρ t (.slice (some ⟨b,0,none⟩) 2 2)) d (bx b T [v0,v1]::L)):
  gws P pan Qn (.op false ⟨some t,none,.bsl 2 1 [z] [(0,x0),(1,x1)]⟩ s) Ls ρ d L:=by
 refine DI (by omega) ?_ h
 simp[Instr.fill,BC,Z8,List.range.loop,e0,c0,e1,c1]
def S9{z x1 x2 v1 v2}(e0:ev ρ x0=v0)(c0:v0.cells= #[v0])(e1:ev ρ x1=v1)(c1:v1.cells= #[v1])(e2:ev ρ x2=v2)(c2:v2.cells= #[v2])(h:∀b T,gws P pan Qn s Ls (upd ρ t (.slice (some ⟨b,0,none⟩) 3 3)) d (bx b T [v0,v1,v2]::L)):
  gws P pan Qn (.op false ⟨some t,none,.bsl 3 1 [z] [(0,x0),(1,x1),(2,x2)]⟩ s) Ls ρ d L:=by
 refine DI (by omega) ?_ h
 simp[Instr.fill,BC,Z8,List.range.loop,e0,c0,e1,c1,e2,c2]
def Zp{z x1 x2 x3 v1 v2 v3}(e0:ev ρ x0=v0)(c0:v0.cells= #[v0])(e1:ev ρ x1=v1)(c1:v1.cells= #[v1])(e2:ev ρ x2=v2)(c2:v2.cells= #[v2])(e3:ev ρ x3=v3)(c3:v3.cells= #[v3])(h:∀b T,gws P pan Qn s Ls (upd ρ t (.slice (some ⟨b,0,none⟩) 4 4)) d (bx b T [v0,v1,v2,v3]::L)):
  gws P pan Qn (.op false ⟨some t,none,.bsl 4 1 [z] [(0,x0),(1,x1),(2,x2),(3,x3)]⟩ s) Ls ρ d L:=by
 refine DI (by omega) ?_ h
 simp[Instr.fill,BC,Z8,List.range.loop,e0,c0,e1,c1,e2,c2,e3,c3]
def Nw(ex:ev ρ x=vZ a)(ey:ev ρ y=vZ b)(h1: -9223372036854775808≤a)(h2:a≤9223372036854775807)(h3:2≤b)(h:gws P pan Qn s Ls (upd ρ t (vZ (a.tdiv b))) d L):
  gws P pan Qn (.op tk ⟨some t,none,.bin .quo x y⟩ s) Ls ρ d L:=by
 refine Db ?_ h
 have h4:¬b=0:=by omega
 have h5:(a.tdiv b).natAbs≤a.natAbs:=by rw[Int.natAbs_tdiv];exact Nat.div_le_self _ _
 have h6:a= -9223372036854775808→(a.tdiv b).natAbs≤9223372036854775807:=by
  intro e;rw[Int.natAbs_tdiv,e];have:2≤b.natAbs:=by omega
  have e2:(-9223372036854775808:Int).natAbs=9223372036854775808:=by decide
  rw[e2];have:=Nat.div_le_div_left (a:=9223372036854775808) this (by omega);exact Aaf this (by decide)
 rw[ex,ey];simp[C2,h4];exact EJ (by omega) (by omega)
def Cx{neg:Bool}{k k'}{a' b':Int}(ex:ev ρ x=.agg [.int k a,.int k' b].toArray)(ey:ev ρ y=.agg [.int k a',.int k' b'].toArray)(h:gws P pan Qn s Ls (upd ρ t (.bool (neg ^^(decide (a=a')&& decide (b=b'))))) d L):
  gws P pan Qn (.op tk ⟨some t,none,.eqc neg [(0,0),(0,1)] x y⟩ s) Ls ρ d L:=
 Xi (decide (a=a')&& decide (b=b')) ex ey (by
  simp only[IA,eq1];by_cases h1:a=a'
  ·by_cases h2:b=b'<;>simp[h1,h2]
  ·simp[h1]) h
def Ds{i}{len sz b o:Nat}{k}(m:Nat)(ex:ev ρ x=.pointer (some ⟨b,o,none⟩))(ei:ev ρ i=.int k j)(hm:j=(m:Int))(hl:m<len)(h:gws P pan Qn s Ls (upd ρ t (.pointer (some ⟨b,o+m*sz,none⟩))) d L):
  gws P pan Qn (.op tk ⟨some t,none,.idxa len sz x i⟩ s) Ls ρ d L:=by
 subst hm
 exact w_q rfl ⟨b,o,k,m,ex,ei,by omega,by omega,rfl⟩ h
def Zm{l}(ex:ev ρ x=Al l)(hl:(BR l).length≤140737488355328)
  (h:∀b T c,(BR l).length≤c→c≤maxLen→gws P pan Qn s Ls (upd ρ t (.slice (some ⟨b,0,none⟩) (BR l).length c)) d (bx b T (BR l++ZI (c - (BR l).length) (.int .i32 0))::L)):
  gws P pan Qn (.op false ⟨some t,none,.s2r x⟩ s) Ls ρ d L:=⟨d,L,Vs.refl d L,l,ex,hl,fun b T c h1 h2=>⟨_,_,Vs.refl _ _,h b T c h1 h2⟩⟩
def Xf(_:Ag)(cs:List Value)(x:Int):Prop:=cs=[.int .i32 x]
def Zs{rs:List Int}(ex:ev ρ x=v)(hr:RSl 1 Xf d v rs)(h:gws P pan Qn s Ls (upd ρ t (Al (rs.flatMap JP))) d L):gws P pan Qn (.op tk ⟨some t,none,.r2s x⟩ s) Ls ρ d L:=by
 obtain⟨a,c,b,o,rfl,h2,h3,h4,h5,h6,h7,h8⟩:=hr;refine w_q rfl ⟨a,rs,c,ex,fun e=>?_,fun a' ha i r hi=>?_,rfl⟩ h
 ·cases rs with
  |nil=>rfl
  |cons u us=>have:=h2 (by simp);rw[e] at this;cases this
 ·obtain⟨hlt,rfl⟩:=ZO.1 hi;have e:=h2 (by omega);rw[ha] at e;cases e;obtain⟨cs,k1,k2,k3⟩:=h8 i hlt;have k3:cs=[.int .i32 rs[i]]:=k3;subst k3;rw[Abw] at k2;rw[Addr.add_lit];exact MA k2.one
end
def A8.forget{P args d L}{Q:Value→List Ag→Prop}(h:A8 P f args d L (Ret fun r _ L'=>Q r L')):A8 P f args d L (Ret fun r d' L'=>d'=d∧Q r L'):=
 ⟨h.1,fun F W x=>(h.2 F W x).mono fun e W' ⟨d',L',a,b,c,r⟩=>⟨d,L',a.le b,Le.refl d,c,by
  cases e with
  |returned v=>exact⟨rfl,r⟩
  |panicked c=>exact r.elim
  |outgrown=>exact r.elim⟩⟩
def AM.of{P args d}(h:A8 P f args d [] (Ret fun r _ L'=>r=v∧L'=[])):AM P f args d v:=
 (A8.forget (Q:=fun r L'=>r=v∧L'=[]) h).mono fun e d' L' _ r=>by
  cases e with
  |returned v=>exact⟨r.2.1,r.1,r.2.2⟩
  |panicked c=>exact r.elim
  |outgrown=>exact r.elim
def AM.of'{pr:Bool}{P}{g:A6}(hd:QX pr P f=some g){args}(ha:args.length≤g.n){d}(h:gwp P g.code (mkPost g.res (Ret fun r _ L'=>r=v∧L'=[])) (TJ args) d []):AM P f args d v:=AM.of (Bd hd ha h)
section
variable {ρ:Env}{d:Ag}{L:List Ag}{t u:Nat}
def BI(e:ρ t=v):Cs [.tmp t] (Ret fun r _ L'=>r=v∧L'=[]) ρ d L:=Fu e ⟨rfl,rfl⟩
def Bf{a b:Bool}(e:ρ t=.bool a)(h:a=b):Cs [.tmp t] (Ret fun r _ L'=>r=.bool b∧L'=[]) ρ d L:=Fu e ⟨by rw[h],rfl⟩
def CF{k}(e:ρ t=.int k a)(h:a=b):Cs [.tmp t] (Ret fun r _ L'=>r=.int k b∧L'=[]) ρ d L:=Fu e ⟨by rw[h],rfl⟩
def BS{w}(e:ρ t=v)(e':ρ u=w):Cs [.tmp t,.tmp u] (Ret fun r _ L'=>r=.tuple #[v,w]∧L'=[]) ρ d L:=Zl e e' ⟨rfl,rfl⟩
end
end
end Go.Gk
end
section
namespace Go.Gk
open Go Go.Proofs Go.RowKit
variable{d:Ag}
def AM.V0{P f args v}(hc:Ey P f)
  (h:∀W,Sub d W→Calls P f args.toArray W fun e W'=>e=.returned v∧Below W.heap.size W W'):AM P f args d v:=
 ⟨hc,fun F W x=>(h W x.head).mono fun e W' ⟨he,hb⟩=>
  ⟨d,[],⟨x.1,fun k hk b o e=>by rw[hb.block b (Sub.lt (x.2 k hk) e)];exact x.2 k hk b o e⟩,Le.refl d,⟨hb.os,hb.tape,hb.output,hb.size⟩,by subst he;exact⟨rfl,rfl,rfl⟩⟩⟩
def cell_of{W}{b o:Nat}{v}(hs:Sub d W)(h:DC d b o v):W.cell? ⟨b,o,none⟩=some v:=by
 obtain⟨c,T,fr,h1,h2⟩:=h;have:=hs _ _ h1;simp[World.cell?,this,h2]
def Jk(g3 g4:Nat)(d:Ag):Prop:=(∀c,c<256→DC d g3 c (.int .u8 (Lib.firstT c)))∧∀i,i<16→DC d g4 (2*i) (.int .u8 (Lib.accLo i))∧DC d g4 (2*i+1) (.int .u8 (Lib.accHi i))
def Jk.mono{g3 g4:Nat}{d'}(h:Jk g3 g4 d)(hl:Le d d'):Jk g3 g4 d':=⟨fun c hc=>(h.1 c hc).mono hl,fun i hi=>⟨(h.2 i hi).1.mono hl,(h.2 i hi).2.mono hl⟩⟩
def Jk.Zt{g3 g4:Nat}{W}(h:Jk g3 g4 d)(hs:Sub d W):Lib.Utf8Tabs g3 g4 W:=⟨fun c hc=>cell_of hs (h.1 c hc),fun i hi=>⟨cell_of hs (h.2 i hi).1,cell_of hs (h.2 i hi).2⟩⟩
end Go.Gk
end
section
namespace Go.Gk
open Go Go.Proofs Go.RowKit Go.Lib Go.Shelf
def DC.OA{W}{b o:Nat}{v}(h:W.cell? ⟨b,o,none⟩=some v):DC (hw W) b o v:=(Lp h).2
def Ye{P}{ρ:Ren}(L:Lays.n196 P ρ)(X:U8Extra P ρ){W}(h3:VarReads P W "unicode/utf8.first" firstData)(h4:VarReads P W "unicode/utf8.acceptRanges" acceptData):Jk (ρ.g 3) (ρ.g 4) (hw W):=by
 have h:=utf8Tabs_of_readsT (U8Types.of196 L) X h3 h4;exact⟨fun c hc=>DC.OA (h.1 c hc),fun i hi=>⟨DC.OA (h.2 i hi).1,DC.OA (h.2 i hi).2⟩⟩
def UF{P W}{n:String}{k}{zs:List Int}{g:Nat}{t e}{m:Nat}(hg:P.globalNamed n=some g)(hty:(P.globals[g]?).map (·.type)=some t)(ht:P.underlying t=some (.array m e))
  (he:P.underlying e=some (.int k)) (hce:P.cellsOf e=1) (hct:P.cellsOf t=m) (h:VarReads P W n (tabData k zs)):DCs (hw W) g 0 (zs.map fun z=>Value.int k z):=by
 obtain⟨g',t',cs,fuel,p,hg',hty',hvar,hd⟩:=h
 obtain rfl:=Option.some.inj (hg.symm.trans hg')
 obtain rfl:=Option.some.inj (hty.symm.trans hty')
 have hcs:=cells_of_tab ht he hce hct hd
 simp only[World.var?,hg,Aas] at hvar
 split at hvar
 ·rename_i c T fr hb
  cases hvar
  refine⟨cs,T,fr,hb,fun i u hu=>?_⟩
  rw[Aac,←Array.getElem?_toList,hcs]
  exact hu
 ·cases hvar
def AM.yes{P f args d v}(h:AM P f args d v):A8 P f args d [] (Ret fun r _ _=>r=v):=
 h.mono fun e d' L' _ hr=>by cases e<;>first|exact hr.1|exact hr
set_option maxRecDepth 100000
def I3:Go.Pinned.utf8First=firstData:=by kernel_rfl
end Go.Gk
end
section
namespace Go.Gk.Val
open Go Go.Gk
inductive V where
 |mk (kind m e:Int) (text:List UInt8) (list:List V) (keys:List (List UInt8))
namespace V
abbrev kind:V→Int|mk k _ _ _ _ _=>k
abbrev m:V→Int|mk _ m _ _ _ _=>m
abbrev e:V→Int|mk _ _ e _ _ _=>e
abbrev text:V→List UInt8|mk _ _ _ t _ _=>t
abbrev list:V→List V|mk _ _ _ _ l _=>l
abbrev keys:V→List (List UInt8)|mk _ _ _ _ _ ks=>ks
def zero:V:=mk 0 0 0 [] [] []
def ext{a b:V}(h1:a.kind=b.kind)(h2:a.m=b.m)(h3:a.e=b.e)(h4:a.text=b.text)(h5:a.list=b.list)(h6:a.keys=b.keys):a=b:=by
 cases a;cases b;simp_all [kind,m,e,text,list,keys]
def U5{v x:V}(h:x∈v.list):SizeOf.sizeOf x<SizeOf.sizeOf v:=by
 cases v with
 |mk k m e t l ks=>
  have:=List.sizeOf_lt_of_mem (show x∈l from h)
  simp only[mk.sizeOf_spec];omega
def ind{p:V→Prop}(h:∀v,(∀x∈v.list,p x)→p v)(v:V):p v:=by
 have:∀(n:Nat) (v:V),SizeOf.sizeOf v≤n→p v:=by
  intro n;induction n with
  |zero=>intro v hv;cases v with|mk=>simp only[mk.sizeOf_spec] at hv;omega
  |succ n ih=>exact fun v hv=>h v (fun x hx=>ih x (by have:=U5 hx;omega))
 exact this _ v (ZL _)
end V
def I64(x:Int):Prop:= -9223372036854775808≤x∧x≤9223372036854775807
inductive Aw (d:Ag):List Value→V→Prop
 |mk {k m e:Int}{t:List UInt8}{l:List V}{ks:List (List UInt8)}{kv:Value}{a:Option Addr}{c b o:Nat}(css:Nat→List Value) (hk:I64 k) (hm:I64 m) (he:I64 e) (ht:t.length≤140737488355328) (hks:BK d kv ks)
   (h1:SAd a l.length b o) (h2:c≠0→∀a',a=some a'→a'.spot=none) (h3:a=none→c=0) (h4:l.length≤c) (h5:c≤9223372036854775807) (h6:l.length≤140737488355328)
   (h7:∀i,i<l.length→(css i).length=6) (h8:∀i,i<l.length→DCs d b (o+i*6) (css i)) (h9:∀i (h:i<l.length),Aw d (css i) l[i]):
   Aw d [vZ k,vZ m,vZ e,Al t,.slice a l.length c,kv] (.mk k m e t l ks)
def BL(d:Ag)(v:Value)(l:List V):Prop:=RSl 6 Aw d v l
def Aw.open{d cs}{v:V}(h:Aw d cs v):∃lv kv,cs=[vZ v.kind,vZ v.m,vZ v.e,Al v.text,lv,kv]∧I64 v.kind∧I64 v.m∧I64 v.e∧v.text.length≤140737488355328∧BL d lv v.list∧BK d kv v.keys:=by
 cases h with
 |mk css hk hm he ht hks h1 h2 h3 h4 h5 h6 h7 h8 h9=>
  exact⟨_,_,rfl,hk,hm,he,ht,⟨_,_,_,_,rfl,h1,h2,h3,h4,h5,h6,fun i hi=>⟨css i,h7 i hi,h8 i hi,h9 i hi⟩⟩,hks⟩
def Aw.close{d}{v:V}{lv kv}(hk:I64 v.kind)(hm:I64 v.m)(he:I64 v.e)(ht:v.text.length≤140737488355328)(hl:BL d lv v.list)(hks:BK d kv v.keys):
  Aw d [vZ v.kind,vZ v.m,vZ v.e,Al v.text,lv,kv] v:=by
 obtain⟨k,m,e,t,l,ks⟩:=v
 obtain⟨a,c,b,o,rfl,h1,h2,h3,h4,h5,h6,h7⟩:RSl 6 Aw d lv l:=hl
 exact Aw.mk (fun i=>if h:i<l.length then(h7 i h).choose else []) hk hm he ht hks h1 h2 h3 h4 h5 h6 (fun i hi=>by rw[dif_pos hi];exact(h7 i hi).choose_spec.1) (fun i hi=>by rw[dif_pos hi];exact(h7 i hi).choose_spec.2.1)
  (fun i hi=>by rw[dif_pos hi];exact(h7 i hi).choose_spec.2.2)
def Aw.zero{d}:Aw d [vZ 0,vZ 0,vZ 0,Al [],.slice none 0 0,.slice none 0 0] V.zero:=
 Aw.close (v:=V.zero) ⟨by decide,by decide⟩ ⟨by decide,by decide⟩ ⟨by decide,by decide⟩ (by simp[V.zero,V.text]) RSl.nil RSl.nil
def Aw.mono{d d'}(hl:Le d d'){cs}{v:V}(h:Aw d cs v):Aw d' cs v:=by
 induction h with
 |mk css hk hm he ht hks h1 h2 h3 h4 h5 h6 h7 h8 h9 ih=>exact Aw.mk css hk hm he ht (BK.mono hks hl) h1 h2 h3 h4 h5 h6 h7 (fun i hi=>(h8 i hi).mono hl) ih
def B8:HG Aw:=fun hl h=>Aw.mono hl h
def BL.mono{d d' v}{l:List V}(h:BL d v l)(hl:Le d d'):BL d' v l:=RSl.mono (R:=Aw) (fun hl h=>Aw.mono hl h) h hl
def AH:Eg Aw:=fun d cs x h=>by
 obtain⟨lv,kv,rfl,_,_,_,_,h1,h2⟩:=h.open;obtain⟨_,_,rfl⟩:=RSl.val h1;obtain⟨_,_,rfl⟩:=RSl.val h2;rfl
def Aw.len{d cs}{v:V}(h:Aw d cs v):cs.length=6:=by obtain⟨_,_,rfl,_⟩:=h.open;rfl
inductive Cv:List Value→V→Ag→Prop
 |mk {k m e:Int}{t:List UInt8}{l:List V}{ks:List (List UInt8)}{lv kv:Value}{hk hl:Ag}{ccs:List Value}{hs:List Ag}(ik:I64 k) (im:I64 m) (ie:I64 e) (ht:t.length≤140737488355328)
   (gk:AN 1 A2 emp kv ks hk) (gl:BO 6 lv l.length ccs hl) (hsl:hs.length=l.length) (el:∀i (h:i<l.length),Cv (chunk ccs i 6) l[i] (hs.getD i emp)) (dj:(hk::hl::hs).Pairwise DG):
   Cv [vZ k,vZ m,vZ e,Al t,lv,kv] (.mk k m e t l ks) (E4 (hk::hl::hs))
def Cv.open{cs}{v:V}{h}(o:Cv cs v h):∃lv kv hk hl ccs hs,cs=[vZ v.kind,vZ v.m,vZ v.e,Al v.text,lv,kv]∧I64 v.kind∧I64 v.m∧I64 v.e∧v.text.length≤140737488355328∧
  AN 1 A2 emp kv v.keys hk∧BO 6 lv v.list.length ccs hl∧hs.length=v.list.length∧(∀i (h:i<v.list.length),Cv (chunk ccs i 6) v.list[i] (hs.getD i emp))∧(hk::hl::hs).Pairwise DG∧h=E4 (hk::hl::hs):=by
 cases o with
 |mk ik im ie ht gk gl hsl el dj=>exact⟨_,_,_,_,_,_,rfl,ik,im,ie,ht,gk,gl,hsl,el,dj,rfl⟩
def AN.strs{d d' v xs h}(o:AN 1 A2 d v xs h)(hl:Le h d'):BK d' v xs:=by
 obtain⟨cs,h1,h2⟩:=o;exact h1.rsl hl rfl (by omega) (fun i hi=>h2 i hi)
def Cv.Mj{d cs}{v:V}{h}(o:Cv cs v h)(hl:Le h d):Aw d cs v:=by
 induction o with
 | @mk k m e t l ks lv kv hk hll ccs hs ik im ie ht gk gl hsl el dj ih=>
  refine Aw.close (v:=.mk k m e t l ks) ik im ie ht ?_ (AN.strs gk ((Fa (ZG ..)).trans hl))
  refine gl.rsl ((Fa (ZE _ (ZG ..))).trans hl) rfl (by omega) (fun i hi=>ih i hi ?_)
  have hi':i<hs.length:=by have:i<l.length:=hi;omega
  have e:hs.getD i emp=hs[i]:=by simp[hi']
  rw[e]
  exact(Fa (ZE _ (ZE _ (ZC hi')))).trans hl
def Cv.zero:Cv [vZ 0,vZ 0,vZ 0,Al [],.slice none 0 0,.slice none 0 0] V.zero (E4 [emp,emp]):=
 Cv.mk (l:=[]) (hs:=[]) (ccs:=[]) ⟨by decide,by decide⟩ ⟨by decide,by decide⟩ ⟨by decide,by decide⟩ (by simp) AN.nil (BO.nil 6) rfl (fun i h=>absurd h (Z3 i)) (by simp;exact fun _ _ _ h=>h.elim)
end Go.Gk.Val
end
section
namespace Go.Gk.Utf
open Go Go.Lib
variable{n:Int}
def D3(n:Int):List Nat:=
 if n<0∨n>1114111∨(55296≤n∧n≤57343) then [] else
 if n<128 then [n.toNat] else
 if n<2048 then [(192+n / 64).toNat,(128+n % 64).toNat] else
 if n<65536 then [(224+n / 4096).toNat,(128+n / 64 % 64).toNat,(128+n % 64).toNat] else
 [(240+n / 262144).toNat,(128+n / 4096 % 64).toNat,(128+n / 64 % 64).toNat,(128+n % 64).toNat]
def Dn(n:Int):List UInt8:=(D3 n).map UInt8.ofNat
def WW(n:Int):∀x∈D3 n,x<256:=by
 intro x hx;unfold D3 at hx;split at hx
 ·simp at hx
 ·split at hx
  ·simp at hx;omega
  ·split at hx
   ·simp at hx;omega
   ·split at hx
    ·simp at hx;omega
    ·simp at hx;omega
def ofNat_toNat{x:Nat}(h:x<256):(UInt8.ofNat x).toNat=x:=by simp;omega
def VJ(n:Int)(l:List UInt8):Dn n=l↔D3 n=l.map UInt8.toNat:=by
 constructor
 ·intro h;rw[←h,Dn,List.map_map];conv=>lhs;rw[←List.map_id (D3 n)]
  exact Aap (fun x hx=>(ofNat_toNat (WW n x hx)).symm)
 ·intro h;rw[Dn,h,List.map_map];conv=>rhs;rw[←List.map_id l]
  exact Aap (fun x _=>by simp)
def ch1(b0:Nat)(h0:b0<256):D3 (b0:Int)=[b0]↔b0<128:=by
 unfold D3;rw[if_neg (by omega)];split
 ·simp;omega
 ·rw[if_pos (by omega)];simp;omega
def ch2(b0 b1:Nat)(h0:b0<256)(h1:b1<256):D3 (((b0:Int) - 192)*64+b1 - 128)=[b0,b1]↔194≤b0∧b0<224∧128≤b1∧b1<192:=by
 unfold D3;generalize hc:((b0:Int) - 192)*64+b1 - 128=c;split
 ·constructor
  ·intro h;cases h
  ·intro h;omega
 ·split
  ·constructor
   ·intro h;cases h
   ·intro h;omega
  ·split
   ·simp only[List.cons.injEq,and_true];omega
   ·split
    ·constructor
     ·intro h;cases h
     ·intro h;omega
    ·constructor
     ·intro h;cases h
     ·intro h;omega
def ch3(b0 b1 b2:Nat)(h0:b0<256)(h1:b1<256)(h2:b2<256):D3 ((((b0:Int) - 224)*64+b1 - 128)*64+b2 - 128)=[b0,b1,b2]↔
  224≤b0∧b0<240∧128≤b1∧b1<192∧128≤b2∧b2<192∧2048≤(b0 - 224)*4096+(b1 - 128)*64+(b2 - 128)∧¬(55296≤(b0 - 224)*4096+(b1 - 128)*64+(b2 - 128)∧(b0 - 224)*4096+(b1 - 128)*64+(b2 - 128)≤57343):=by
 unfold D3
 generalize hc:(((b0:Int) - 224)*64+b1 - 128)*64+b2 - 128=c
 split
 ·constructor
  ·intro h;cases h
  ·intro h;omega
 ·split
  ·constructor
   ·intro h;cases h
   ·intro h;omega
  ·split
   ·constructor
    ·intro h;cases h
    ·intro h;omega
   ·split
    ·simp only[List.cons.injEq,and_true];omega
    ·constructor
     ·intro h;cases h
     ·intro h;omega
def ch4(b0 b1 b2 b3:Nat)(h0:b0<256)(h1:b1<256)(h2:b2<256)(h3:b3<256):D3 (((((b0:Int) - 240)*64+b1 - 128)*64+b2 - 128)*64+b3 - 128)=[b0,b1,b2,b3]↔
  240≤b0∧b0<248∧128≤b1∧b1<192∧128≤b2∧b2<192∧128≤b3∧b3<192∧65536≤(b0 - 240)*262144+(b1 - 128)*4096+(b2 - 128)*64+(b3 - 128)∧(b0 - 240)*262144+(b1 - 128)*4096+(b2 - 128)*64+(b3 - 128)≤1114111:=by
 unfold D3
 generalize hc:((((b0:Int) - 240)*64+b1 - 128)*64+b2 - 128)*64+b3 - 128=c
 split
 ·constructor
  ·intro h;cases h
  ·intro h;omega
 ·split
  ·constructor
   ·intro h;cases h
   ·intro h;omega
  ·split
   ·constructor
    ·intro h;cases h
    ·intro h;omega
   ·split
    ·constructor
     ·intro h;cases h
     ·intro h;omega
    ·simp only[List.cons.injEq,and_true];omega
def On(h:n<0∨n>1114111∨(55296≤n∧n≤57343)):Dn n=[]:=by rw[Dn,D3,if_pos h];rfl
def Ix{x:Int}(h0:0≤x)(h1:x<256):(x % 256).toNat=x.toNat:=by omega
def X5(h0:0≤n)(h1:n<128):Dn n=[UInt8.ofNat (n % 256).toNat]:=by
 rw[Dn,D3,if_neg (by omega),if_pos (by omega),Ix h0 (by omega)];rfl
def XY(h0:128≤n)(h1:n<2048):Dn n=[UInt8.ofNat ((192+n / 64) % 256).toNat,UInt8.ofNat ((128+n % 64) % 256).toNat]:=by
 rw[Dn,D3,if_neg (by omega),if_neg (by omega),if_pos (by omega),Ix (by omega) (by omega),Ix (by omega) (by omega)];rfl
def Ss(h0:2048≤n)(h1:n<65536)(h2:¬(55296≤n∧n≤57343)):Dn n=[UInt8.ofNat ((224+n / 4096) % 256).toNat,UInt8.ofNat ((128+n / 64 % 64) % 256).toNat,UInt8.ofNat ((128+n % 64) % 256).toNat]:=by
 rw[Dn,D3,if_neg (by omega),if_neg (by omega),if_neg (by omega),if_pos (by omega),Ix (by omega) (by omega),Ix (by omega) (by omega),Ix (by omega) (by omega)];rfl
def Yl(h0:65536≤n)(h1:n≤1114111):Dn n=[UInt8.ofNat ((240+n / 262144) % 256).toNat,UInt8.ofNat ((128+n / 4096 % 64) % 256).toNat,UInt8.ofNat ((128+n / 64 % 64) % 256).toNat,UInt8.ofNat ((128+n % 64) % 256).toNat]:=by
 rw[Dn,D3,if_neg (by omega),if_neg (by omega),if_neg (by omega),if_neg (by omega),Ix (by omega) (by omega),Ix (by omega) (by omega),Ix (by omega) (by omega),Ix (by omega) (by omega)];rfl
def bt(l:List UInt8)(i:Nat):Int:=(l.getD i 0).toNat
def hd:Nat→Int|2=>192|3=>224|4=>240|_=>0
def Fi(l:List UInt8)(n:Nat):Nat→Int
 |0=>0
 |1=>bt l 0 - hd n
 |i+2=>Fi l n (i+1)*64+bt l (i+1) - 128
def EZ(l:List UInt8):Nat→Nat→Int×Int
 |0,_=>(0,0)
 |f+1,n=>if n≤4∧n≤l.length then(if Dn (Fi l n n)=l.take n then(Fi l n n,(n:Int)) else EZ l f (n+1)) else(0,0)
def Eo(l:List UInt8):Int×Int:=EZ l 4 1
def Lz(l:List UInt8):∀n,n≤l.length→(l.take n).map UInt8.toNat=(Z8 n).map fun i=>(l.getD i 0).toNat:=by
 intro n hn;apply Abz
 ·simp;omega
 ·intro i h1 h2;simp only[Aay,ZP] at h1;simp[show i<l.length by omega]
def I3{l}(hl:l≠[]):Eo l=if decodeL l=(65533,1) then(0,0) else(((decodeL l).1:Int),((decodeL l).2:Int)):=by
 have hn:1≤l.length:=List.length_pos_iff.2 hl;have t1:=fun h=>Lz l 1 h;have t2:=fun h=>Lz l 2 h;have t3:=fun h=>Lz l 3 h;have t4:=fun h=>Lz l 4 h;have e1:(Z8 1).map (fun i=>(l.getD i 0).toNat)=[(l.getD 0 0).toNat]:=rfl;have e2:(Z8 2).map (fun i=>(l.getD i 0).toNat)=[(l.getD 0 0).toNat,(l.getD 1 0).toNat]:=rfl;have e3:(Z8 3).map (fun i=>(l.getD i 0).toNat)=[(l.getD 0 0).toNat,(l.getD 1 0).toNat,(l.getD 2 0).toNat]:=rfl;have e4:(Z8 4).map (fun i=>(l.getD i 0).toNat)=[(l.getD 0 0).toNat,(l.getD 1 0).toNat,(l.getD 2 0).toNat,(l.getD 3 0).toNat]:=rfl;have h0:=(l.getD 0 0).toNat_lt;have h1:=(l.getD 1 0).toNat_lt;have h2:=(l.getD 2 0).toNat_lt;have h3:=(l.getD 3 0).toNat_lt;have n1:Fi l 1 1=((l.getD 0 0).toNat:Int):=by simp[Fi,bt,hd]
 have n2:Fi l 2 2=(((l.getD 0 0).toNat:Int) - 192)*64+(l.getD 1 0).toNat - 128:=rfl;have n3:Fi l 3 3=((((l.getD 0 0).toNat:Int) - 224)*64+(l.getD 1 0).toNat - 128)*64+(l.getD 2 0).toNat - 128:=rfl;have n4:Fi l 4 4=(((((l.getD 0 0).toNat:Int) - 240)*64+(l.getD 1 0).toNat - 128)*64+(l.getD 2 0).toNat - 128)*64+(l.getD 3 0).toNat - 128:=rfl;have c1:=ch1 _ h0;have c2:=ch2 _ _ h0 h1;have c3:=ch3 _ _ _ h0 h1 h2;have c4:=ch4 _ _ _ _ h0 h1 h2 h3;rw[decodeL_N];simp only[Eo,EZ,VJ];generalize (l.getD 0 0).toNat=b0 at*;generalize (l.getD 1 0).toNat=b1 at*;generalize (l.getD 2 0).toNat=b2 at*;generalize (l.getD 3 0).toNat=b3 at*;generalize hN:l.length=N at*;simp only[n1,n2,n3,n4];rw[if_pos (by omega),t1 hn,e1];by_cases p1:b0<128
 ·rw[if_pos (c1.2 p1)];simp only[decodeN,if_pos p1];rw[if_neg (by simp;omega)]
 rw[if_neg (fun h=>p1 (c1.1 h))];by_cases l2:2≤N
 ·rw[if_pos (by omega),t2 l2,e2];by_cases p2:194≤b0∧b0<224∧128≤b1∧b1<192
  ·rw[if_pos (c2.2 p2)];have:decodeN N b0 b1 b2 b3=(b0 % 32*64+b1 % 64,2):=by
    simp only[decodeN];rw[if_neg p1,if_pos (by omega),if_pos (by omega)]
   rw[this,if_neg (by simp)];refine Prod.ext ?_ rfl;simp only[Int.natCast_add,Aam];omega
  rw[if_neg (fun h=>p2 (c2.1 h))];by_cases l3:3≤N
  ·rw[if_pos (by omega),t3 l3,e3];by_cases p3:224≤b0∧b0<240∧128≤b1∧b1<192∧128≤b2∧b2<192∧2048≤(b0 - 224)*4096+(b1 - 128)*64+(b2 - 128)∧¬(55296≤(b0 - 224)*4096+(b1 - 128)*64+(b2 - 128)∧(b0 - 224)*4096+(b1 - 128)*64+(b2 - 128)≤57343)
   ·rw[if_pos (c3.2 p3)];have:decodeN N b0 b1 b2 b3=(b0 % 16*4096+b1 % 64*64+b2 % 64,3):=by
     simp only[decodeN];rw[if_neg p1,if_neg (by omega),if_pos (by omega),if_pos (by omega)]
    rw[this,if_neg (by simp)];refine Prod.ext ?_ rfl;simp only[Int.natCast_add,Aam];omega
   rw[if_neg (fun h=>p3 (c3.1 h))];by_cases l4:4≤N
   ·rw[if_pos (by omega),t4 l4,e4];by_cases p4:240≤b0∧b0<248∧128≤b1∧b1<192∧128≤b2∧b2<192∧128≤b3∧b3<192∧65536≤(b0 - 240)*262144+(b1 - 128)*4096+(b2 - 128)*64+(b3 - 128)∧(b0 - 240)*262144+(b1 - 128)*4096+(b2 - 128)*64+(b3 - 128)≤1114111
    ·rw[if_pos (c4.2 p4)];have:decodeN N b0 b1 b2 b3=(b0 % 8*262144+b1 % 64*4096+b2 % 64*64+b3 % 64,4):=by
      simp only[decodeN];rw[if_neg p1,if_neg (by omega),if_neg (by omega),if_pos (by omega),if_pos (by omega)]
     rw[this,if_neg (by simp)];refine Prod.ext ?_ rfl;simp only[Int.natCast_add,Aam];omega
    rw[if_neg (fun h=>p4 (c4.1 h)),if_pos];simp only[decodeN];rw[if_neg p1];repeat' split
    all_goals first|rfl|(exfalso;omega)
   ·rw[if_neg (by omega),if_pos];simp only[decodeN];rw[if_neg p1];repeat' split
    all_goals first|rfl|(exfalso;omega)
  ·rw[if_neg (by omega),if_pos];simp only[decodeN];rw[if_neg p1];repeat' split
   all_goals first|rfl|(exfalso;omega)
 ·rw[if_neg (by omega),if_pos];simp only[decodeN];rw[if_neg p1];repeat' split
  all_goals first|rfl|(exfalso;omega)
def Lg(l:List UInt8)(i:Nat):0≤bt l i∧bt l i≤255:=by
 have:=(l.getD i 0).toNat_lt;simp only[bt];omega
def Yj(l:List UInt8){n i:Nat}(h:i≤4): -100000000≤Fi l n i∧Fi l n i≤100000000:=by
 have b0:=Lg l 0;have b1:=Lg l (0+1);have b2:=Lg l (1+1);have b3:=Lg l (2+1);have hh:0≤hd n∧hd n≤240:=by
  unfold hd;split<;>omega
 match i,h with
 |0,_=>simp[Fi]
 |1,_=>simp only[Fi];omega
 |2,_=>simp only[Fi];omega
 |3,_=>simp only[Fi];omega
 |4,_=>simp only[Fi];omega
def M4(l:List UInt8):∀f n,0≤(EZ l f n).2∧(EZ l f n).2≤l.length
 |0,n=>by simp[EZ]
 |f+1,n=>by
  simp only[EZ];split
  ·split
   ·simp only;omega
   ·exact M4 l f (n+1)
  ·simp
def Yd{l}(hl:l≠[]):validD l=if (Eo l).2=0 then false else validD (l.drop (Eo l).2.toNat):=by
 rw[validD_step l hl,I3 hl];have hw:=decodeL_width l;by_cases h:decodeL l=(65533,1)
 ·rw[if_pos h,if_pos rfl,h];simp
 ·rw[if_neg h];have h2:¬((decodeL l).1=65533∧(decodeL l).2=1):=fun⟨a,b⟩=>h (Prod.ext a b);rw[if_neg h2,if_neg (by simp only;omega)];simp
end Go.Gk.Utf
end
