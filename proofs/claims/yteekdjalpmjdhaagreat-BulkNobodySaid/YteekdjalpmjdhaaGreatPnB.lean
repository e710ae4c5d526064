/-
  Our own texts, one behind the other: Gk6 Gk7 GkSr Gk8 Gk9 Gk10 Gk11 Gk32 Gk33 Gk34 Gk35 Gk36 Gk37 Gk38 Gk12 Gk13 Gk14 Gk15 Gk39 Gk16 Gk17 Gk18 Gk23 Gk30 Gk31 Gk24.
-/
import Derived.Deep.LoopGhost
import Derived.ProofKit
import Derived.OpenShut
import Derived.JoinedCond
import Derived.SizedLaws
import Derived.OrdersIn
import Derived.RangeFuncCalls
import Derived.RangeFuncLeaves
import Derived.RangeFuncRecord
import Derived.Sort.LoopGhostIn
import Derived.Conc.LoneSelect
import Derived.Test.YteekdjalpmjdhaaGreatPnA
set_option linter.defProp false
set_option linter.unusedVariables false
set_option linter.unusedSimpArgs false
open List renaming append_assoc→Mq,getElem?_eq_getElem→Mt,replicate→Mv,mem_append→Mw,all_eq_true→Mx,range→Mz,getElem?_eq_some_iff→MA,length_append→MH,perm_append_comm→MJ,getElem?_take_of_lt→MK,eq_nil_of_length_eq_zero→MM,mem_cons_self→MN,mem_cons→MO,getElem?_eq_none→MP,sublist_cons_self→MU,length_take→MW,mem_cons_of_mem→MX,mem_singleton→MY,length_set→M0,drop_eq_getElem_cons→M5,append_cancel_right→M6,append_nil→M9,perm_append_comm_assoc→Na,nil_sublist→Nc,toArray→Nd,mem_range→Nf,sublist_append_right→Ng,mem_of_getElem?→Nh,length_drop→Nn,getElem?_drop→No,mem_append_right→Nr,ext_getElem?→Nu,mem_append_left→Nv,length_map→Ny
open Bool renaming and_eq_true→Mr,false_eq_true→ME,not_eq_true'→MS,or_eq_true→MZ,not_eq_true→Nl
open Nat renaming mul_le_mul_right→MF,le_refl→MR,add_mul→MT,zero_add→Nj,one_mul→Nk,eq_of_beq_eq_true→Np,not_lt_zero→Ns
open List.Perm renaming cons→My,swap→ML
open Option renaming bind_eq_some_iff→MB,map_eq_some_iff→MG,bind_some→Nb
open List.Sublist renaming cons_cons→M3
section
namespace Go.Gk
open Go
variable{d d0:Aa}{g:GOp}{ρ:Env}{v:Value}{x c y:Operand}{k:IntKind}{a b:Int}{i:GI}{p:Prop}{α:Type}
section
def Ok.le{d' hs W}(x:Ok (d::hs) W)(h:Le d' d):Ok (d'::hs) W:=by
 rw[Ok.Bu] at*;exact⟨x.1.le h,fun k hk=>(x.2.1 k hk).le h,x.2.2⟩
def lift(n:Nat)(ds:List Deferred)(F:List Aa)(W0:World)(d0:Aa)(Q:AP):Exit→Act→World→Prop
 |.normal,a,W=>∃ρ d L,a=act n ρ ds∧Ok (d::(L++F)) W∧Le d0 d∧Ak W0 W∧Q.n ρ d L
 |.exit i,a,W=>∃ρ d L,a=act n ρ ds∧Ok (d::(L++F)) W∧Le d0 d∧Ak W0 W∧Q.ex i ρ d L
 |.ret,a,W=>∃ρ d L,a=act n ρ ds∧Ok (d::(L++F)) W∧Le d0 d∧Ak W0 W∧Q.ret ρ d L
 |.panic c,a,W=>a.defers=ds∧∃d L,Ok (d::(L++F)) W∧Le d0 d∧Ak W0 W∧Q.pan c d L
 |_,_,_=>False
def Co{P}{n:Nat}{ops}{o:Oper}(h:CG P n ops o=some g):
  (∀x∈o.op.operands,Bx n x=true)∧(∀t,o.dst=some t→t<n)∧(∀cs b,o.op≠.select cs b)∧Fm P o=some g.i∧g.dst=o.dst∧
  ((o.guard=none∧g.guard=none)∨∃j want t,o.guard=some (j,want)∧(ops[j]?).bind (·.dst)=some t∧t<n∧g.guard=some (t,want)):=by
 unfold CG at h
 split at h
 ·rename_i hc
  simp only[Mr] at hc
  obtain⟨⟨h1,h2⟩,h3⟩:=hc
  have h1':∀x∈o.op.operands,Bx n x=true:=by
   intro x hx;exact(Mx.1 h1) x (by simpa using hx)
  have h2':∀t,o.dst=some t→t<n:=by
   intro t ht;rw[ht] at h2;simpa [GA] using h2
  have h3':∀cs b,o.op≠.select cs b:=by
   intro cs b e;rw[e] at h3;simp[Kf] at h3
  split at h
  ·cases h
  ·rename_i i hi
   split at h
   ·rename_i hg;cases h;exact⟨h1',h2',h3',hi,rfl,.inl ⟨hg,rfl⟩⟩
   ·rename_i j want hg
    split at h
    ·rename_i t ht
     split at h
     ·rename_i htn;cases h;exact⟨h1',h2',h3',hi,rfl,.inr ⟨j,want,t,hg,ht,htn,rfl⟩⟩
     ·cases h
    ·cases h
 ·cases h
def Cl{n:Nat}{ds ops}{o:Oper}{j t:Nat}{want b:Bool}(hg:o.guard=some (j,want))(ht:(ops[j]?).bind (·.dst)=some t)(htn:t<n)
  (hb:ρ t=.bool b):Region.wanted o (yielded ops (act n ρ ds).tmps)=(b==want):=by
 have:yielded ops (act n ρ ds).tmps j=some b:=by
  unfold yielded;have h2:(act n ρ ds).tmps[t]?=some (.bool b):=by simp[act,htn,hb]
  simp only[ht,Nb,h2]
 simp[Region.wanted,hg,this]
def Di{n:Nat}{ds ops}{o:Oper}{j t:Nat}{want:Bool}(hg:o.guard=some (j,want))(ht:(ops[j]?).bind (·.dst)=some t)(htn:t<n)
  (hb:ρ t=undef):Region.wanted o (yielded ops (act n ρ ds).tmps)=false:=by
 have:yielded ops (act n ρ ds).tmps j=none:=by
  unfold yielded;have h2:(act n ρ ds).tmps[t]?=some undef:=by simp[act,htn,hb]
  simp only[ht,Nb,h2,undef]
 simp[Region.wanted,hg,this]
def CL{P}{n:Nat}{ds ops}{i:Nat}{o:Oper}(hi:ops[i]?=some o)(hd:CG P n ops o=some g)
  {pan:List PanicEntry→Ah}{ρ d Lk L F}{K:Env→Ah}{W}(hOk:Ok (d::(L++F)) W) (hl:∀k∈Lk,Sub k W) (hB:∀B,Lk=B++L→∃F',F.Perm (B++F'))
  (h:gop P pan g ρ d Lk L K) {Q nxt}
  (hK:∀ρ' d' L' W',Ok (d'::(L'++F)) W'→Le d d'→Ak W W'→K ρ' d' L'→nxt (act n ρ' ds) W')
  (hP:∀c d' L' W',Ok (d'::(L'++F)) W'→Le d d'→Ak W W'→pan c d' L'→Q (.panic c) (act n ρ ds) W'):wpOp P ops Q i nxt (act n ρ ds) W:=by
 obtain⟨hop,hdst,_,hdi,hgd,hgu⟩:=Co hd
 unfold wpOp
 simp only[hi]
 have run:gi P pan ρ d Lk L (fun v d' L'=>K (put ρ g.dst v) d' L') g.i→o.wp P (act n ρ ds) W nxt Q:=by
  intro h';refine JQ hdi hop hOk hl hB h' ?_ hP;intro v d' L' W' h1 h2 h3 h4;rw[Ch hdst,←hgd];exact hK _ _ _ _ h1 h2 h3 h4
 rcases hgu with ⟨hg,hg'⟩|⟨j,want,t,hg,ht,htn,hg'⟩
 ·have:Region.wanted o (yielded ops (act n ρ ds).tmps)=true:=by simp[Region.wanted,hg]
  simp only[this,if_true]
  simp only[gop,hg'] at h
  exact .inl (run h)
 ·simp only[gop,hg'] at h
  rcases h with ⟨b,hb,h1,h2⟩|⟨hb,h2⟩
  case inr=>
   rw[Di hg ht htn hb]
   simp only[ME,if_false]
   rw[Ch hdst,←hgd]
   exact hK _ _ _ _ hOk (Le.refl d) (Ak.refl W) h2
  rw[Cl hg ht htn hb]
  by_cases e:b=want
  ·subst e
   simp only[beq_self_eq_true,if_true]
   exact .inl (run (h1 rfl))
  ·have e':(b==want)=false:=by simpa using e
   simp only[e',ME,if_false]
   rw[Ch hdst,←hgd]
   exact hK _ _ _ _ hOk (Le.refl d) (Ak.refl W) (h2 (by cases b<;>cases want<;>simp_all))
def BP{P}{n:Nat}{ds ops}{Q:AP}{F W0}:∀(l:List Nat) (s:GS),AH P n ops (Bh l)=some s→
  ∀(ρ:Env) (d:Aa) (L:List Aa) (W:World),gws P Q.pan Q.n s [] ρ d L→Ok (d::(L++F)) W→Le d0 d→Ak W0 W→wpOps P ops (lift n ds F W0 d0 Q) l (act n ρ ds) W
 |[],s,hs,ρ,d,L,W,h,hOk,hle,hk=>by
  simp[Bh,AH] at hs;subst hs;obtain⟨d1,L1,hv,hq⟩:=h;exact⟨ρ,d1,L1,rfl,hv.2 F W (by simpa using hOk),hle.trans hv.1,hk,hq⟩
 |i::l,s,hs,ρ,d,L,W,h,hOk,hle,hk=>by
  simp only[Bh,AH] at hs;split at hs<;>try cases hs
  rename_i g s' hg hs';rw[MB] at hg;obtain⟨o,ho,hd⟩:=hg;obtain⟨d1,L1,hv,h⟩:=h;rw[wpOps_cons];have hOk1:=hv.2 F W hOk;refine CL ho hd hOk1 (fun k hk=>hOk1.2 k (by simp at hk;simp[hk])) (fun B hB=>⟨F,by rw[←M6 hB];exact List.Perm.refl _⟩) h ?_ ?_
  ·intro ρ' d' L' W' h1 h2 h3 ⟨d2,L2,hv2,h4⟩;exact BP l s' hs' ρ' d2 L2 W' h4 (hv2.2 F W' h1) (hle.trans ((hv.1.trans h2).trans hv2.1)) (hk.trans h3)
  ·intro c d' L' W' h1 h2 h3 h4;exact⟨rfl,d',L',h1,hle.trans (hv.1.trans h2),hk.trans h3,h4⟩
section
variable {P:Program}{ops:Array Oper}{Q:Exit→Act→World→Prop}
def Closed(ops:Array Oper)(listed:Array Bool):Prop:=∀(j:Nat) (oj:Oper),ops[j]?=some oj→listed.getD j false=true→∀e∈oj.after,Region.binds .any e=true→listed.getD e.on false=true
def Closed.set{listed}(h:Closed ops listed){i:Nat}(hi:i∈Region.ready .any ops listed):Closed ops (listed.setIfInBounds i true):=by
 intro j oj hj hl e he hb;by_cases hij:i=j
 ·subst hij;obtain⟨-,o,ho,hall⟩:=mem_ready.1 hi;rw[hj] at ho;cases ho;exact getD_set_true (hall e he hb)
 ·rw[getD_set_ne false hij] at hl;exact getD_set_true (h j oj hj hl e he hb)
def Gg{j x:Nat}(h:x∈EI ops j):∃oj,ops[j]?=some oj∧∃e∈oj.after,Region.binds .any e=true∧e.on=x:=by
 unfold EI at h;cases ho:ops[j]? with
 |none=>rw[ho] at h;simp at h
 |some o=>
  rw[ho] at h
  simp only[Option.map_some,Option.getD_some,List.mem_map,List.mem_filter] at h
  obtain⟨e,⟨h1,h2⟩,h3⟩:=h
  exact⟨o,rfl,e,by simpa using h1,h2,h3⟩
def D5{listed}(hc:Closed ops listed):∀(l m:List Nat),(∀x∈m,listed.getD x false=true)→∀x∈G0 ops l m,listed.getD x false=true
 |[],m,h=>h
 |i::l,m,h=>by
  refine D5 hc l _ (fun x hx=>?_);split at hx
  ·rename_i hm;rcases Mw.1 hx with hx|hx
   ·obtain⟨oj,h1,e,h2,h3,rfl⟩:=Gg hx;exact hc i oj h1 (h i (by simpa using hm)) e h2 h3
   ·exact h x hx
  ·exact h x hx
def Gv{bs:List Bool}(h:C9 ops bs=true){listed}(hc:Closed ops listed){i j:Nat}{oi oj:Oper}(hi:ops[i]?=some oi)(hj:ops[j]?=some oj)(bj:bs.getD j false=true)(bi:bs.getD i false=false)
  (hall:∀e∈oj.after,Region.binds .any e=true→listed.getD e.on false=true):listed.getD i false=true:=by
 have hil:=(Array.getElem?_eq_some_iff.1 hi).1
 have hjl:=(Array.getElem?_eq_some_iff.1 hj).1
 simp only[C9,MZ] at h
 rcases h with h|h
 ·simp only[Gc,Mx,Nf,MZ] at h
  have h1:=h j hjl
  rw[bj] at h1
  rcases h1 with h1|h1
  ·cases h1
  ·rcases h1 i hil with h2|h2
   ·rw[bi] at h2;cases h2
   ·rw[hj] at h2
    simp only[Option.any_some,waits] at h2
    obtain⟨e,he,hb⟩:=Array.any_eq_true'.1 h2
    simp only[Mr,beq_iff_eq] at hb
    have:=hall e he hb.1
    rwa [hb.2] at this
 ·simp only[Mx,Nf,MZ,Kc] at h
  have h1:=h j hjl
  rw[bj] at h1
  rcases h1 with h1|h1
  ·cases h1
  ·rcases h1 i hil with h2|h2
   ·rw[bi] at h2;cases h2
   ·refine D5 hc _ _ (fun x hx=>?_) i (by simpa [cover] using h2)
    obtain⟨o,ho,e,he,hb,rfl⟩:=Gg hx
    rw[hj] at ho;cases ho
    exact hall e he hb
def AS(P:Program)(ops:Array Oper)(Q:Exit→Act→World→Prop)(S:Bool→World→Prop)(bs:List Bool):Nat→Array Bool→Act→World→Prop
 |0,listed,a,w=>Closed ops listed→Region.ready .any ops listed=[]∧Q .normal a w
 |k+1,listed,a,w=>Closed ops listed→(Region.ready .any ops listed=[]→Q .normal a w)∧
  ∀i∈Region.ready .any ops listed,wpOp P ops Q i (fun a' w'=>S (bs.getD i false) w'∧AS P ops Q S bs k (listed.setIfInBounds i true) a' w') a w
def AS.any{S:Bool→World→Prop}{bs:List Bool}:∀(k:Nat) (listed:Array Bool) (a:Act) (w:World),Closed ops listed→AS P ops Q S bs k listed a w→wpAny P .any ops Q k listed a w
 |0,_,_,_,c,h=>h c
 |k+1,_,_,_,c,h=>⟨(h c).1,fun i hi=>wpOp_mono (fun a' w' h'=>AS.any k _ a' w' (c.set hi) h'.2) ((h c).2 i hi)⟩
def AS.mono{S S':Bool→World→Prop}{bs:List Bool}(hs:∀b w,S' b w→S b w):∀(k:Nat) (listed:Array Bool) (a:Act) (w:World),AS P ops Q S' bs k listed a w→AS P ops Q S bs k listed a w
 |0,_,_,_,h=>h
 |k+1,_,_,_,h=>fun c=>⟨(h c).1,fun i hi=>wpOp_mono (fun a' w' h'=>⟨hs _ _ h'.1,AS.mono hs k _ a' w' h'.2⟩) ((h c).2 i hi)⟩
def AS.done{S:Bool→World→Prop}{bs:List Bool}{listed}{a:Act}{w}(hr:Region.ready .any ops listed=[])(h:Q .normal a w):∀k,AS P ops Q S bs k listed a w
 |0=>fun _=>⟨hr,h⟩
 |_+1=>fun _=>⟨fun _=>h,by rw[hr];simp⟩
def AS.first{S:Bool→World→Prop}{bs:List Bool}{i:Nat}{oi:Oper}(hi:ops[i]?=some oi)(hsel:∀(j:Nat) (o:Oper) cs b,ops[j]?=some o→o.op≠.select cs b)
  (hQ:∀c a w,Q (.panic c) (a.put oi.dst v) w→Q (.panic c) a w) (hlast:C9 ops bs=true) (hS:∀w,S false w→S true w):
  ∀(k:Nat) (listed:Array Bool) (a:Act) (w:World),
   (∀j oj,ops[j]?=some oj→j≠i→listed.getD j true=false→(∀e∈oj.after,Region.binds .any e=true→e.on≠i)→oi.apart ops oj=true)→
   i∈Region.ready .any ops listed→YieldsIf P ops (S (bs.getD i false)) oi v a→S (bs.getD i false) w→
   AS P ops Q S bs k (listed.setIfInBounds i true) (a.put oi.dst v) w→AS P ops Q S bs (k+1) listed a w:=by
 intro k
 induction k with
 |zero=>
  intro listed a w _ hr hy hSw H hc
  refine⟨fun h=>(by rw[h] at hr;cases hr),fun j hj=>?_⟩
  by_cases hji:j=i
  ·subst hji;exact hy.wpOp hi hSw ⟨hSw,H⟩
  ·have:=ready_mono hj hji
   rw[(H (hc.set hr)).1] at this
   cases this
 |succ k ih=>
  intro listed a w hfree hr hy hSw H hc
  refine⟨fun h=>(by rw[h] at hr;cases hr),fun j hj=>?_⟩
  by_cases hji:j=i
  ·subst hji;exact hy.wpOp hi hSw ⟨hSw,H⟩
  ·have h1:=(H (hc.set hr)).2 j (ready_mono hj hji)
   obtain⟨hjun,oj,hoj,hall⟩:=mem_ready.1 hj
   have hnot:∀e∈oj.after,Region.binds .any e=true→e.on≠i:=fun e he hb heq=>by
    have h1:=hall e he hb;have h0:=(mem_ready.1 hr).1;rw[heq] at h1;rcases Nat.lt_or_ge i listed.size with h'|h'
    ·simp[h'] at h0 h1;rw[h0] at h1;cases h1
    ·simp[Array.getElem?_eq_none h'] at h1
   have hSj:∀w',S (bs.getD j false) w'→S (bs.getD i false) w':=by
    intro w' hw';cases bi:bs.getD i false with
    |true=>cases bj:bs.getD j false with
     |true=>rw[bj] at hw';exact hw'
     |false=>rw[bj] at hw';exact hS _ hw'
    |false=>cases bj:bs.getD j false with
     |false=>rw[bj] at hw';exact hw'
     |true=>
      have h1:=Gv hlast hc hi hoj bj bi hall
      have h0:=(mem_ready.1 hr).1
      rcases Nat.lt_or_ge i listed.size with h'|h'
      ·simp[h'] at h0 h1;rw[h0] at h1;cases h1
      ·simp[Array.getElem?_eq_none h'] at h1
   have h2:=wpOp_putIf hoj (hfree j oj hoj hji hjun hnot) (fun cs b=>hsel i oi cs b hi) (fun cs b=>hsel j oj cs b hoj) hQ hy h1
   have hfree':∀k ok,ops[k]?=some ok→k≠i→(listed.setIfInBounds j true).getD k true=false→
     (∀e∈ok.after,Region.binds .any e=true→e.on≠i)→oi.apart ops ok=true:=fun k ok hk hki hun hno=>by
    refine hfree k ok hk hki ?_ hno
    by_cases hjk:j=k
    ·subst hjk;exact hjun
    ·rw[getD_set_ne true hjk] at hun;exact hun
   refine wpOp_mono (fun a' w' h3=>⟨h3.2.1,ih (listed.setIfInBounds j true) a' w' hfree' (ready_mono hr (Ne.symm hji)) h3.1 (hSj _ h3.2.1) ?_⟩) h2
   rw[Array.setIfInBounds_comm _ _ hji]
   exact h3.2.2
end
def St(past:Bool)(d:Aa)(Ls F:List Aa)(b:Bool)(w:World):Prop:=Ok (d::F) w∧(b=false→past=false∧Ok (d::(Ls++F)) w)
def St.le{past:Bool}{d' Ls F}{b:Bool}{w}(h:St past d Ls F b w)(hl:Le d' d):St past d' Ls F b w:=
 ⟨h.1.le hl,fun e=>⟨(h.2 e).1,(h.2 e).2.le hl⟩⟩
def C2(l:Array Bool)(i j:Nat):(l.setIfInBounds i true)[j]?=if i=j then(l[j]?).map (fun _=>true) else l[j]?:=by
 rw[Array.getElem?_setIfInBounds];by_cases e:i=j
 ·subst e;rw[if_pos rfl,if_pos rfl];rcases Nat.lt_or_ge i l.size with h|h
  ·rw[if_pos h];simp[h]
  ·rw[if_neg (by omega)];simp[h]
 ·rw[if_neg e,if_neg e]
def Ax:∀(xs:List Nat) (l:Array Bool) (j:Nat),(marked l xs)[j]?=if j∈xs then(l[j]?).map (fun _=>true) else l[j]?
 |[],l,j=>by simp[marked]
 |x::xs,l,j=>by
  have:=Ax xs (l.setIfInBounds x true) j;show(marked (l.setIfInBounds x true) xs)[j]?=_;rw[this,C2];by_cases h1:j∈xs<;>by_cases h2:x=j<;>simp[h1,h2,eq_comm]
def A9(xs:List Nat)(l:Array Bool)(i:Nat):marked (l.setIfInBounds i true) xs=(marked l xs).setIfInBounds i true:=by
 apply Array.ext_getElem?;intro j;rw[C2,Ax,Ax,C2];by_cases h1:j∈xs<;>by_cases h2:i=j<;>simp[h1,h2]
def Bi{xs:List Nat}{i:Nat}(h:i∈xs)(l:Array Bool):marked (l.setIfInBounds i true) xs=marked l xs:=by
 apply Array.ext_getElem?;intro j;rw[Ax,Ax,C2];by_cases h2:i=j
 ·subst h2;rw[if_pos h,if_pos h,if_pos rfl];cases l[i]?<;>simp
 ·rw[if_neg h2]
def AU{l:Array Bool}{i:Nat}:l.getD i true=false↔l[i]?=some false:=by
 rw[Array.getD_eq_getD_getElem?];cases l[i]?<;>simp
def Fy{l:Array Bool}{i:Nat}:l.getD i false=true↔l[i]?=some true:=by
 rw[Array.getD_eq_getD_getElem?];cases l[i]?<;>simp
def BN{ops}{bs:List Bool}{la lb:List Nat}(h:C1 ops bs la lb=true):(∀i∈la,bs.getD i false=false)∧(∀i∈lb,bs.getD i false=false)∧(∀i∈la,i∉lb)∧
  (∀i∈la,∀o,ops[i]?=some o→∀e∈o.after,Region.binds .any e=true→e.on∉lb)∧(∀i∈lb,∀o,ops[i]?=some o→∀e∈o.after,Region.binds .any e=true→e.on∉la):=by
 simp only[C1,Mr,Mx,MS,decide_eq_true_eq] at h
 obtain⟨⟨⟨h1,h2⟩,h3⟩,h4⟩:=h
 have key:∀{la lb:List Nat},(∀i∈la,(ops[i]?.all fun o=>lb.all fun j=> !waits o j)=true)→∀i∈la,∀o,ops[i]?=some o→∀e∈o.after,Region.binds .any e=true→e.on∉lb:=by
  intro la lb h i hi o ho e he hb hm;have h5:=h i hi;rw[ho] at h5;simp only[Option.all_some,Mx,MS] at h5;have h6:=h5 e.on hm;have:waits o e.on=true:=by
   unfold waits;rw[Array.any_eq_true'];exact⟨e,he,by simp[hb]⟩
  rw[this] at h6;cases h6
 exact⟨fun i hi=>(h1 i (by simp[hi])).1,fun i hi=>(h1 i (by simp[hi])).1,fun i hi hm=>by have:=h2 i hi;simp[hm] at this,key h3,key h4⟩
def Off.trans{X:List Nat}{a b c}(h:Off X a b)(k:Off X b c):Off X a c:=fun t ht=>(k t ht).trans (h t ht)
def Off.CQ{X:List Nat}{dst:Option Nat}(h:∀t,dst=some t→t∈X)(v:Value):Off X ρ (Gk.put ρ dst v):=by
 cases dst with
 |none=>exact fun _ _=>rfl
 |some d=>
  intro t ht
  show upd ρ d v t=ρ t
  unfold upd
  cases e:Nat.beq t d with
  |true=>rw[Np e] at ht;exact absurd (h d rfl) ht
  |false=>rfl
def Bm(A B X:List Aa):(A++(B++X)).Perm (B++(A++X)):=by
 rw[←Mq,←Mq];exact(MJ).append_right X
def Vs.front{d1 L L1}(Ls:List Aa)(h:Vs d L d1 L1):Vs d (Ls++L) d1 (Ls++L1):=
 ⟨h.1,fun F W x=>(h.2 (Ls++F) W (x.perm (My d (by rw[Mq];exact Gk.Bm Ls L F)))).perm (My d1 (by rw[Mq];exact Gk.Bm L1 Ls F))⟩
def Vs.behind{d1 L L1}(M:List Aa)(h:Vs d L d1 L1):Vs d (L++M) d1 (L1++M):=
 ⟨h.1,fun F W x=>by rw[Mq];exact h.2 (M++F) W (by rw[←Mq];exact x)⟩
def Vs.two{e1 e2 Ls L1 L2 M1 M2}(h1:Vs d (Ls++L1) e1 (Ls++M1))(h2:Vs d (Ls++L2) e2 (Ls++M2)):Vs d (Ls++(L1++L2)) (Gk.join e2 e1) (Ls++(M1++M2)):=by
 refine⟨h1.1.trans (Le.AF _ _),fun F W x=>?_⟩
 have x1:Ok (d::((Ls++L1)++(L2++F))) W:=by simpa [Mq] using x
 have x2:=h1.2 (L2++F) W x1;have x3:Ok (e1::((Ls++L2)++(M1++F))) W:=x2.perm (My e1 (by
  rw[Mq,Mq];exact(Gk.Bm M1 L2 F).append_left Ls))
 have x4:=(h2.up h1.1).2 (M1++F) W x3;exact x4.perm (My _ (by
  rw[Mq,Mq,Mq];exact(Gk.Bm M2 M1 F).append_left Ls))
section
variable {ops:Array Oper}
def Fg{l}(xs:List Nat)(i:Nat)(hx:i∉xs)(hi:i∈Region.ready .any ops l):i∈Region.ready .any ops (marked l xs):=by
 obtain⟨e1,o,e2,e3⟩:=mem_ready.1 hi;refine mem_ready.2 ⟨?_,o,e2,fun e he hb=>?_⟩
 ·rw[AU] at e1⊢;rw[Ax,if_neg hx];exact e1
 ·have:=e3 e he hb;rw[Fy] at this⊢;rw[Ax,this];split<;>rfl
def B3{l}{xs ys:List Nat}(hd:∀i∈xs,i∉ys)(hw:∀i∈xs,∀o,ops[i]?=some o→∀e∈o.after,Region.binds .any e=true→e.on∉ys){i:Nat}(hx:i∈xs)(hi:i∈Region.ready .any ops (marked l ys)):i∈Region.ready .any ops l:=by
 obtain⟨e1,o,e2,e3⟩:=mem_ready.1 hi;refine mem_ready.2 ⟨?_,o,e2,fun e he hb=>?_⟩
 ·rw[AU] at e1⊢;rw[Ax,if_neg (hd i hx)] at e1;exact e1
 ·have h3:=e3 e he hb;rw[Fy] at h3⊢;rw[Ax,if_neg (hw i hx o e2 e he hb)] at h3;exact h3
def FE(xs:List Nat)(l:Array Bool)(i:Nat)(hi:i∈xs):(marked l xs)[i]?≠some false:=by
 intro h;rw[Ax,if_pos hi] at h;cases e:l[i]?<;>rw[e] at h<;>simp at h
def DM{l tgt}{xa xb:List Nat}(hdis:∀i∈xa,i∉xb)(ea:marked l xb=tgt)(eb:marked l xa=tgt):l=tgt:=by
 apply Array.ext_getElem?;intro j;by_cases hj:j∈xa
 ·rw[←ea,Ax,if_neg (hdis j hj)]
 ·rw[←eb,Ax,if_neg hj]
def Gf{bs:List Bool}{xa xb ha hb:List Nat}{fa fb:Bool}{l l0 l1 tgt}(hap:C1 ops bs xa xb=true)(ht1:tgt=marked l0 xa)(ht2:tgt=marked l1 xb)
  (ina:∀i∈ha,i∈xa) (inb:∀i∈hb,i∈xb) (ra:fa=false→∀i,i∈Region.ready .any ops (marked l xb)↔i∈ha) (rb:fb=false→∀i,i∈Region.ready .any ops (marked l xa)↔i∈hb)
  (ea:fa=true→marked l xb=tgt) (eb:fb=true→marked l xa=tgt) (na:fa=true→ha=[]) (nb:fb=true→hb=[]) (hne:¬(fa=true∧fb=true)) (i:Nat):i∈Region.ready .any ops l↔i∈ha∨i∈hb:=by
 obtain⟨hb1,hb2,hdis,hw1,hw2⟩:=BN hap
 constructor
 ·intro hi
  by_cases hil:i∈xa
  ·have h3:=Fg xb i (hdis i hil) hi
   cases h:fa with
   |true=>
    have h4:=AU.1 (mem_ready.1 h3).1
    rw[ea h,ht1] at h4
    exact absurd h4 (FE xa l0 i hil)
   |false=>exact .inl ((ra h i).1 h3)
  ·have h3:=Fg xa i hil hi
   cases h:fb with
   |true=>
    have h4:=AU.1 (mem_ready.1 h3).1
    rw[eb h] at h4
    have hilb:i∉xb:=fun hm=>by rw[ht2] at h4;exact FE xb l1 i hm h4
    have hne':fa=false:=by cases e:fa with|true=>exact absurd ⟨e,h⟩ hne|false=>rfl
    exact absurd (ina i ((ra hne' i).1 (Fg xb i hilb hi))) hil
   |false=>exact .inr ((rb h i).1 h3)
 ·rintro(hi|hi)
  ·have h:fa=false:=by cases e:fa with|true=>rw[na e] at hi;cases hi|false=>rfl
   exact B3 hdis hw1 (ina i hi) ((ra h i).2 hi)
  ·have h:fb=false:=by cases e:fb with|true=>rw[nb e] at hi;cases hi|false=>rfl
   exact B3 (fun i hi hm=>hdis i hm hi) hw2 (inb i hi) ((rb h i).2 hi)
end
def Dp:∀(s:SI),s.fin=true→s.AN=[]:=by
 intro s;induction s with
 |done=>intro _;rfl
 |op tk j s=>intro h;cases h
 |alt j s t=>intro h;cases h
 |bar s=>intro h;cases h
 |par xa xb a b s iha ihb ihs=>
  intro h
  simp only[SI.fin,Mr] at h
  simp only[SI.AN,h.1.1,h.1.2,Bool.and_self,if_true]
  exact ihs h.2
def Gm{la lb:List Nat}{a b s:SI}(h:(SI.par la lb a b s).front=none):a.front=none∧b.front=none∧(a.fin=true∧b.fin=true→s.front=none):=by
 simp only[SI.front] at h;cases ha:a.front with
 |some i=>rw[ha] at h;cases h
 |none=>
  rw[ha] at h
  cases hb:b.front with
  |some i=>rw[hb] at h;cases h
  |none=>
   rw[hb] at h
   exact⟨rfl,rfl,fun⟨h1,h2⟩=>by simpa [h1,h2] using h⟩
section
variable {ops:Array Oper}{q:Nat→Bool}{bs:List Bool}
def IF{la:List Nat}{tgt l lm}{s:SI}(hc:Az ops q bs la tgt false l lm s=true):s.front=none:=by
 cases s with
 |done=>rfl
 |op tk j s=>
  cases tk with
  |true=>simp[Az] at hc
  |false=>rfl
 |alt j s t=>rfl
 |bar s=>rfl
 |par xa xb a b s=>simp[Az] at hc
def B0:∀(s:SI) {la:List Nat}{tgt l lm}{top:Bool},Az ops q bs la tgt top l lm s=true→∀i∈s.AN,i∈la:=by
 intro s;induction s with
 |done=>intro la tgt l lm top _ i hi;cases hi
 |op tk j s ih=>
  intro la tgt l lm top hc i hi
  simp only[SI.AN,MY] at hi
  subst hi
  cases tk with
  |true=>simp only[Az,Mr] at hc;simpa using hc.1.2
  |false=>simp only[Az,Mr] at hc;simpa using hc.1.2
 |alt j s t ih1 ih2=>
  intro la tgt l lm top hc i hi
  simp only[Az,Mr] at hc
  rcases MO.1 hi with rfl|hi
  ·simpa using hc.1.1.2
  ·exact ih2 hc.2 i hi
 |bar s ih=>intro la tgt l lm top hc;cases hc
 |par xa xb a b s iha ihb ihs=>
  intro la tgt l lm top hc i hi
  simp only[Az,Mr,Mx] at hc
  obtain⟨⟨⟨⟨⟨_,hin⟩,_⟩,hca⟩,hcb⟩,hcs⟩:=hc
  simp only[SI.AN] at hi
  split at hi
  ·exact ihs hcs i hi
  ·rcases Mw.1 hi with hi|hi
   ·simpa using hin i (by simp[iha hca i hi])
   ·simpa using hin i (by simp[ihb hcb i hi])
def BB:∀(s:SI) {la:List Nat}{tgt l lm},Az ops q bs la tgt true l lm s=true→s.fin=true→l=tgt:=by
 intro s;induction s with
 |done=>intro la tgt l lm hc _;simpa [Az] using hc
 |op tk j s=>intro la tgt l lm hc h;cases h
 |alt j s t=>intro la tgt l lm hc h;cases h
 |bar s=>intro la tgt l lm hc h;cases h
 |par xa xb a b s iha ihb ihs=>
  intro la tgt l lm hc h
  simp only[Az,Mr,Mx,beq_iff_eq] at hc
  obtain⟨⟨⟨⟨⟨⟨_,hap⟩,hin⟩,hmm⟩,hca⟩,hcb⟩,hcs⟩:=hc
  simp only[SI.fin,Mr] at h
  exact(DM (BN hap).2.2.1 (iha hca h.1.1) (ihb hcb h.1.2)).trans (ihs hcs h.2)
def BS:∀(s:SI) {la:List Nat}{tgt l lm},Az ops q bs la tgt true l lm s=true→s.front=none→s.fin=false→(∀i,i∈Region.ready .any ops l↔i∈s.AN)∧s.AN≠[]∧1≤s.steps:=by
 intro s;induction s with
 |done=>intro la tgt l lm hc _ h;cases h
 |op tk j s=>
  intro la tgt l lm hc hf _
  cases tk with
  |true=>cases hf
  |false=>
   simp only[Az,Mr,Bool.not_true,Bool.false_or,beq_iff_eq] at hc
   exact⟨fun i=>by rw[hc.1.1];rfl,by simp[SI.AN],by simp only[SI.steps];omega⟩
 |alt j s t=>
  intro la tgt l lm hc _ _
  simp only[Az,Mr,Bool.not_true,Bool.false_or,beq_iff_eq] at hc
  exact⟨fun i=>by rw[hc.1.1.1];rfl,by simp[SI.AN],by simp only[SI.steps];omega⟩
 |bar s=>intro la tgt l lm hc;cases hc
 |par xa xb a b s iha ihb ihs=>
  intro la tgt l lm hc hf h
  simp only[Az,Mr,Mx,beq_iff_eq] at hc
  obtain⟨⟨⟨⟨⟨⟨_,hap⟩,hin⟩,hmm⟩,hca⟩,hcb⟩,hcs⟩:=hc
  obtain⟨fa,fb,fs⟩:=Gm hf
  by_cases h0:a.fin=true∧b.fin=true
  ·have e:=DM (BN hap).2.2.1 (BB a hca h0.1) (BB b hcb h0.2)
   rw[←e] at hcs
   have hs:s.fin=false:=by simpa [SI.fin,h0.1,h0.2] using h
   obtain⟨h1,h2,h3⟩:=ihs hcs (fs h0) hs
   simp only[SI.AN,h0.1,h0.2,Bool.and_self,if_true,SI.steps]
   exact⟨h1,h2,by omega⟩
  ·have hh:(SI.par xa xb a b s).AN=a.AN++b.AN:=by
    simp only[SI.AN];rw[if_neg (by simpa using h0)]
   rw[hh]
   refine⟨fun i=>?_,?_,?_⟩
   ·rw[Mw]
    exact Gf hap rfl hmm (B0 a hca) (B0 b hcb) (fun e=>(iha hca fa e).1) (fun e=>(ihb hcb fb e).1) (BB a hca) (BB b hcb) (Dp a) (Dp b) h0 i
   ·cases ea:a.fin with
    |false=>have:=(iha hca fa ea).2.1;simp[this]
    |true=>cases eb:b.fin with
     |false=>have:=(ihb hcb fb eb).2.1;simp[this]
     |true=>exact absurd ⟨ea,eb⟩ h0
   ·simp only[SI.steps]
    cases ea:a.fin with
    |false=>have:=(iha hca fa ea).2.2;omega
    |true=>cases eb:b.fin with
     |false=>have:=(ihb hcb fb eb).2.2;omega
     |true=>exact absurd ⟨ea,eb⟩ h0
end
def C3{P}{n:Nat}{ops Ls}:∀(s:SI) {Qn:Env→Ah}{g ρ d L},s.fin=true→AH P n ops s=some g→
  gws P AG Qn g Ls ρ d L→∃d1 L1,Vs d (Ls++L) d1 L1∧Qn ρ d1 L1:=by
 intro s
 induction s with
 |done=>
  intro Qn g ρ d L _ hs h
  simp[AH] at hs;subst hs
  exact h
 |op tk j s=>intro Qn g ρ d L h;cases h
 |alt j s t=>intro Qn g ρ d L h;cases h
 |bar s=>intro Qn g ρ d L h;cases h
 |par xa xb a b s iha ihb ihs=>
  intro Qn g ρ d L hh hs h
  simp only[SI.fin,Mr] at hh
  simp only[AH] at hs
  split at hs<;>try cases hs
  rename_i a' b' s' ha hb hs'
  split at hs<;>try cases hs
  obtain⟨Ra,Rb,d1,L1,L2,hv,sa,sb,h1,h2,h3⟩:=h
  obtain⟨e1,N1,v1,M1,rfl,r1⟩:=iha hh.1.1 ha h1
  obtain⟨e2,N2,v2,M2,rfl,r2⟩:=ihb hh.1.2 hb h2
  have v3:=Vs.two v1 v2
  have h4:=h3 ρ (Gk.join e2 e1) M1 M2 v3.1 (fun _ _=>rfl) (sa _ _ _ _ _ (fun _ _=>rfl) (Le.AF _ _) r1) (sb _ _ _ _ _ (fun _ _=>rfl) (Le.Ap _ _) r2)
  obtain⟨d3,L3,v4,q⟩:=ihs hh.2 hs' h4
  exact⟨d3,L3,((hv.front Ls).trans v3).trans v4,q⟩
def Sb(l l':Array Bool):Prop:=∀j,l'.getD j true=false→l.getD j true=false
def Sb.set{l l':Array Bool}(h:Sb l l')(i:Nat):Sb (l.setIfInBounds i true) (l'.setIfInBounds i true):=by
 intro j hj;have h0:=h j;rw[AU] at hj h0⊢;rw[C2] at hj⊢;split at hj
 ·exfalso;cases e:l'[j]?<;>rw[e] at hj<;>simp at hj
 ·rename_i hne;rw[if_neg hne];exact AU.1 (h0 hj)
def Sb.self(l:Array Bool)(i:Nat):Sb l (l.setIfInBounds i true):=by
 intro j hj;rw[AU] at hj⊢;rw[C2] at hj;split at hj
 ·exfalso;cases e:l[j]?<;>rw[e] at hj<;>simp at hj
 ·exact hj
def Sb.trans{a b c}(h:Sb a b)(k:Sb b c):Sb a c:=fun j hj=>h j (k j hj)
def EP{l lm lx:Array Bool}{la xa xb:List Nat}(hin:∀i∈xa++xb,i∈la)(hsb:Sb lm lx)(hcov:∀x∈la,l.getD x true=true→lx.getD x true=true)(el:l=Gk.marked (Gk.marked l xb) xa):Sb (Gk.marked (Gk.marked lm xb) xa) lx:=by
 have done:∀j,j∈xa++xb→l.getD j true=true:=by
  intro j hj;rw[el];cases e:(Gk.marked (Gk.marked l xb) xa).getD j true with
  |true=>rfl
  |false=>
   rw[AU,Ax,Ax] at e
   rcases Mw.1 hj with h|h
   ·rw[if_pos h] at e
    split at e<;>cases e2:l[j]?<;>rw[e2] at e<;>simp at e
   ·rw[if_pos h] at e
    split at e<;>cases e2:l[j]?<;>rw[e2] at e<;>simp at e
 intro j hj;have h0:=hsb j hj;have hn:j∉xa++xb:=fun hm=>by rw[hcov j (hin j hm) (done j hm)] at hj;cases hj
 rw[Mw,not_or] at hn;rw[AU] at h0⊢;rw[Ax,if_neg hn.1,Ax,if_neg hn.2];exact h0
def Sb.marked{l l':Array Bool}(h:Sb l l')(xs:List Nat):Sb (Gk.marked l xs) (Gk.marked l' xs):=by
 intro j hj;have h0:=h j;rw[AU] at hj h0⊢;rw[Ax] at hj⊢;split at hj
 ·exfalso;cases e:l'[j]?<;>rw[e] at hj<;>simp at hj
 ·rename_i hne;rw[if_neg hne];exact AU.1 (h0 hj)
def HJ{ops l l'}(h:Sb l l'){i:Nat}(hf:Region.free .any ops l i=true):Region.free .any ops l' i=true:=by
 unfold Region.free at hf⊢;split at hf
 ·cases hf
 ·simp only[Mx] at hf⊢;intro j hj;have:=hf j hj;cases e:l'.getD j true with
  |true=>simp
  |false=>rw[h j e] at this;simpa using this
def Bb{ops}{q:Nat→Bool}{bs:List Bool}:∀(s:SI) {la:List Nat}{tgt l lm lm'}{top:Bool},Sb lm lm'→Az ops q bs la tgt top l lm s=true→Az ops q bs la tgt top l lm' s=true:=by
 intro s;induction s with
 |done=>intro la tgt l lm lm' top _ h;exact h
 |op tk j s ih=>
  intro la tgt l lm lm' top hs h
  cases tk with
  |true=>
   simp only[Az,Mr] at h⊢
   obtain⟨⟨⟨⟨⟨h1,h2⟩,h3⟩,h4⟩,h5⟩,h6⟩:=h
   exact⟨⟨⟨⟨⟨h1,h2⟩,HJ hs h3⟩,h4⟩,h5⟩,ih (hs.set j) h6⟩
  |false=>
   simp only[Az,Mr] at h⊢
   exact⟨h.1,ih (hs.set j) h.2⟩
 |alt j s t ih1 ih2=>
  intro la tgt l lm lm' top hs h
  simp only[Az,Mr] at h⊢
  exact⟨⟨h.1.1,ih1 (hs.set j) h.1.2⟩,ih2 hs h.2⟩
 |bar s ih=>intro la tgt l lm lm' top _ h;cases h
 |par xa xb a b s iha ihb ihs=>
  intro la tgt l lm lm' top hs h
  simp only[Az,Mr] at h⊢
  obtain⟨⟨⟨⟨⟨⟨h1,h2⟩,h3⟩,h4⟩,h5⟩,h6⟩,h7⟩:=h
  exact⟨⟨⟨⟨⟨⟨h1,h2⟩,h3⟩,h4⟩,iha hs h5⟩,ihb hs h6⟩,ihs ((hs.marked xb).marked xa) h7⟩
def IV{P Ls L M}{K K':Env→Ah}(hq:g.i.quiet=true)(hK:∀v,K (put ρ g.dst v) d L→K' (put ρ g.dst v) d (L++M))(h:gop P AG g ρ d Ls L K):gop P AG g ρ d Ls (L++M) K':=by
 obtain⟨dst,guard,i⟩:=g;have run:gi P AG ρ d Ls L (fun v d' L'=>K (put ρ dst v) d' L') i→gi P AG ρ d Ls (L++M) (fun v d' L'=>K' (put ρ dst v) d' L') i:=fun h=>by
  rw[Bt hq] at h⊢;obtain⟨v,h1,h2⟩:=h;exact⟨v,h1,hK v h2⟩
 cases guard with
 |none=>exact run h
 |some p=>
  obtain⟨t,want⟩:=p
  rcases h with ⟨b,hb,h1,h2⟩|⟨hb,h2⟩
  ·exact .inl ⟨b,hb,fun e=>run (h1 e),fun e=>hK _ (h2 e)⟩
  ·exact .inr ⟨hb,hK _ h2⟩
def Jd{P Ls L M}{K K':Env→Ah}(hq:g.i.quiet=true)(hK:∀v,K (put ρ g.dst v) d L→K' (put ρ g.dst v) d (M++L))(h:gop P AG g ρ d Ls L K):gop P AG g ρ d Ls (M++L) K':=by
 obtain⟨dst,guard,i⟩:=g;have run:gi P AG ρ d Ls L (fun v d' L'=>K (put ρ dst v) d' L') i→gi P AG ρ d Ls (M++L) (fun v d' L'=>K' (put ρ dst v) d' L') i:=fun h=>by
  rw[Bt hq] at h⊢;obtain⟨v,h1,h2⟩:=h;exact⟨v,h1,hK v h2⟩
 cases guard with
 |none=>exact run h
 |some p=>
  obtain⟨t,want⟩:=p
  rcases h with ⟨b,hb,h1,h2⟩|⟨hb,h2⟩
  ·exact .inl ⟨b,hb,fun e=>run (h1 e),fun e=>hK _ (h2 e)⟩
  ·exact .inr ⟨hb,hK _ h2⟩
def IT{P}{n:Nat}{ops}{q:Nat→Bool}{bs:List Bool}{Ls}:∀(s:SI) {la:List Nat}{tgt}{Qn:Env→Ah}(top:Bool) (l lm lx:Array Bool) (g:GS) (ρ:Env) (d:Aa) (L:List Aa),Sb lm lx→(∀x∈la,l.getD x true=true→lx.getD x true=true)→s.front=none→Az ops q bs la tgt top l lm s=true→AH P n ops s=some g→g.plain=true→
  gws P AG Qn g Ls ρ d L→∀i∈s.AN,∃o op gs s',ops[i]?=some o∧CG P n ops o=some op∧AH P n ops s'=some gs∧Az ops q bs la tgt true (l.setIfInBounds i true) (lx.setIfInBounds i true) s'=true∧s'.steps+1≤s.steps∧gs.plain=true∧(∀t∈gs.rds,t∈g.rds)∧(∀t∈gs.Ar,t∈g.Ar)∧
   (∀t,op.dst=some t→t∈g.Ar)∧∃d1 La M,Vs d (Ls++L) d1 (Ls++(La++M))∧gop P AG op ρ d1 (Ls++La) La (fun ρ' d' L'=>∃d2 L2,Vs d' (L'++M) d2 L2∧gws P AG Qn gs Ls ρ' d2 L2):=by
 intro s
 have one:∀{Qn:Env→Ah}{op:GOp}{gs ρ d L},(∃d1 L1,Vs d L d1 L1∧gop P (fun c d' L'=>AG c d' (Ls++L')) op ρ d1 (Ls++L1) L1 (fun ρ' d' L'=>∃d2 L2,Vs d' L' d2 L2∧gws P AG Qn gs Ls ρ' d2 L2))→
   ∃d1 La M,Vs d (Ls++L) d1 (Ls++(La++M))∧gop P AG op ρ d1 (Ls++La) La (fun ρ' d' L'=>∃d2 L2,Vs d' (L'++M) d2 L2∧gws P AG Qn gs Ls ρ' d2 L2):=by
  intro Qn op gs ρ d L ⟨d1,L1,hv,h⟩
  exact⟨d1,L1,[],by rw[M9];exact hv.front Ls,Dk (fun ρ d L h=>by rw[M9];exact h) h⟩
 induction s with
 |done=>intro la tgt Qn top l lm lx g ρ d L _ _ _ _ _ _ _ i hi;cases hi
 |op tk j s ih=>
  intro la tgt Qn top l lm lx g ρ d L hsb hcov hf hc hs hp h i hi
  simp only[SI.AN,MY] at hi
  subst hi
  cases tk with
  |true=>cases hf
  |false=>
  simp only[Az,Mr] at hc
  obtain⟨⟨_,hla⟩,hc'⟩:=hc
  simp only[AH] at hs
  split at hs<;>try cases hs
  rename_i g' s' hg hs'
  rw[MB] at hg
  obtain⟨o,ho,hd⟩:=hg
  simp only[GS.plain] at hp
  exact⟨o,g',s',s,ho,hd,hs',Bb s (hsb.set i) hc',by simp[SI.steps],hp,fun t ht=>by simp[GS.rds,ht],fun t ht=>by simp[GS.Ar,ht],fun t ht=>by simp[GS.Ar,ht],one h⟩
 |alt j s t ih1 ih2=>
  intro la tgt Qn top l lm lx g ρ d L hsb hcov hf hc hs hp h i hi
  simp only[Az,Mr] at hc
  obtain⟨⟨⟨_,hla⟩,hc1⟩,hc2⟩:=hc
  simp only[AH] at hs
  split at hs<;>try cases hs
  rename_i g' s' t' hg hs' ht'
  rw[MB] at hg
  obtain⟨o,ho,hd⟩:=hg
  simp only[GS.plain,Mr] at hp
  rcases MO.1 hi with rfl|hi
  ·exact⟨o,g',s',s,ho,hd,hs',Bb s (hsb.set i) hc1,by simp only[SI.steps];omega,hp.1,fun t ht=>by simp[GS.rds,ht],fun t ht=>by simp[GS.Ar,ht],fun t ht=>by simp[GS.Ar,ht],one h.1⟩
  ·obtain⟨o,op,gs,s'',q1,q2,q3,q4,q5,q6,q7,q8,q9,q10⟩:=ih2 false l lm lx t' ρ d L hsb hcov (IF hc2) hc2 ht' hp.2 h.2 i hi
   exact⟨o,op,gs,s'',q1,q2,q3,q4,by simp only[SI.steps];omega,q6,fun t ht=>by simp[GS.rds,q7 t ht],fun t ht=>by simp[GS.Ar,q8 t ht],fun t ht=>by simp[GS.Ar,q9 t ht],q10⟩
 |bar s ih=>intro la tgt Qn top l lm lx g ρ d L _ _ _ hc;cases hc
 |par xa xb a b s iha ihb ihs=>
  intro la tgt Qn top l lm lx g ρ d L hsb hcov hf hc hs hp h i hi
  have hcc:=hc
  simp only[Az,Mr,Mx,beq_iff_eq] at hc
  obtain⟨⟨⟨⟨⟨⟨htop,hap⟩,hin⟩,hmm⟩,hca⟩,hcb⟩,hcs⟩:=hc
  subst htop
  have hss:=hs
  simp only[AH] at hs
  split at hs<;>try cases hs
  rename_i a' b' s' ha hb hs'
  split at hs<;>try cases hs
  rename_i hsep
  simp only[Mr,Mx,MS] at hsep
  obtain⟨⟨⟨hpa,hpb⟩,hs1⟩,hs2⟩:=hsep
  simp only[GS.plain,Mr] at hp
  have hs1':∀t∈a'.Ar,t∉b'.rds∧t∉b'.Ar:=fun t ht=>⟨fun hm=>by have:=(hs1 t ht).1;simp[hm] at this,fun hm=>by have:=(hs1 t ht).2;simp[hm] at this⟩
  have hs2':∀t∈b'.Ar,t∉a'.rds:=fun t ht hm=>by have:=hs2 t ht;simp[hm] at this
  obtain⟨hb1,hb2,hdis,hw1,hw2⟩:=BN hap
  obtain⟨ffa,ffb,ffs⟩:=Gm hf
  have cov:∀(xs ys:List Nat),(∀x∈xs,x∈xa++xb)→(∀x∈xs,x∉ys)→∀x∈xs,(marked l ys).getD x true=true→lx.getD x true=true:=by
   intro xs ys h1 h2 x hx h3;refine hcov x (by simpa using hin x (h1 x hx)) ?_;cases e:l.getD x true with
   |true=>rfl
   |false=>
    rw[AU] at e
    have:(marked l ys).getD x true=false:=by rw[AU,Ax,if_neg (h2 x hx)];exact e
    rw[this] at h3;cases h3
  have cova:=cov xa xb (fun x hx=>by simp[hx]) hdis
  have covb:=cov xb xa (fun x hx=>by simp[hx]) (fun x hx hm=>hdis x hm hx)
  by_cases h0:a.fin=true∧b.fin=true
  ·simp only[SI.AN,h0.1,h0.2,Bool.and_self,if_true] at hi
   obtain⟨Ra,Rb,d1,L1,L2,hv,sa,sb,h1,h2,h3⟩:=h
   obtain⟨e1,N1,v1,M1,rfl,r1⟩:=C3 a h0.1 ha h1
   obtain⟨e2,N2,v2,M2,rfl,r2⟩:=C3 b h0.2 hb h2
   have v3:=Vs.two v1 v2
   have h4:=h3 ρ (Gk.join e2 e1) M1 M2 v3.1 (fun _ _=>rfl) (sa _ _ _ _ _ (fun _ _=>rfl) (Le.AF _ _) r1) (sb _ _ _ _ _ (fun _ _=>rfl) (Le.Ap _ _) r2)
   have el:=DM hdis (BB a hca h0.1) (BB b hcb h0.2)
   have hcs:=Bb s (EP (fun x hx=>by simpa using hin x hx) hsb hcov el) hcs
   rw[←el] at hcs
   obtain⟨o,op,gs,s'',q1,q2,q3,q4,q5,q6,q7,q8,q9,d4,La,M,q10,q11⟩:=ihs true l lx lx s' ρ _ _ (fun _ h=>h) hcov (ffs h0) hcs hs' hp.2 h4 i hi
   exact⟨o,op,gs,s'',q1,q2,q3,q4,by simp only[SI.steps];omega,q6,fun t ht=>by simp[GS.rds,q7 t ht],fun t ht=>by simp[GS.Ar,q8 t ht],fun t ht=>by simp[GS.Ar,q9 t ht],d4,La,M,((hv.front Ls).trans v3).trans q10,q11⟩
  ·have hh:(SI.par xa xb a b s).AN=a.AN++b.AN:=by
    simp only[SI.AN];rw[if_neg (by simpa using h0)]
   rw[hh] at hi
   obtain⟨Ra,Rb,d1,L1,L2,hv,sa,sb,h1,h2,h3⟩:=h
   rcases Mw.1 hi with hi|hi
   ·have hix:=B0 a hca i hi
    obtain⟨o,op,gs,sn,q1,q2,q3,q4,q5,q6,q7,q8,q9,d4,La,M,q10,q11⟩:=iha true (marked l xb) lm lx a' ρ d1 L1 hsb cova ffa hca ha hp.1.1 h1 i hi
    have e1:marked (marked (l.setIfInBounds i true) xb) xa=marked (marked l xb) xa:=by rw[A9,Bi hix]
    have e2:marked (l.setIfInBounds i true) xa=marked l xa:=Bi hix l
    refine⟨o,op,.par gs b' s',.par xa xb sn b s,q1,q2,?_,?_,by simp only[SI.steps];omega,?_,?_,?_,fun t ht=>by simp[GS.Ar,q9 t ht],d4,La,M++L2,?_,?_⟩
    ·simp only[AH,q3,hb,hs']
     rw[if_pos]
     simp only[Mr,Mx,MS]
     exact⟨⟨⟨q6,hpb⟩,fun t ht=>hs1 t (q8 t ht)⟩,fun t ht=>by have:=hs2' t ht;simpa using fun hm=>this (q7 t hm)⟩
    ·simp only[Az,Mr,Mx,beq_iff_eq,Bool.true_and]
     rw[e1,e2,A9]
     exact⟨⟨⟨⟨⟨hap,hin⟩,hmm⟩,q4⟩,Bb b (hsb.trans (Sb.self lx i)) hcb⟩,Bb s (((hsb.trans (Sb.self lx i)).marked xb).marked xa) hcs⟩
    ·simp only[GS.plain,Mr];exact⟨⟨q6,hpb⟩,hp.2⟩
    ·intro t ht
     simp only[GS.rds,Mw] at ht⊢
     exact ht.imp (q7 t) id
    ·intro t ht
     simp only[GS.Ar,Mw] at ht⊢
     exact ht.imp (q8 t) id
    ·have v1:Vs d (Ls++L) d1 (Ls++(L1++L2)):=hv.front Ls
     have v2:Vs d1 ((Ls++L1)++L2) d4 ((Ls++(La++M))++L2):=q10.behind L2
     have:=v1.trans (by rw[←Mq];exact v2)
     simpa [Mq] using this
    ·refine Dk ?_ (EE q11)
     intro ρ' d' L' ⟨⟨v,hρ⟩,hle,d5,L5,hv5,h5⟩
     have hoff:Off a'.Ar ρ ρ':=by rw[hρ];exact Off.CQ (fun t ht=>q9 t ht) v
     have hle5:Le d1 d5:=q10.1.trans (hle.trans hv5.1)
     refine⟨d5,L5++L2,by rw[←Mq];exact hv5.behind L2,Ra,Rb,d5,L5,L2,Vs.refl _ _,sa,?_,h5,CS (BH sb) b' hpb (fun t ht hm=>(hs1' t hm).1 ht) (fun t ht hm=>(hs1' t hm).2 ht) Ls ρ ρ' d1 d5 L2 hoff hle5 h2,?_⟩
     ·exact fun ρ ρ' d d' L ho hl hr=>sb ρ ρ' d d' L (fun t ht=>ho t fun hm=>ht (q8 t hm)) hl hr
     ·intro ρ2 d6 M1 M2 hl ho r1 r2
      refine h3 ρ2 d6 M1 M2 (hle5.trans hl) (fun t ht=>?_) r1 r2
      rw[Mw,not_or] at ht
      exact(ho t (by rw[Mw,not_or];exact⟨fun hm=>ht.1 (q8 t hm),ht.2⟩)).trans (hoff t ht.1)
   ·have hix:=B0 b hcb i hi
    obtain⟨o,op,gs,sn,q1,q2,q3,q4,q5,q6,q7,q8,q9,d4,La,M,q10,q11⟩:=ihb true (marked l xa) lm lx b' ρ d1 L2 hsb covb ffb hcb hb hp.1.2 h2 i hi
    have e1:marked (marked (l.setIfInBounds i true) xa) xb=marked (marked l xa) xb:=by rw[A9,Bi hix]
    have e2:marked (l.setIfInBounds i true) xb=marked l xb:=Bi hix l
    have e3:marked (marked l xb) xa=marked (marked l xa) xb:=hmm
    refine⟨o,op,.par a' gs s',.par xa xb a sn s,q1,q2,?_,?_,by simp only[SI.steps];omega,?_,?_,?_,fun t ht=>by simp[GS.Ar,q9 t ht],d4,La,M++L1,?_,?_⟩
    ·simp only[AH,q3,ha,hs']
     rw[if_pos]
     simp only[Mr,Mx,MS]
     exact⟨⟨⟨hpa,q6⟩,fun t ht=>⟨by have:=(hs1' t ht).1;simpa using fun hm=>this (q7 t hm),by have:=(hs1' t ht).2;simpa using fun hm=>this (q8 t hm)⟩⟩,fun t ht=>hs2 t (q8 t ht)⟩
    ·simp only[Az,Mr,Mx,beq_iff_eq,Bool.true_and]
     rw[e1,e2,A9]
     exact⟨⟨⟨⟨⟨hap,hin⟩,hmm⟩,Bb a (hsb.trans (Sb.self lx i)) hca⟩,q4⟩,Bb s (((hsb.trans (Sb.self lx i)).marked xb).marked xa) hcs⟩
    ·simp only[GS.plain,Mr];exact⟨⟨hpa,q6⟩,hp.2⟩
    ·intro t ht
     simp only[GS.rds,Mw] at ht⊢
     exact ht.imp id (Or.imp (q7 t) id)
    ·intro t ht
     simp only[GS.Ar,Mw] at ht⊢
     exact ht.imp id (Or.imp (q8 t) id)
    ·have v1:Vs d (Ls++L) d1 (Ls++(L1++L2)):=hv.front Ls
     have v0:Vs d1 (Ls++(L1++L2)) d1 ((Ls++L2)++L1):=Vs.perm (by rw[Mq];exact(MJ).append_left Ls)
     have v2:Vs d1 ((Ls++L2)++L1) d4 ((Ls++(La++M))++L1):=q10.behind L1
     have:=(v1.trans v0).trans v2
     simpa [Mq] using this
    ·refine Dk ?_ (EE q11)
     intro ρ' d' L' ⟨⟨v,hρ⟩,hle,d5,L5,hv5,h5⟩
     have hoff:Off b'.Ar ρ ρ':=by rw[hρ];exact Off.CQ (fun t ht=>q9 t ht) v
     have hle5:Le d1 d5:=q10.1.trans (hle.trans hv5.1)
     refine⟨d5,L1++L5,(by rw[←Mq];exact hv5.behind L1:Vs d' (L'++(M++L1)) d5 (L5++L1)).trans (Vs.perm MJ),Ra,Rb,d5,L1,L5,Vs.refl _ _,?_,sb,CS (BH sa) a' hpa (fun t ht hm=>hs2' t hm ht) (fun t ht hm=>(hs1' t ht).2 hm) Ls ρ ρ' d1 d5 L1 hoff hle5 h1,h5,?_⟩
     ·exact fun ρ ρ' d d' L ho hl hr=>sa ρ ρ' d d' L (fun t ht=>ho t fun hm=>ht (q8 t hm)) hl hr
     ·intro ρ2 d6 M1 M2 hl ho r1 r2
      refine h3 ρ2 d6 M1 M2 (hle5.trans hl) (fun t ht=>?_) r1 r2
      rw[Mw,not_or] at ht
      exact(ho t (by rw[Mw,not_or];exact⟨ht.1,fun hm=>ht.2 (q8 t hm)⟩)).trans (hoff t ht.2)
def EZ{P}{n:Nat}{ops}{q:Nat→Bool}{bs:List Bool}{Ls}(hq:∀i o op,q i=true→ops[i]?=some o→CG P n ops o=some op→op.i.quiet=true):
  ∀(s:SI) {la:List Nat}{tgt}{Qn:Env→Ah}(l lm lx:Array Bool) (g:GS) (ρ:Env) (d:Aa) (L:List Aa) (i:Nat),Sb lm lx→(∀x∈la,l.getD x true=true→lx.getD x true=true)→s.front=some i→Az ops q bs la tgt true l lm s=true→AH P n ops s=some g→g.plain=true→
  gws P AG Qn g Ls ρ d L→q i=true∧Region.free .any ops lx i=true∧i∈Region.ready .any ops l∧i∈la∧∃o op gs s',ops[i]?=some o∧CG P n ops o=some op∧AH P n ops s'=some gs∧Az ops q bs la tgt true (l.setIfInBounds i true) (lx.setIfInBounds i true) s'=true∧s'.steps+1≤s.steps∧gs.plain=true∧(∀t∈gs.rds,t∈g.rds)∧(∀t∈gs.Ar,t∈g.Ar)∧
   (∀t,op.dst=some t→t∈g.Ar)∧∃d1 L1,Vs d (Ls++L) d1 (Ls++L1)∧gop P AG op ρ d1 Ls L1 (fun ρ' d' L'=>gws P AG Qn gs Ls ρ' d' L'):=by
 intro s
 induction s with
 |done=>intro la tgt Qn l lm lx g ρ d L i _ _ h;cases h
 |alt j s t=>intro la tgt Qn l lm lx g ρ d L i _ _ h;cases h
 |bar s=>intro la tgt Qn l lm lx g ρ d L i _ _ h;cases h
 |op tk j s ih=>
  intro la tgt Qn l lm lx g ρ d L i hsb hcov hf hc hs hp h
  cases tk with
  |false=>cases hf
  |true=>
  simp only[SI.front,Option.some.injEq] at hf
  subst hf
  simp only[Az,Mr] at hc
  obtain⟨⟨⟨⟨⟨_,hqi⟩,hfr⟩,hrd⟩,hla⟩,hc'⟩:=hc
  simp only[AH] at hs
  split at hs<;>try cases hs
  rename_i g' s' hg hs'
  rw[MB] at hg
  obtain⟨o,ho,hd⟩:=hg
  simp only[GS.plain] at hp
  exact⟨hqi,HJ hsb hfr,by simpa using hrd,by simpa using hla,o,g',s',s,ho,hd,hs',Bb s (hsb.set j) hc',by simp[SI.steps],hp,fun t ht=>by simp[GS.rds,ht],fun t ht=>by simp[GS.Ar,ht],fun t ht=>by simp[GS.Ar,ht],d,L,Vs.refl _ _,h⟩
 |par xa xb a b s iha ihb ihs=>
  intro la tgt Qn l lm lx g ρ d L i hsb hcov hf hc hs hp h
  simp only[Az,Mr,Mx,beq_iff_eq] at hc
  obtain⟨⟨⟨⟨⟨⟨_,hap⟩,hin⟩,hmm⟩,hca⟩,hcb⟩,hcs⟩:=hc
  simp only[AH] at hs
  split at hs<;>try cases hs
  rename_i a' b' s' ha hb hs'
  split at hs<;>try cases hs
  rename_i hsep
  simp only[Mr,Mx,MS] at hsep
  obtain⟨⟨⟨hpa,hpb⟩,hs1⟩,hs2⟩:=hsep
  simp only[GS.plain,Mr] at hp
  have hs1':∀t∈a'.Ar,t∉b'.rds∧t∉b'.Ar:=fun t ht=>⟨fun hm=>by have:=(hs1 t ht).1;simp[hm] at this,fun hm=>by have:=(hs1 t ht).2;simp[hm] at this⟩
  have hs2':∀t∈b'.Ar,t∉a'.rds:=fun t ht hm=>by have:=hs2 t ht;simp[hm] at this
  obtain⟨hb1,hb2,hdis,hw1,hw2⟩:=BN hap
  have cov:∀(xs ys:List Nat),(∀x∈xs,x∈xa++xb)→(∀x∈xs,x∉ys)→∀x∈xs,(marked l ys).getD x true=true→lx.getD x true=true:=by
   intro xs ys h1 h2 x hx h3;refine hcov x (by simpa using hin x (h1 x hx)) ?_;cases e:l.getD x true with
   |true=>rfl
   |false=>
    rw[AU] at e
    have:(marked l ys).getD x true=false:=by rw[AU,Ax,if_neg (h2 x hx)];exact e
    rw[this] at h3;cases h3
  have cova:=cov xa xb (fun x hx=>by simp[hx]) hdis
  have covb:=cov xb xa (fun x hx=>by simp[hx]) (fun x hx hm=>hdis x hm hx)
  obtain⟨Ra,Rb,d1,L1,L2,hv,sa,sb,h1,h2,h3⟩:=h
  simp only[SI.front] at hf
  cases hfa:a.front with
  |some j=>
   rw[hfa] at hf
   simp only[Option.some.injEq] at hf
   subst hf
   obtain⟨r1,r2,r3,hix,o,op,gs,sn,q1,q2,q3,q4,q5,q6,q7,q8,q9,d4,L4,q10,q11⟩:=iha (marked l xb) lm lx a' ρ d1 L1 j hsb cova hfa hca ha hpa h1
   have e1:marked (marked (l.setIfInBounds j true) xb) xa=marked (marked l xb) xa:=by rw[A9,Bi hix]
   have e2:marked (l.setIfInBounds j true) xa=marked l xa:=Bi hix l
   refine⟨r1,r2,B3 hdis hw1 hix r3,by simpa using hin j (by simp[hix]),o,op,.par gs b' s',.par xa xb sn b s,q1,q2,?_,?_,by simp only[SI.steps];omega,?_,?_,?_,fun t ht=>by simp[GS.Ar,q9 t ht],d4,L4++L2,?_,?_⟩
   ·simp only[AH,q3,hb,hs']
    rw[if_pos]
    simp only[Mr,Mx,MS]
    exact⟨⟨⟨q6,hpb⟩,fun t ht=>hs1 t (q8 t ht)⟩,fun t ht=>by have:=hs2' t ht;simpa using fun hm=>this (q7 t hm)⟩
   ·simp only[Az,Mr,Mx,beq_iff_eq,Bool.true_and]
    rw[e1,e2,A9]
    exact⟨⟨⟨⟨⟨hap,hin⟩,hmm⟩,q4⟩,Bb b (hsb.trans (Sb.self lx j)) hcb⟩,Bb s (((hsb.trans (Sb.self lx j)).marked xb).marked xa) hcs⟩
   ·simp only[GS.plain,Mr];exact⟨⟨q6,hpb⟩,hp.2⟩
   ·intro t ht
    simp only[GS.rds,Mw] at ht⊢
    exact ht.imp (q7 t) id
   ·intro t ht
    simp only[GS.Ar,Mw] at ht⊢
    exact ht.imp (q8 t) id
   ·have v1:Vs d (Ls++L) d1 (Ls++(L1++L2)):=hv.front Ls
    have v2:Vs d1 ((Ls++L1)++L2) d4 ((Ls++L4)++L2):=q10.behind L2
    have:=v1.trans (by rw[←Mq];exact v2)
    simpa [Mq] using this
   ·refine IV (hq j o op r1 q1 q2) (fun v h5=>?_) q11
    have hoff:Off a'.Ar ρ (put ρ op.dst v):=Off.CQ (fun t ht=>q9 t ht) v
    refine⟨Ra,Rb,d4,L4,L2,Vs.refl _ _,sa,?_,h5,CS (BH sb) b' hpb (fun t ht hm=>(hs1' t hm).1 ht) (fun t ht hm=>(hs1' t hm).2 ht) Ls ρ _ d1 d4 L2 hoff q10.1 h2,?_⟩
    ·exact fun ρ ρ' d d' L ho hl hr=>sb ρ ρ' d d' L (fun t ht=>ho t fun hm=>ht (q8 t hm)) hl hr
    ·intro ρ2 d6 M1 M2 hl ho r1 r2
     refine h3 ρ2 d6 M1 M2 (q10.1.trans hl) (fun t ht=>?_) r1 r2
     rw[Mw,not_or] at ht
     exact(ho t (by rw[Mw,not_or];exact⟨fun hm=>ht.1 (q8 t hm),ht.2⟩)).trans (hoff t ht.1)
  |none=>
  rw[hfa] at hf
  cases hfb:b.front with
  |some j=>
   rw[hfb] at hf
   simp only[Option.some.injEq] at hf
   subst hf
   obtain⟨r1,r2,r3,hix,o,op,gs,sn,q1,q2,q3,q4,q5,q6,q7,q8,q9,d4,L4,q10,q11⟩:=ihb (marked l xa) lm lx b' ρ d1 L2 j hsb covb hfb hcb hb hpb h2
   have e1:marked (marked (l.setIfInBounds j true) xa) xb=marked (marked l xa) xb:=by rw[A9,Bi hix]
   have e2:marked (l.setIfInBounds j true) xb=marked l xb:=Bi hix l
   have e3:marked (marked l xb) xa=marked (marked l xa) xb:=hmm
   refine⟨r1,r2,B3 (fun i hi hm=>hdis i hm hi) hw2 hix r3,by simpa using hin j (by simp[hix]),o,op,.par a' gs s',.par xa xb a sn s,q1,q2,?_,?_,by simp only[SI.steps];omega,?_,?_,?_,fun t ht=>by simp[GS.Ar,q9 t ht],d4,L1++L4,?_,?_⟩
   ·simp only[AH,q3,ha,hs']
    rw[if_pos]
    simp only[Mr,Mx,MS]
    exact⟨⟨⟨hpa,q6⟩,fun t ht=>⟨by have:=(hs1' t ht).1;simpa using fun hm=>this (q7 t hm),by have:=(hs1' t ht).2;simpa using fun hm=>this (q8 t hm)⟩⟩,fun t ht=>hs2 t (q8 t ht)⟩
   ·simp only[Az,Mr,Mx,beq_iff_eq,Bool.true_and]
    rw[e1,e2,A9]
    exact⟨⟨⟨⟨⟨hap,hin⟩,hmm⟩,Bb a (hsb.trans (Sb.self lx j)) hca⟩,q4⟩,Bb s (((hsb.trans (Sb.self lx j)).marked xb).marked xa) hcs⟩
   ·simp only[GS.plain,Mr];exact⟨⟨hpa,q6⟩,hp.2⟩
   ·intro t ht
    simp only[GS.rds,Mw] at ht⊢
    exact ht.imp id (Or.imp (q7 t) id)
   ·intro t ht
    simp only[GS.Ar,Mw] at ht⊢
    exact ht.imp id (Or.imp (q8 t) id)
   ·have v1:Vs d (Ls++L) d1 (Ls++(L1++L2)):=hv.front Ls
    have v0:Vs d1 (Ls++(L1++L2)) d1 ((Ls++L2)++L1):=Vs.perm (by rw[Mq];exact(MJ).append_left Ls)
    have v2:Vs d1 ((Ls++L2)++L1) d4 ((Ls++L4)++L1):=q10.behind L1
    have v3:Vs d4 ((Ls++L4)++L1) d4 (Ls++(L1++L4)):=Vs.perm (by rw[Mq];exact(MJ).append_left Ls)
    exact((v1.trans v0).trans v2).trans v3
   ·refine Jd (hq j o op r1 q1 q2) (fun v h5=>?_) q11
    have hoff:Off b'.Ar ρ (put ρ op.dst v):=Off.CQ (fun t ht=>q9 t ht) v
    refine⟨Ra,Rb,d4,L1,L4,Vs.refl _ _,?_,sb,CS (BH sa) a' hpa (fun t ht hm=>hs2' t hm ht) (fun t ht hm=>(hs1' t ht).2 hm) Ls ρ _ d1 d4 L1 hoff q10.1 h1,h5,?_⟩
    ·exact fun ρ ρ' d d' L ho hl hr=>sa ρ ρ' d d' L (fun t ht=>ho t fun hm=>ht (q8 t hm)) hl hr
    ·intro ρ2 d6 M1 M2 hl ho r1 r2
     refine h3 ρ2 d6 M1 M2 (q10.1.trans hl) (fun t ht=>?_) r1 r2
     rw[Mw,not_or] at ht
     exact(ho t (by rw[Mw,not_or];exact⟨ht.1,fun hm=>ht.2 (q8 t hm)⟩)).trans (hoff t ht.2)
  |none=>
  rw[hfb] at hf
  simp only at hf
  split at hf
  ·rename_i h0
   simp only[Mr] at h0
   obtain⟨e1,N1,v1,M1,rfl,r1⟩:=C3 a h0.1 ha h1
   obtain⟨e2,N2,v2,M2,rfl,r2⟩:=C3 b h0.2 hb h2
   have v3:=Vs.two v1 v2
   have h4:=h3 ρ (Gk.join e2 e1) M1 M2 v3.1 (fun _ _=>rfl) (sa _ _ _ _ _ (fun _ _=>rfl) (Le.AF _ _) r1) (sb _ _ _ _ _ (fun _ _=>rfl) (Le.Ap _ _) r2)
   have el:=DM hdis (BB a hca h0.1) (BB b hcb h0.2)
   have hcs:=Bb s (EP (fun x hx=>by simpa using hin x hx) hsb hcov el) hcs
   rw[←el] at hcs
   obtain⟨r1,r2,r3,hix,o,op,gs,s'',q1,q2,q3,q4,q5,q6,q7,q8,q9,d4,L4,q10,q11⟩:=ihs l lx lx s' ρ _ _ i (fun _ h=>h) hcov hf hcs hs' hp.2 h4
   exact⟨r1,r2,r3,hix,o,op,gs,s'',q1,q2,q3,q4,by simp only[SI.steps];omega,q6,fun t ht=>by simp[GS.rds,q7 t ht],fun t ht=>by simp[GS.Ar,q8 t ht],fun t ht=>by simp[GS.Ar,q9 t ht],d4,L4,((hv.front Ls).trans v3).trans q10,q11⟩
  ·cases hf
def Jq{ops}{q:Nat→Bool}{bs:List Bool}:∀(s:SI) {la:List Nat}{tgt l lm},Az ops q bs la tgt true l lm s=true→s.steps=0→s.fin=true:=by
 intro s;induction s with
 |done=>intro la tgt l lm _ _;rfl
 |op tk i s ih=>intro la tgt l lm _ h;simp only[SI.steps] at h;omega
 |alt i s t ih1 ih2=>intro la tgt l lm _ h;simp only[SI.steps] at h;omega
 |bar s ih=>intro la tgt l lm h;cases h
 |par xa xb a b s iha ihb ihs=>
  intro la tgt l lm hc h
  simp only[Az,Mr] at hc
  simp only[SI.steps] at h
  simp only[SI.fin,Mr]
  exact⟨⟨iha hc.1.1.2 (by omega),ihb hc.1.2 (by omega)⟩,ihs hc.2 (by omega)⟩
def Ja{P}{n:Nat}{ds ops}{Q:AP}{F W0}{q:Nat→Bool}{bs:List Bool}{la lb:List Nat}{tgt l0 l1}{Ra Rb:Env→Ah}{Ls ρ0 dd}{DA DB:List Nat}{m:Nat}
  (hsel:Region.noSelect ops=true) (hlast:C9 ops bs=true) (hq:∀i o op,q i=true→ops[i]?=some o→CG P n ops o=some op→op.i.quiet=true) (hap:C1 ops bs la lb=true) (ht1:tgt=marked l0 la) (ht2:tgt=marked l1 lb) (sa:E6 DB Ra) (sb:E6 DA Rb)
  (Hs:∀(k:Nat) ρ' d' M1 M2 W',m≤k→Ra ρ' d' M1→Rb ρ' d' M2→Off (DA++DB) ρ0 ρ'→Le dd d'→Ok (d'::((M1++M2)++(Ls++F))) W'→Le d0 d'→Ak W0 W'→AS P ops (lift n ds F W0 d0 Q) (St false d' Ls F) bs k tgt (act n ρ' ds) W'):
  ∀(N:Nat) (a b:SI) (ga gb:GS) (l:Array Bool) (ρ:Env) (d:Aa) (L1 L2:List Aa) (k:Nat) (W:World),a.steps+b.steps≤N→Az ops q bs la tgt true (marked l lb) l a=true→Az ops q bs lb tgt true (marked l la) l b=true→
   AH P n ops a=some ga→AH P n ops b=some gb→ga.plain=true→gb.plain=true→(∀t∈ga.Ar,t∈DA)→(∀t∈gb.Ar,t∈DB)→(∀t∈ga.rds,t∉DB)→(∀t∈gb.rds,t∉DA)→(∀t∈DA,t∉DB)→
   gws P AG (Cb Ls Ra) ga Ls ρ d L1→gws P AG (Cb Ls Rb) gb Ls ρ d L2→Ok (d::((L1++L2)++(Ls++F))) W→Le d0 d→Le dd d→Ak W0 W→Off (DA++DB) ρ0 ρ→a.steps+b.steps+m≤k→
   AS P ops (lift n ds F W0 d0 Q) (St false d Ls F) bs k l (act n ρ ds) W:=by
 obtain⟨hb1,hb2,hdis,hw1,hw2⟩:=BN hap
 have okS:∀{d L Ls F W}{b:Bool},Ok (d::(L++(Ls++F))) W→St false d Ls F b W:=by
  intro d L Ls F W b x;have x1:Ok (d::(Ls++F)) W:=x.sub (M3 d (Ng L _));exact⟨x1.sub (M3 d (Ng Ls F)),fun hb=>⟨rfl,x1⟩⟩
 have fin:∀(a b:SI) (ga gb:GS) (l:Array Bool) (ρ:Env) (d:Aa) (L1 L2:List Aa) (k:Nat) (W:World),a.fin=true→b.fin=true→Az ops q bs la tgt true (marked l lb) l a=true→Az ops q bs lb tgt true (marked l la) l b=true→
   AH P n ops a=some ga→AH P n ops b=some gb→gws P AG (Cb Ls Ra) ga Ls ρ d L1→gws P AG (Cb Ls Rb) gb Ls ρ d L2→Ok (d::((L1++L2)++(Ls++F))) W→Le d0 d→Le dd d→Ak W0 W→Off (DA++DB) ρ0 ρ→m≤k→
   AS P ops (lift n ds F W0 d0 Q) (St false d Ls F) bs k l (act n ρ ds) W:=by
  intro a b ga gb l ρ d L1 L2 k W ha hb hca hcb hga hgb h1 h2 hOk hle hld hk ho hm
  obtain⟨d1,N1,hv1,M1,rfl,hr1⟩:=C3 a ha hga h1
  obtain⟨d2,N2,hv2,M2,rfl,hr2⟩:=C3 b hb hgb h2
  rw[DM hdis (BB a hca ha) (BB b hcb hb)]
  have x1:Ok (d::((Ls++(L1++L2))++F)) W:=hOk.perm (My d (by
   rw[Mq Ls];exact Bm (L1++L2) Ls F))
  have v3:=Vs.two hv1 hv2
  have x5:Ok (join d2 d1::((M1++M2)++(Ls++F))) W:=(v3.2 F W x1).perm (My _ (by
   rw[Mq Ls];exact Bm Ls (M1++M2) F))
  exact AS.mono (fun b w hw=>hw.le v3.1) _ _ _ _ (Hs k ρ _ M1 M2 W hm (sa _ _ _ _ _ (fun _ _=>rfl) (Le.AF d2 d1) hr1) (sb _ _ _ _ _ (fun _ _=>rfl) (Le.Ap d2 d1) hr2) ho (hld.trans v3.1) x5 (hle.trans v3.1) hk)
 have cov:∀(xs ys:List Nat) (l:Array Bool),(∀x∈xs,x∉ys)→∀x∈xs,(marked l ys).getD x true=true→l.getD x true=true:=by
  intro xs ys l h2 x hx h3;cases e:l.getD x true with
  |true=>rfl
  |false=>
   rw[AU] at e
   have:(marked l ys).getD x true=false:=by rw[AU,Ax,if_neg (h2 x hx)];exact e
   rw[this] at h3;cases h3
 have hdis':∀i∈lb,i∉la:=fun i hi hm=>hdis i hm hi
 have look:∀{d w}{b:Bool},b=false→St false d Ls F b w→∀a v,HC d Ls a v→w.cell? a=some v:=by
  intro d w b hb hw a v hc;subst hb;exact hc.cell hw.1.head (fun q hq=>(hw.2 rfl).2.2 q (by simp[hq]))
 have taken:∀{i:Nat}{o:Oper}{op:GOp}{ρ d M l W}{k:Nat}{K:Env→Ah},q i=true→bs.getD i false=false→ops[i]?=some o→CG P n ops o=some op→Region.free .any ops l i=true→i∈Region.ready .any ops l→St false d Ls F false W→
   gop P AG op ρ d Ls M K→(∀v,K (put ρ op.dst v) d M→AS P ops (lift n ds F W0 d0 Q) (St false d Ls F) bs k (l.setIfInBounds i true) (act n (put ρ op.dst v) ds) W)→
   AS P ops (lift n ds F W0 d0 Q) (St false d Ls F) bs (k+1) l (act n ρ ds) W:=by
  intro i o op ρ d M l W k K hqi hbi ho hd hf hr hS hop hK
  have hquiet:=hq i o op hqi ho hd
  obtain⟨hopn,hdst,_,hdi,hgd,hgu⟩:=Co hd
  have goOn:∀v,YieldsIf P ops (St false d Ls F (bs.getD i false)) o v (act n ρ ds)→K (put ρ op.dst v) d M→AS P ops (lift n ds F W0 d0 Q) (St false d Ls F) bs (k+1) l (act n ρ ds) W:=by
   intro v hy hw;refine AS.first ho (Region.noSelect_spec hsel) (fun c a w hh=>?_) hlast (fun w hw=>⟨hw.1,fun e=>by cases e⟩) k l _ W (Region.free_spec ho hf) hr hy (by rw[hbi];exact hS) ?_
   ·obtain⟨h1,h2⟩:=hh;refine⟨?_,h2⟩
    cases hdd:o.dst with
    |none=>rw[hdd] at h1;exact h1
    |some t=>rw[hdd] at h1;exact h1
   ·rw[Ch hdst,←hgd];exact hK v hw
  rcases hgu with ⟨hgn,hg'⟩|⟨j,want,t,hgn,ht2,htn,hg'⟩
  ·simp only[gop,hg'] at hop
   rw[Bt hquiet] at hop
   obtain⟨v,hv,hK'⟩:=hop
   refine goOn v (.inl ⟨by simp[Region.wanted,hgn],fun w hw=>?_⟩) hK'
   exact Cj hdi hquiet hv (fun x hx=>Am (hopn x hx)) (look hbi hw)
  ·simp only[gop,hg'] at hop
   rcases hop with ⟨b,hb,h1,h2⟩|⟨hb,h2⟩
   case inr=>exact goOn undef (.inr ⟨Di hgn ht2 htn hb,rfl⟩) h2
   by_cases e:b=want
   ·have h1:=h1 e
    rw[Bt hquiet] at h1
    obtain⟨v,hv,hK'⟩:=h1
    refine goOn v (.inl ⟨by rw[Cl hgn ht2 htn hb];simp[e],fun w hw=>?_⟩) hK'
    exact Cj hdi hquiet hv (fun x hx=>Am (hopn x hx)) (look hbi hw)
   ·exact goOn undef (.inr ⟨by rw[Cl hgn ht2 htn hb];simpa using e,rfl⟩) (h2 (by cases b<;>cases want<;>simp_all))
 intro N
 induction N with
 |zero=>
  intro a b ga gb l ρ d L1 L2 k W hN hca hcb hga hgb hpa hpb hda hdb hra hrb hdd h1 h2 hOk hle hld hk ho hkk
  have ha:a.fin=true:=Jq a hca (by omega)
  have hb:b.fin=true:=Jq b hcb (by omega)
  exact fin a b ga gb l ρ d L1 L2 k W ha hb hca hcb hga hgb h1 h2 hOk hle hld hk ho (by omega)
 |succ N ih=>
  intro a b ga gb l ρ d L1 L2 k W hN hca hcb hga hgb hpa hpb hda hdb hra hrb hdd h1 h2 hOk hle hld hk ho hkk
  by_cases hab:a.fin=true∧b.fin=true
  ·exact fin a b ga gb l ρ d L1 L2 k W hab.1 hab.2 hca hcb hga hgb h1 h2 hOk hle hld hk ho (by omega)
  have okA0:Ok (d::((Ls++L1)++(L2++F))) W:=hOk.perm (My d (by
   rw[Mq,Mq];exact((Bm L2 Ls F).append_left L1).trans (Bm L1 Ls _)))
  cases hfa:a.front with
  |some i=>
   obtain⟨r1,r2,r3,hil,o,op,gs,s',ho',hdec,hgs,hck,hst,hpl,hrd,hds,hdst,d1,L1',hv,hop⟩:=EZ hq a (marked l lb) l l ga ρ d L1 i (fun _ h=>h) (cov la lb l hdis) hfa hca hga hpa h1
   obtain⟨k,rfl⟩:∃k',k=k'+1:=⟨k - 1,by omega⟩
   have x1:=hv.2 (L2++F) W okA0
   have x2:Ok (d1::((L1'++L2)++(Ls++F))) W:=x1.perm (My d1 (by
    rw[Mq,Mq];exact(Bm Ls L1' _).trans ((Bm Ls L2 F).append_left L1')))
   refine AS.mono (fun b w hw=>hw.le hv.1) _ _ _ _ (taken (d:=d1) r1 (hb1 i hil) ho' hdec r2 (B3 hdis hw1 hil r3) (okS x2) hop fun v h4=>?_)
   have hoff:Off DA ρ (put ρ op.dst v):=Off.CQ (fun t ht=>hda t (hdst t ht)) v
   exact ih s' b gs gb (l.setIfInBounds i true) _ d1 L1' L2 k W (by omega) (by rw[A9];exact hck) (by rw[Bi hil];exact Bb b (Sb.self l i) hcb) hgs hgb hpl hpb (fun t ht=>hda t (hds t ht)) hdb
     (fun t ht=>hra t (hrd t ht)) hrb hdd h4 (CS (BH sb) gb hpb hrb (fun t ht hm=>hdd t hm (hdb t ht)) Ls ρ _ d d1 L2 hoff hv.1 h2) x2 (hle.trans hv.1) (hld.trans hv.1) hk (ho.trans fun t ht=>hoff t fun hm=>ht (by simp[hm])) (by omega)
  |none=>
  cases hfb:b.front with
  |some i=>
   obtain⟨r1,r2,r3,hil,o,op,gs,s',ho',hdec,hgs,hck,hst,hpl,hrd,hds,hdst,d1,L2',hv,hop⟩:=EZ hq b (marked l la) l l gb ρ d L2 i (fun _ h=>h) (cov lb la l hdis') hfb hcb hgb hpb h2
   obtain⟨k,rfl⟩:∃k',k=k'+1:=⟨k - 1,by omega⟩
   have okB0:Ok (d::((Ls++L2)++(L1++F))) W:=okA0.perm (My d (by
    rw[Mq,Mq];exact(Bm L1 L2 F).append_left Ls))
   have x1:=hv.2 (L1++F) W okB0
   have x2:Ok (d1::((L1++L2')++(Ls++F))) W:=x1.perm (My d1 (by
    rw[Mq,Mq];exact((Bm L2' L1 F).append_left Ls).trans ((Bm Ls L1 _).trans ((Bm Ls L2' F).append_left L1))))
   refine AS.mono (fun b w hw=>hw.le hv.1) _ _ _ _ (taken (d:=d1) r1 (hb2 i hil) ho' hdec r2 (B3 hdis' hw2 hil r3) (okS x2) hop fun v h4=>?_)
   have hoff:Off DB ρ (put ρ op.dst v):=Off.CQ (fun t ht=>hdb t (hdst t ht)) v
   exact ih a s' ga gs (l.setIfInBounds i true) _ d1 L1 L2' k W (by omega) (by rw[Bi hil];exact Bb a (Sb.self l i) hca) (by rw[A9];exact hck) hga hgs hpa hpl hda (fun t ht=>hdb t (hds t ht))
     hra (fun t ht=>hrb t (hrd t ht)) hdd (CS (BH sa) ga hpa hra (fun t ht hm=>hdd t (hda t ht) hm) Ls ρ _ d d1 L1 hoff hv.1 h1) h4 x2 (hle.trans hv.1) (hld.trans hv.1) hk (ho.trans fun t ht=>hoff t fun hm=>ht (by simp[hm])) (by omega)
  |none=>
  have hsteps:1≤a.steps+b.steps:=by
   cases ea:a.fin with
   |false=>have:=(BS a hca hfa ea).2.2;omega
   |true=>cases eb:b.fin with
    |false=>have:=(BS b hcb hfb eb).2.2;omega
    |true=>exact absurd ⟨ea,eb⟩ hab
  obtain⟨k,rfl⟩:∃k',k=k'+1:=⟨k - 1,by omega⟩
  have okA:Ok (d::((Ls++L1)++(L2++F))) W:=hOk.perm (My d (by
   rw[Mq,Mq];exact((Bm L2 Ls F).append_left L1).trans (Bm L1 Ls _)))
  have okB:Ok (d::((Ls++L2)++(L1++F))) W:=okA.perm (My d (by
   rw[Mq,Mq];exact(Bm L1 L2 F).append_left Ls))
  have outA:∀{e X M Y W'},Ok (e::((Ls++(X++M))++(Y++F))) W'→Ok (e::(X++(M++(Y++(Ls++F))))) W':=by
   intro e X M Y W' x;refine x.perm (My e ?_);rw[Mq,Mq];exact(Bm Ls X _).trans (((Bm Ls M _).trans ((Bm Ls Y F).append_left M)).append_left X)
  have stepA:∀i∈a.AN,wpOp P ops (lift n ds F W0 d0 Q) i (fun a' w'=>St false d Ls F (bs.getD i false) w'∧AS P ops (lift n ds F W0 d0 Q) (St false d Ls F) bs k (l.setIfInBounds i true) a' w') (act n ρ ds) W:=by
   intro i hi;have hil:=B0 a hca i hi;obtain⟨o,op,gs,s',ho',hdec,hgs,hck,hst,hpl,hrd,hds,hdst,d1,La,M,hv,hop⟩:=IT a true (marked l lb) l l ga ρ d L1 (fun _ h=>h) (cov la lb l hdis) hfa hca hga hpa h1 i hi;have hOk1:=outA (hv.2 (L2++F) W okA);refine CL (F:=M++(L2++(Ls++F))) ho' hdec hOk1 (fun q hq=>hOk1.2 q (by simp at hq;rcases hq with hq|hq<;>simp[hq])) (fun B hB=>⟨M++(L2++F),by rw[←M6 hB];exact((Na _ _ _).append_left _).trans (Na _ _ _)⟩) (EE hop) ?_ ?_
   ·intro ρ' d' L' W' g1 g2 g3 ⟨⟨v,hρ⟩,_,d2,L2',hv2,h4⟩;have h5:=hv2.2 (L2++(Ls++F)) W' (by rw[Mq];exact g1);have hle2:Le d d2:=hv.1.trans (g2.trans hv2.1);have hoff:Off DA ρ ρ':=by rw[hρ];exact Off.CQ (fun t ht=>hda t (hdst t ht)) v
    have g1':Ok (d'::((L'++(M++L2))++(Ls++F))) W':=by simpa [Mq] using g1
    have h5':Ok (d2::((L2'++L2)++(Ls++F))) W':=by rw[Mq];exact h5
    refine⟨(okS g1').le (hv.1.trans g2),AS.mono (fun b w hw=>hw.le hle2) _ _ _ _ (ih s' b gs gb (l.setIfInBounds i true) ρ' d2 L2' L2 k W' (by omega) (by rw[A9];exact hck) (by rw[Bi hil];exact Bb b (Sb.self l i) hcb) hgs hgb hpl hpb (fun t ht=>hda t (hds t ht)) hdb
     (fun t ht=>hra t (hrd t ht)) hrb hdd h4 (CS (BH sb) gb hpb hrb (fun t ht hm=>hdd t hm (hdb t ht)) Ls ρ ρ' d d2 L2 hoff hle2 h2) h5' (hle.trans hle2) (hld.trans hle2) (hk.trans g3) (ho.trans fun t ht=>hoff t fun hm=>ht (by simp[hm])) (by omega))⟩
   ·intro c d' L' W' _ _ _ h;exact h.elim
  have stepB:∀i∈b.AN,wpOp P ops (lift n ds F W0 d0 Q) i (fun a' w'=>St false d Ls F (bs.getD i false) w'∧AS P ops (lift n ds F W0 d0 Q) (St false d Ls F) bs k (l.setIfInBounds i true) a' w') (act n ρ ds) W:=by
   intro i hi;have hil:=B0 b hcb i hi;obtain⟨o,op,gs,s',ho',hdec,hgs,hck,hst,hpl,hrd,hds,hdst,d1,La,M,hv,hop⟩:=IT b true (marked l la) l l gb ρ d L2 (fun _ h=>h) (cov lb la l hdis') hfb hcb hgb hpb h2 i hi;have hOk1:=outA (hv.2 (L1++F) W okB);refine CL (F:=M++(L1++(Ls++F))) ho' hdec hOk1 (fun q hq=>hOk1.2 q (by simp at hq;rcases hq with hq|hq<;>simp[hq])) (fun B hB=>⟨M++(L1++F),by rw[←M6 hB];exact((Na _ _ _).append_left _).trans (Na _ _ _)⟩) (EE hop) ?_ ?_
   ·intro ρ' d' L' W' g1 g2 g3 ⟨⟨v,hρ⟩,_,d2,L2',hv2,h4⟩;have h5:=hv2.2 (L1++(Ls++F)) W' (by rw[Mq];exact g1);have hle2:Le d d2:=hv.1.trans (g2.trans hv2.1);have hoff:Off DB ρ ρ':=by rw[hρ];exact Off.CQ (fun t ht=>hdb t (hdst t ht)) v
    have g1':Ok (d'::((L'++(M++L1))++(Ls++F))) W':=by simpa [Mq] using g1
    have h5':Ok (d2::((L1++L2')++(Ls++F))) W':=by rw[Mq];exact h5.perm (My d2 (Bm L2' L1 _))
    refine⟨(okS g1').le (hv.1.trans g2),AS.mono (fun b w hw=>hw.le hle2) _ _ _ _ (ih a s' ga gs (l.setIfInBounds i true) ρ' d2 L1 L2' k W' (by omega) (by rw[Bi hil];exact Bb a (Sb.self l i) hca) (by rw[A9];exact hck) hga hgs hpa hpl hda (fun t ht=>hdb t (hds t ht))
     hra (fun t ht=>hrb t (hrd t ht)) hdd (CS (BH sa) ga hpa hra (fun t ht hm=>hdd t (hda t ht) hm) Ls ρ ρ' d d2 L1 hoff hle2 h1) h4 h5' (hle.trans hle2) (hld.trans hle2) (hk.trans g3) (ho.trans fun t ht=>hoff t fun hm=>ht (by simp[hm])) (by omega))⟩
   ·intro c d' L' W' _ _ _ h;exact h.elim
  have hr:=Gf (l:=l) hap ht1 ht2 (B0 a hca) (B0 b hcb) (fun e=>(BS a hca hfa e).1) (fun e=>(BS b hcb hfb e).1) (BB a hca) (BB b hcb) (Dp a) (Dp b) hab
  refine fun _=>⟨fun h0=>?_,fun i hi=>?_⟩
  ·exfalso
   have none:∀i,¬(i∈a.AN∨i∈b.AN):=fun i h=>by have:=(hr i).2 h;rw[h0] at this;cases this
   cases ea:a.fin with
   |false=>exact(BS a hca hfa ea).2.1 (List.eq_nil_iff_forall_not_mem.2 fun i h=>none i (.inl h))
   |true=>cases eb:b.fin with
    |false=>exact(BS b hcb hfb eb).2.1 (List.eq_nil_iff_forall_not_mem.2 fun i h=>none i (.inr h))
    |true=>exact hab ⟨ea,eb⟩
  ·rcases (hr i).1 hi with h|h
   ·exact stepA i h
   ·exact stepB i h
def IM{P}{n:Nat}{ds ops}{Q:AP}{F W0}{bs:List Bool}(hsel:Region.noSelect ops=true)(hlast:C9 ops bs=true):
  ∀(si:SI) (top past:Bool) (listed:Array Bool) (s:GS) (ρ:Env) (d:Aa) (L Ls:List Aa) (k:Nat) (W:World),chk ops (quietAt P ops) bs top past listed si=true→AH P n ops si=some s→(past=true→Ls=[])→
   gws P Q.pan Q.n s Ls ρ d L→Ok (d::(L++(Ls++F))) W→Le d0 d→Ak W0 W→si.steps≤k→
   (top=true→AS P ops (lift n ds F W0 d0 Q) (St past d Ls F) bs k listed (act n ρ ds) W)∧
   (top=false→∀i∈si.AN,wpOp P ops (lift n ds F W0 d0 Q) i (fun a' w'=>St past d Ls F (bs.getD i false) w'∧AS P ops (lift n ds F W0 d0 Q) (St past d Ls F) bs (k - 1) (listed.setIfInBounds i true) a' w') (act n ρ ds) W):=by
 have okS:∀{past:Bool}{d L Ls F W}{b:Bool},Ok (d::(L++(Ls++F))) W→past=b→St past d Ls F b W:=by
  intro past d L Ls F W b x e;have x1:Ok (d::(Ls++F)) W:=x.sub (M3 d (Ng L _));exact⟨x1.sub (M3 d (Ng Ls F)),fun hb=>⟨e.trans hb,x1⟩⟩
 have front:∀{d L Ls F W},Ok (d::(L++(Ls++F))) W→Ok (d::((Ls++L)++F)) W:=by
  intro d L Ls F W x;exact x.perm (My d (by rw[←Mq];exact(MJ).append_right F))
 intro si
 induction si with
 |done=>
  intro top past listed s ρ d L Ls k W hc hs hp h hOk hle hk hst
  simp only[chk,Mr,beq_iff_eq] at hc
  simp[AH] at hs;subst hs
  obtain⟨d1,L1,hv,hq⟩:=h
  exact⟨fun _=>AS.done hc.2 ⟨ρ,d1,L1,rfl,hv.2 F W (front hOk),hle.trans hv.1,hk,hq⟩ k,fun ht=>by rw[ht] at hc;simp at hc⟩
 |op tk i si ih=>
  intro top past listed s ρ d L Ls k W hc hs hp h hOk hle hk hst
  simp only[AH] at hs
  split at hs<;>try cases hs
  rename_i g s' hg hs'
  rw[MB] at hg
  obtain⟨o,ho,hd⟩:=hg
  obtain⟨hop,hdst,_,hdi,hgd,hgu⟩:=Co hd
  simp only[SI.steps] at hst
  obtain⟨k,rfl⟩:∃k',k=k'+1:=⟨k - 1,by omega⟩
  cases tk with
  |true=>
   simp only[chk,Mr,beq_iff_eq] at hc
   obtain⟨⟨⟨⟨⟨ht,hqi⟩,hpb⟩,hf⟩,hr⟩,hc'⟩:=hc
   have hquiet:g.i.quiet=true:=by
    simp only[quietAt,ho,Nb,hdi,Option.any_some] at hqi;exact hqi
   refine⟨fun _=>?_,fun ht'=>by rw[ht'] at ht;cases ht⟩
   have goOn:∀v,YieldsIf P ops (St past d Ls F (bs.getD i false)) o v (act n ρ ds)→gws P Q.pan Q.n s' Ls (put ρ g.dst v) d L→
     AS P ops (lift n ds F W0 d0 Q) (St past d Ls F) bs (k+1) listed (act n ρ ds) W:=by
    intro v hy hw
    refine AS.first ho (Region.noSelect_spec hsel) (fun c a w hh=>?_) hlast (fun w hw=>⟨hw.1,fun e=>by cases e⟩) k listed _ W (Region.free_spec ho hf) (by simpa using hr) hy (okS hOk hpb) ?_
    ·obtain⟨h1,h2⟩:=hh
     refine⟨?_,h2⟩
     cases hdd:o.dst with
     |none=>rw[hdd] at h1;exact h1
     |some t=>rw[hdd] at h1;exact h1
    ·rw[Ch hdst,←hgd]
     exact((ih true past _ s' _ d L Ls k W hc' hs' hp hw hOk hle hk (by omega)).1 rfl)
   have look:∀w,St past d Ls F (bs.getD i false) w→∀a v,HC d Ls a v→w.cell? a=some v:=by
    intro w hw a v hc;refine hc.cell hw.1.head (fun q hq=>?_);cases hbi:bs.getD i false with
    |true=>rw[hbi] at hpb;rw[hp hpb] at hq;cases hq
    |false=>exact(hw.2 hbi).2.2 q (by simp[hq])
   rcases hgu with ⟨hgn,hg'⟩|⟨j,want,t,hgn,ht2,htn,hg'⟩
   ·simp only[gws,gop,hg'] at h
    rw[Bt hquiet] at h
    obtain⟨v,hv,hK⟩:=h
    refine goOn v (.inl ⟨by simp[Region.wanted,hgn],fun w hw=>?_⟩) hK
    exact Cj hdi hquiet hv (fun x hx=>Am (hop x hx)) (look w hw)
   ·simp only[gws,gop,hg'] at h
    rcases h with ⟨b,hb,h1,h2⟩|⟨hb,h2⟩
    case inr=>exact goOn undef (.inr ⟨Di hgn ht2 htn hb,rfl⟩) h2
    by_cases e:b=want
    ·have h1:=h1 e
     rw[Bt hquiet] at h1
     obtain⟨v,hv,hK⟩:=h1
     refine goOn v (.inl ⟨by rw[Cl hgn ht2 htn hb];simp[e],fun w hw=>?_⟩) hK
     exact Cj hdi hquiet hv (fun x hx=>Am (hop x hx)) (look w hw)
    ·refine goOn undef (.inr ⟨by rw[Cl hgn ht2 htn hb];simpa using e,rfl⟩) (h2 (by cases b<;>cases want<;>simp_all))
  |false=>
   simp only[chk,Mr,beq_iff_eq] at hc
   obtain⟨⟨hr,hpb⟩,hc'⟩:=hc
   obtain⟨d1,L1,hv,h⟩:=h
   have hOk1:=hv.2 (Ls++F) W hOk
   have step:wpOp P ops (lift n ds F W0 d0 Q) i (fun a' w'=>St past d Ls F (bs.getD i false) w'∧AS P ops (lift n ds F W0 d0 Q) (St past d Ls F) bs k (listed.setIfInBounds i true) a' w') (act n ρ ds) W:=by
    refine CL ho hd hOk1 (fun q hq=>hOk1.2 q (by simp at hq;rcases hq with hq|hq<;>simp[hq])) (fun B hB=>⟨F,by rw[←M6 hB]⟩) h ?_ ?_
    ·intro ρ' d' L' W' h1 h2 h3 ⟨d2,L2,hv2,h4⟩;have hdd:=hv.1.trans h2;refine⟨(okS h1 hpb).le hdd,?_⟩
     exact AS.mono (fun b w hw=>hw.le (hdd.trans hv2.1)) _ _ _ _ ((ih true past _ s' ρ' d2 L2 Ls k W' hc' hs' hp h4 (hv2.2 _ W' h1) (hle.trans (hdd.trans hv2.1)) (hk.trans h3) (by omega)).1 rfl)
    ·intro c d' L' W' h1 h2 h3 h4;exact⟨rfl,d',Ls++L',front h1,hle.trans (hv.1.trans h2),hk.trans h3,h4⟩
   refine⟨fun ht=>?_,fun _ j hj=>?_⟩
   ·rw[ht] at hr
    simp only[Bool.not_true,Bool.false_or,beq_iff_eq] at hr
    refine fun _=>⟨fun h0=>by rw[h0] at hr;simp at hr,fun j hj=>?_⟩
    rw[hr] at hj
    simp at hj;subst hj
    exact step
   ·simp only[SI.AN,MY] at hj
    subst hj
    exact step
 |alt i si ti ih1 ih2=>
  intro top past listed s ρ d L Ls k W hc hs hp h hOk hle hk hst
  simp only[AH] at hs
  split at hs<;>try cases hs
  rename_i g s' t' hg hs' ht'
  rw[MB] at hg
  obtain⟨o,ho,hd⟩:=hg
  simp only[SI.steps] at hst
  obtain⟨k,rfl⟩:∃k',k=k'+1:=⟨k - 1,by omega⟩
  simp only[chk,Mr,beq_iff_eq] at hc
  obtain⟨⟨⟨hr,hpb⟩,hc1⟩,hc2⟩:=hc
  obtain⟨⟨d1,L1,hv,h⟩,hrest⟩:=h
  have hOk1:=hv.2 (Ls++F) W hOk
  have step:wpOp P ops (lift n ds F W0 d0 Q) i (fun a' w'=>St past d Ls F (bs.getD i false) w'∧AS P ops (lift n ds F W0 d0 Q) (St past d Ls F) bs k (listed.setIfInBounds i true) a' w') (act n ρ ds) W:=by
   refine CL ho hd hOk1 (fun q hq=>hOk1.2 q (by simp at hq;rcases hq with hq|hq<;>simp[hq])) (fun B hB=>⟨F,by rw[←M6 hB]⟩) h ?_ ?_
   ·intro ρ' d' L' W' h1 h2 h3 ⟨d2,L2,hv2,h4⟩;have hdd:=hv.1.trans h2;refine⟨(okS h1 hpb).le hdd,?_⟩
    exact AS.mono (fun b w hw=>hw.le (hdd.trans hv2.1)) _ _ _ _ ((ih1 true past _ s' ρ' d2 L2 Ls k W' hc1 hs' hp h4 (hv2.2 _ W' h1) (hle.trans (hdd.trans hv2.1)) (hk.trans h3) (by omega)).1 rfl)
   ·intro c d' L' W' h1 h2 h3 h4;exact⟨rfl,d',Ls++L',front h1,hle.trans (hv.1.trans h2),hk.trans h3,h4⟩
  have others:=(ih2 false past listed t' ρ d L Ls (k+1) W hc2 ht' hp hrest hOk hle hk (by omega)).2 rfl
  have all:∀j∈i::ti.AN,wpOp P ops (lift n ds F W0 d0 Q) j (fun a' w'=>St past d Ls F (bs.getD j false) w'∧AS P ops (lift n ds F W0 d0 Q) (St past d Ls F) bs k (listed.setIfInBounds j true) a' w') (act n ρ ds) W:=by
   intro j hj;rcases MO.1 hj with rfl|hj
   ·exact step
   ·exact others j hj
  refine⟨fun ht=>?_,fun _ j hj=>all j hj⟩
  rw[ht] at hr
  simp only[Bool.not_true,Bool.false_or,beq_iff_eq] at hr
  refine fun _=>⟨fun h0=>by rw[h0] at hr;simp at hr,fun j hj=>?_⟩
  rw[hr] at hj
  exact all j hj
 |bar si ih=>
  intro top past listed s ρ d L Ls k W hc hs hp h hOk hle hk hst
  simp only[chk,Mr,MS] at hc
  obtain⟨⟨ht,hpf⟩,hc'⟩:=hc
  simp only[AH,MG] at hs
  obtain⟨s',hs',rfl⟩:=hs
  simp only[gws] at h
  refine⟨fun _=>?_,fun ht'=>by rw[ht'] at ht;cases ht⟩
  have:=(ih true true listed s' ρ d (Ls++L) [] k W hc' hs' (fun _=>rfl) h (by simpa using front hOk) hle hk hst).1 rfl
  exact AS.mono (fun b w hw=>⟨hw.1,fun e=>by have:=(hw.2 e).1;cases this⟩) _ _ _ _ this
 |par la lb a b si iha ihb ih=>
  intro top past listed s ρ d L Ls k W hc hs hp h hOk hle hk hst
  simp only[chk,Mr,MS,beq_iff_eq] at hc
  obtain⟨⟨⟨⟨⟨⟨ht,hpf⟩,hap⟩,hmm⟩,hca⟩,hcb⟩,hc'⟩:=hc
  subst hpf
  rw[←hmm] at hcb
  simp only[AH] at hs
  split at hs<;>try cases hs
  rename_i a' b' s' ha hb hs'
  split at hs<;>try cases hs
  rename_i hsep
  simp only[Mr,Mx,MS] at hsep
  obtain⟨⟨⟨hpa,hpb⟩,hs1⟩,hs2⟩:=hsep
  refine⟨fun _=>?_,fun ht'=>by rw[ht'] at ht;cases ht⟩
  obtain⟨Ra,Rb,d1,L1,L2,hv,sa,sb,h1,h2,hrest⟩:=h
  simp only[SI.steps] at hst
  have:=Ja (m:=si.steps) (q:=quietAt P ops) (Q:=Q) (F:=F) (W0:=W0) (d0:=d0) (ds:=ds) (P:=P) (n:=n) (ρ0:=ρ) (dd:=d1) (l0:=marked listed lb) (l1:=marked listed la) hsel hlast (fun i o op h1 h2 h3=>by
    obtain⟨_,_,_,hdi,_,_⟩:=Co h3;simp only[quietAt,h2,Nb,hdi,Option.any_some] at h1;exact h1) hap rfl hmm sa sb
   (fun k ρ' d' M1 M2 W' hkm hr1 hr2 ho hl hok hle' hk'=>(ih true false _ s' ρ' d' (M1++M2) Ls k W' hc' hs' hp (hrest ρ' d' M1 M2 hl ho hr1 hr2) hok hle' hk' hkm).1 rfl)
   (a.steps+b.steps) a b a' b' listed ρ d1 L1 L2 k W (MR _) hca hcb ha hb hpa hpb (fun _ h=>h) (fun _ h=>h)
   (fun t ht hm=>by have:=hs2 t hm;simp[ht] at this) (fun t ht hm=>by have:=(hs1 t hm).1;simp[ht] at this) (fun t ht hm=>by have:=(hs1 t ht).2;simp[hm] at this) h1 h2 (hv.2 _ W hOk) (hle.trans hv.1) (Le.refl d1) hk (fun _ _=>rfl) hst
  exact AS.mono (fun b w hw=>hw.le hv.1) _ _ _ _ this
def KS(ops:Array Oper):Closed ops (Array.replicate ops.size false):=by
 intro j oj _ hl;rcases Nat.lt_or_ge j ops.size with h|h
 ·simp[h] at hl
 ·simp[Nat.not_lt.2 h] at hl
def GQ{pr:Bool}{P}{n:Nat}{ds ops}{Q:AP}{F W0}{id:Nat}(hm:P.follows .mixedOrders=true)
  {s}(hs:GL pr P n ops true=some s) {ρ d L Ls W}(h:gws P Q.pan Q.n s Ls ρ d L) (hOk:Ok (d::(L++(Ls++F))) W) (hle:Le d0 d) (hk:Ak W0 W):
  (Code.region id ops true).wp P (lift n ds F W0 d0 Q) (act n ρ ds) W:=by
 simp only[GL] at hs
 split at hs
 ·rename_i hc
  simp only[Mr,decide_eq_true_eq] at hc
  obtain⟨⟨⟨h1,h2⟩,h3⟩,h4⟩:=hc
  refine wp_region_any hm (AS.any _ _ _ _ (KS ops) ((IM h1 h2 _ true false _ s ρ d L Ls ops.size _ h4 hs (fun e=>by cases e) h hOk.drew hle ?_ h3).1 rfl))
  exact hk.trans ⟨rfl,rfl,rfl,MR _⟩
 ·cases hs
def Gn{pr:Bool}{P}{n:Nat}{ds F W0}(hm:P.follows .mixedOrders=true):
  ∀(c:Code) (Q:AP) (ρ:Env) (d:Aa) (L:List Aa) (W:World),gwp P (BY pr P n c) Q ρ d L→Ok (d::(L++F)) W→Le d0 d→Ak W0 W→c.wp P (lift n ds F W0 d0 Q) (act n ρ ds) W:=by
 intro c
 induction c with
 |skip=>
  intro Q ρ d L W h hOk hle hk
  exact wp_skip ⟨ρ,d,L,rfl,hOk,hle,hk,h⟩
 |region id ops drawn=>
  intro Q ρ d L W h hOk hle hk
  simp only[BY] at h
  cases hs:GL pr P n ops drawn with
  |none=>rw[hs] at h;exact h.elim
  |some s=>
  rw[hs] at h
  cases drawn with
  |false=>
   simp only[GL] at hs
   exact wp_region (BP _ s hs ρ d L W h hOk hle hk)
  |true=>
   obtain⟨d1,Ls,L1,hv,h⟩:=h
   have hOk1:=hv.2 F W hOk
   refine GQ hm hs h (hOk1.perm (My d1 ?_)) (hle.trans hv.1) hk
   rw[←Mq]
   exact(MJ).append_right F
 |seq a b iha ihb=>
  intro Q ρ d L W h hOk hle hk
  refine wp_seq (wp_mono (iha _ ρ d L W h hOk hle hk) ?_)
  intro e a w hq
  cases e with
  |normal=>
   obtain⟨ρ',d',L',rfl,h1,h2,h3,h4⟩:=hq
   exact ihb Q ρ' d' L' w h4 h1 h2 h3
  |_=>exact hq
 |cond c a b iha ihb=>
  intro Q ρ d L W h hOk hle hk
  simp only[BY] at h
  split at h
  ·rename_i hc
   obtain⟨t,ht,h1,h2⟩:=h
   exact wp_cond_split (by rw[Am hc];exact ht) (fun e=>iha Q ρ d L W (h1 e) hOk hle hk) (fun e=>ihb Q ρ d L W (h2 e) hOk hle hk)
  ·exact h.elim
 |block id a iha=>
  intro Q ρ d L W h hOk hle hk
  refine wp_block (wp_mono (iha _ ρ d L W h hOk hle hk) ?_)
  intro e a w hq
  cases e with
  |exit i=>
   obtain⟨ρ',d',L',rfl,h1,h2,h3,h4⟩:=hq
   simp only[Exit.inBlock]
   by_cases e:i=id
   ·simp only[e,if_true] at h4⊢
    exact⟨ρ',d',L',rfl,h1,h2,h3,h4⟩
   ·simp only[if_neg e] at h4⊢
    exact⟨ρ',d',L',rfl,h1,h2,h3,h4⟩
  |_=>exact hq
 |loop a iha=>
  intro Q ρ d L W h hOk hle hk
  obtain⟨I,⟨m,hI⟩,round⟩:=h
  refine wp_loop_ghost (fun m a w=>∃ρ d L,a=act n ρ ds∧Ok (d::(L++F)) w∧Le d0 d∧Ak W0 w∧I m ρ d L) m ⟨ρ,d,L,rfl,hOk,hle,hk,hI⟩ ?_
  rintro m a w ⟨ρ',d',L',rfl,h1,h2,h3,h4⟩
  refine wp_mono (iha _ ρ' d' L' w (round m ρ' d' L' h4) h1 h2 h3) ?_
  intro e a w hq
  cases e with
  |normal=>
   obtain⟨ρ'',d'',L'',rfl,k1,k2,k3,m',k4,k5⟩:=hq
   exact⟨m',k4,ρ'',d'',L'',rfl,k1,k2,k3,k5⟩
  |_=>exact hq
 |exit id=>
  intro Q ρ d L W h hOk hle hk
  exact wp_exit ⟨ρ,d,L,rfl,hOk,hle,hk,h⟩
 |ret=>
  intro Q ρ d L W h hOk hle hk
  exact wp_ret ⟨ρ,d,L,rfl,hOk,hle,hk,h⟩
 |_=>intro Q ρ d L W h;exact h.elim
def FQ(ρ:Env)(C:Addr→Value→Prop):Du→Value→Prop
 |.tmp t,v=>v=ρ t
 |.cell t n,v=>evq ρ C (.ld n (.tmp t)) v
def Dh(ρ:Env)(C:Addr→Value→Prop):List Du→List Value→Prop
 |[],[]=>True
 |r::rs,v::vs=>FQ ρ C r v∧Dh ρ C rs vs
 |_,_=>False
def Hi:List Value→Value
 |[v]=>v
 |vs=>.tuple vs.toArray
def Bq(res:List Du)(R:Ending→Aa→List Aa→Prop)(ρ:Env)(d:Aa)(L:List Aa):Prop:=
 ∃vs,Dh ρ (HC d L) res vs∧∃d' L',Vs d L d' L'∧R (.returned (Hi vs)) d' L'
def mkPost(res:List Du)(R:Ending→Aa→List Aa→Prop):AP:=
 {n:=Bq res R,ex:=fun _ _ _ _=>False,ret:=Bq res R,pan:=fun c d L=>∃d' L',Vs d L d' L'∧R (.panicked c) d' L'}
def FT(args:List Value):Env:=fun i=>args.getD i undef
def FU(tmps:Array Value):ResultVar→Sem Value
 |.tmp t=>pure (tmps.getD t undef)
 |.cell a t=>do loadVar t (←asAddr (tmps.getD a undef))
def FK(fn:Func)(tmps:Array Value):results fn tmps=(do let vs←fn.results.mapM (FU tmps);pure (if h:vs.size=1 then vs[0] else .tuple vs)):=rfl
def Dx{P:Program}{n:Nat}{ρ:Env}{ds:List Deferred}{d:Aa}{L:List Aa}{W:World}(hl:∀a v,HC d L a v→W.cell? a=some v):
  ∀(rs:List ResultVar) (gs:List Du) (vs:List Value),rs.mapM (El P n)=some gs→Dh ρ (HC d L) gs vs→
   (rs.mapM (FU (act n ρ ds).tmps)).run P W=.ok vs W
 |[],gs,vs,hg,h=>by
  simp at hg;subst hg;cases vs with
  |nil=>simp
  |cons=>simp[Dh] at h
 |r::rs,gs,vs,hg,h=>by
  simp only[List.mapM_cons,Option.bind_eq_bind,MB,Option.pure_def,Option.some.injEq] at hg;obtain⟨g,hr,gs',hgs,rfl⟩:=hg;cases vs with
  |nil=>simp[Dh] at h
  |cons v vs=>
   obtain⟨h1,h2⟩:=h
   have ih:=Dx (ds:=ds) hl rs gs' vs hgs h2
   have get:∀t,t<n→(act n ρ ds).tmps.getD t undef=ρ t:=by
    intro t ht;simp[act,ht,Array.getD]
   simp only[List.mapM_cons,Sem.run_bind]
   have one:(FU (act n ρ ds).tmps r).run P W=.ok v W:=by
    cases r with
    |tmp t=>
     simp only[El] at hr
     split at hr<;>try cases hr
     rename_i ht
     simp only[FQ] at h1;subst h1
     simp only[FU,get t ht,Sem.run_pure]
    |cell t ty=>
     simp only[El] at hr
     split at hr<;>try cases hr
     rename_i ht
     simp only[MG] at hr
     obtain⟨m,hm,rfl⟩:=hr
     simp only[FQ] at h1
     have ldv:∀a,(loadVar ty a).run P W=(Instr.loadAt ty (.pointer (some a))).run P W:=by intro a;simp[Instr.loadAt,Instr.sureAddr]
     cases m with
     |none=>
      obtain⟨b,o,e1,e2⟩:=h1
      have e1:ρ t=.pointer (some ⟨b,o,none⟩):=e1
      simp only[FU,Sem.run_bind,get t ht,e1,asAddr,Sem.run_pure,Result.andThen,ldv,HD hm _ _ W (hl _ _ e2)]
     |some m=>
      obtain⟨b,o,cs,e1,e2,e3,rfl⟩:=h1
      have e1:ρ t=.pointer (some ⟨b,o,none⟩):=e1
      simp only[FU,Sem.run_bind,get t ht,e1,asAddr,Sem.run_pure,Result.andThen,ldv,HA hm b o cs e2 W (fun i u hu=>hl _ _ (e3 i u hu))]
   rw[one]
   simp only[Result.andThen,ih,Sem.run_pure]
def Aq{pr:Bool}{P f}{g:A3}(hd:Iv pr P f=some g){args}(ha:args.length≤g.n){L R}
  (h:gwp P g.code (mkPost g.res R) (FT args) d L):Aj P f args d L R:=by
 simp only[Iv] at hd
 split at hd<;>try cases hd
 rename_i fn hf
 split at hd<;>try cases hd
 rename_i hn
 split at hd<;>try cases hd
 rename_i c hb
 rw[MG] at hd
 obtain⟨rs,hr,rfl⟩:=hd
 simp only[MZ,not_or,Nl,Bool.not_eq_false'] at hn
 refine⟨⟨fn,hf,by rw[hb];rfl,hn.1⟩,fun F W hOk=>?_⟩
 refine calls_of_wp hf hb ?_
 have hinit:({tmps:=args.toArray++Array.replicate (fn.ntmps - args.toArray.size) undef,defers:=[]}:Act)=act fn.ntmps (FT args) []:=by
  simp only[act,Act.mk.injEq,and_true];apply Array.ext
  ·simp at ha⊢;omega
  ·intro i h1 h2;simp only[Array.getElem_ofFn,FT];by_cases hi:i<args.length
   ·rw[Array.getElem_append_left (by simpa using hi)];simp[hi]
   ·rw[Array.getElem_append_right (by simpa using hi)];simp[List.getD,MP (Nat.le_of_not_lt hi)]
 rw[hinit]
 have hs:=Gn (ds:=[]) (F:=F) (W0:=W) (d0:=d) (by simpa using hn.2) c _ _ d L W h hOk (Le.refl d) (Ak.refl W)
 refine wp_mono hs ?_
 have fin:∀a w,(∃ρ d' L',a=act fn.ntmps ρ []∧Ok (d'::(L'++F)) w∧Le d d'∧Ak W w∧Bq rs R ρ d' L')→
   a.defers=[]∧∃v,(results fn a.tmps).run P w=.ok v w∧(∃d' L',Ok (d'::(L'++F)) w∧Le d d'∧Ak W w∧R (.returned v) d' L'):=by
  rintro a w ⟨ρ,d',L',rfl,h1,h2,h3,vs,h4,d'',L'',h5,h6⟩
  refine⟨rfl,Hi vs,?_,d'',L'',h5.2 F w h1,h2.trans h5.1,h3,h6⟩
  have hl:∀a v,HC d' L' a v→w.cell? a=some v:=fun a v hc=>hc.cell h1.head (fun q hq=>h1.2 q (by simp[hq]))
  have:=Dx (P:=P) (n:=fn.ntmps) (ρ:=ρ) (ds:=[]) hl fn.results.toList rs vs hr h4
  rw[FK,Array.mapM_eq_mapM_toList]
  simp only[Sem.run_bind,Sem.run_map,this,Result.andThen,Sem.run_pure]
  cases vs with
  |nil=>rfl
  |cons v vs=>cases vs with
   |nil=>rfl
   |cons v' vs=>rfl
 intro e a w hq
 cases e with
 |normal=>exact fin a w hq
 |ret=>exact fin a w hq
 |panic c=>
  obtain⟨h1,d',L',h2,h3,h4,d'',L'',h5,h6⟩:=hq
  exact⟨h1,d'',L'',h5.2 F w h2,h3.trans h5.1,h4,h6⟩
 |exit i=>obtain⟨_,_,_,_,_,_,_,hh⟩:=hq;exact hh.elim
 |goto l=>exact hq.elim
 |outgrown=>exact hq.elim
end
section
def lk(tk:Bool)(Ls L:List Aa):List Aa:=match tk with|true=>Ls|false=>Ls++L
def DC(d:Aa)(b o:Nat)(v:Value):Prop:=∃c T fr,d b (.cells c T fr)∧c[o]?=some v
def DCs(d:Aa)(b o:Nat)(vs:List Value):Prop:=∃c T fr,d b (.cells c T fr)∧∀i u,vs[i]?=some u→c[o+i]?=some u
def DCs.at{d}{b o:Nat}{vs}(h:DCs d b o vs){i:Nat}{u}(hi:vs[i]?=some u):DC d b (o+i) u:=
 let ⟨c,T,fr,h1,h2⟩:=h
 ⟨c,T,fr,h1,h2 i u hi⟩
def DC.mono{d d'}{b o:Nat}(h:DC d b o v)(hl:Le d d'):DC d' b o v:=
 let ⟨c,T,fr,h1,h2⟩:=h
 ⟨c,T,fr,hl _ _ h1,h2⟩
def DCs.mono{d d'}{b o:Nat}{vs}(h:DCs d b o vs)(hl:Le d d'):DCs d' b o vs:=
 let ⟨c,T,fr,h1,h2⟩:=h
 ⟨c,T,fr,hl _ _ h1,h2⟩
def DC.cells{d}{b o:Nat}(h:DC d b o v):DCs d b o [v]:=
 let ⟨c,T,fr,h1,h2⟩:=h
 ⟨c,T,fr,h1,fun i u hi=>by
  cases i with
  |zero=>simp at hi;subst hi;exact h2
  |succ i=>simp at hi⟩
def DCs.one{d}{b o:Nat}(h:DCs d b o [v]):DC d b o v:=h.at (i:=0) rfl
def DT{d Lk}{b o:Nat}(h:DC d b o v):HC d Lk ⟨b,o,none⟩ v:=
 let ⟨c,T,fr,h1,h2⟩:=h
 ⟨rfl,d,.inl rfl,c,T,fr,h1,h2⟩
def Lz{d Lk}{b o:Nat}{vs}(h:DCs d b o vs)(hi:vs[0]?=some v):HC d Lk ⟨b,o,none⟩ v:=DT (h.at hi)
def A5{d Lk}{b o:Nat}{T l}(i:Nat)(h:Lk[i]?=some (bx b T l))(ho:l[o]?=some v):HC d Lk ⟨b,o,none⟩ v:=
 ⟨rfl,bx b T l,.inr (Nh h),l.toArray,T,(0,0),AY _ _,by simpa using ho⟩
section
variable {P:Program}{pan:List PanicEntry→Ah}{Qn:Env→Ah}{Ls L:List Aa}{ρ:Env}{d:Aa}{tk:Bool}{s:GS}{t:Nat}
def Dz(d1:Aa)(L1:List Aa)(hv:Vs d L d1 L1):gws P pan Qn (.op false g s) Ls ρ d1 L1→gws P pan Qn (.op false g s) Ls ρ d L
 |⟨d2,L2,h1,h2⟩=>⟨d2,L2,hv.trans h1,h2⟩
def Kk{h}(k:∀d',Le d d'→Le h d'→gws P pan Qn (.op false g s) Ls ρ d' L):gws P pan Qn (.op false g s) Ls ρ d (h::L):=
 Dz (join d h) L Vs.freeze (k _ (Le.Ap d h) (Le.AF d h))
def w_q{q:GI}(hq:q.quiet=true)(hv:evq ρ (HC d (lk tk Ls L)) q v)(h:gws P pan Qn s Ls (upd ρ t v) d L):
  gws P pan Qn (.op tk ⟨some t,none,q⟩ s) Ls ρ d L:=by
 cases tk with
 |true=>simp only[gws,gop];rw[Bt hq];exact⟨v,hv,h⟩
 |false=>exact⟨d,L,Vs.refl d L,by simp only[gop];rw[Bt hq];exact⟨v,hv,d,L,Vs.refl d L,h⟩⟩
def Bg(h:gws P pan Qn s Ls (upd ρ t (ev ρ x)) d L):gws P pan Qn (.op tk ⟨some t,none,.mv x⟩ s) Ls ρ d L:=w_q rfl rfl h
def Ac(e:ev ρ x=.int k a)(h:gws P pan Qn s Ls (upd ρ t (.int k a)) d L):gws P pan Qn (.op tk ⟨some t,none,.mv x⟩ s) Ls ρ d L:=w_q rfl e.symm h
def Ag{a:Bool}(e:ev ρ x=.bool a)(h:gws P pan Qn s Ls (upd ρ t (.bool a)) d L):gws P pan Qn (.op tk ⟨some t,none,.mv x⟩ s) Ls ρ d L:=w_q rfl e.symm h
def A0{a}{n c:Nat}(e:ev ρ x=.slice a n c)(h:gws P pan Qn s Ls (upd ρ t (.slice a n c)) d L):gws P pan Qn (.op tk ⟨some t,none,.mv x⟩ s) Ls ρ d L:=w_q rfl e.symm h
def Ad{a}(e:ev ρ x=.pointer a)(h:gws P pan Qn s Ls (upd ρ t (.pointer a)) d L):gws P pan Qn (.op tk ⟨some t,none,.mv x⟩ s) Ls ρ d L:=w_q rfl e.symm h
def BE{l:Array Value}(e:ev ρ x=.tuple l)(h:gws P pan Qn s Ls (upd ρ t (.tuple l)) d L):gws P pan Qn (.op tk ⟨some t,none,.mv x⟩ s) Ls ρ d L:=w_q rfl e.symm h
def Kp{a b}(e:ev ρ c=.bool true)(ea:ev ρ a=v)(h:gws P pan Qn s Ls (upd ρ t v) d L):gws P pan Qn (.op tk ⟨some t,none,.pick c a b⟩ s) Ls ρ d L:=
 w_q rfl ⟨true,e,by simp[ea]⟩ h
def KV{a b}(e:ev ρ c=.bool false)(eb:ev ρ b=v)(h:gws P pan Qn s Ls (upd ρ t v) d L):gws P pan Qn (.op tk ⟨some t,none,.pick c a b⟩ s) Ls ρ d L:=
 w_q rfl ⟨false,e,by simp[eb]⟩ h
def AB{a b}{v:Bool}(e:ev ρ c=.bool true)(ea:ev ρ a=.bool v)(h:gws P pan Qn s Ls (upd ρ t (.bool v)) d L):gws P pan Qn (.op tk ⟨some t,none,.pick c a b⟩ s) Ls ρ d L:=Kp e ea h
def Al{a b}{v:Bool}(e:ev ρ c=.bool false)(eb:ev ρ b=.bool v)(h:gws P pan Qn s Ls (upd ρ t (.bool v)) d L):gws P pan Qn (.op tk ⟨some t,none,.pick c a b⟩ s) Ls ρ d L:=KV e eb h
def AR{off b o:Nat}(e:ev ρ x=.pointer (some ⟨b,o,none⟩))(h:gws P pan Qn s Ls (upd ρ t (.pointer (some ⟨b,o+off,none⟩))) d L):
  gws P pan Qn (.op tk ⟨some t,none,.fld off x⟩ s) Ls ρ d L:=w_q rfl ⟨b,o,e,rfl⟩ h
def AX{b o:Nat}(e:ev ρ x=.pointer (some ⟨b,o,none⟩))(hc:HC d (lk tk Ls L) ⟨b,o,none⟩ v)(h:gws P pan Qn s Ls (upd ρ t v) d L):
  gws P pan Qn (.op tk ⟨some t,none,.ld none x⟩ s) Ls ρ d L:=w_q rfl ⟨b,o,e,hc⟩ h
def Dl{op:BinOp}(e:B7 op (ev ρ x) (ev ρ y)=some v)(h:gws P pan Qn s Ls (upd ρ t v) d L):
  gws P pan Qn (.op tk ⟨some t,none,.bin op x y⟩ s) Ls ρ d L:=w_q rfl e h
def Gp(h1: -9223372036854775808≤a)(h2:a≤9223372036854775807):IntKind.i64.wrap a=a:=by
 simp[IntKind.wrap,IntKind.signed,IntKind.bits];omega
def BW(ex:ev ρ x=vZ a)(ey:ev ρ y=vZ b)(h1: -9223372036854775808≤a+b)(h2:a+b≤9223372036854775807)
  (h:gws P pan Qn s Ls (upd ρ t (vZ (a+b))) d L):gws P pan Qn (.op tk ⟨some t,none,.bin .add x y⟩ s) Ls ρ d L:=
 Dl (by rw[ex,ey];simp[B7,Gp h1 h2]) h
def GK(ex:ev ρ x=vZ a)(ey:ev ρ y=vZ b)(h1: -9223372036854775808≤a - b)(h2:a - b≤9223372036854775807)
  (h:gws P pan Qn s Ls (upd ρ t (vZ (a - b))) d L):gws P pan Qn (.op tk ⟨some t,none,.bin .sub x y⟩ s) Ls ρ d L:=
 Dl (by rw[ex,ey];simp[B7,Gp h1 h2]) h
def AI(ex:ev ρ x=.int k a)(ey:ev ρ y=.int k b)(h:gws P pan Qn s Ls (upd ρ t (.bool (decide (a<b)))) d L):
  gws P pan Qn (.op tk ⟨some t,none,.bin .lss x y⟩ s) Ls ρ d L:=Dl (by rw[ex,ey];simp[B7]) h
def Ka(ex:ev ρ x=.int k a)(ey:ev ρ y=.int k b)(h:gws P pan Qn s Ls (upd ρ t (.bool (decide (a≤b)))) d L):
  gws P pan Qn (.op tk ⟨some t,none,.bin .leq x y⟩ s) Ls ρ d L:=Dl (by rw[ex,ey];simp[B7]) h
def EL(ex:ev ρ x=.int k a)(ey:ev ρ y=.int k b)(h:gws P pan Qn s Ls (upd ρ t (.bool (decide (b<a)))) d L):
  gws P pan Qn (.op tk ⟨some t,none,.bin .gtr x y⟩ s) Ls ρ d L:=Dl (by rw[ex,ey];simp[B7]) h
def GJ(ex:ev ρ x=.int k a)(ey:ev ρ y=.int k b)(h:gws P pan Qn s Ls (upd ρ t (.bool (decide (b≤a)))) d L):
  gws P pan Qn (.op tk ⟨some t,none,.bin .geq x y⟩ s) Ls ρ d L:=Dl (by rw[ex,ey];simp[B7]) h
def BK(ex:ev ρ x=.int k a)(ey:ev ρ y=.int k b)(h:gws P pan Qn s Ls (upd ρ t (.bool (decide (a=b)))) d L):
  gws P pan Qn (.op tk ⟨some t,none,.bin .eql x y⟩ s) Ls ρ d L:=Dl (by rw[ex,ey];simp[B7];rfl) h
def AQ(ex:ev ρ x=.int k a)(ey:ev ρ y=.int k b)(h:gws P pan Qn s Ls (upd ρ t (.bool (decide (a≠b)))) d L):
  gws P pan Qn (.op tk ⟨some t,none,.bin .neq x y⟩ s) Ls ρ d L:=Dl (by rw[ex,ey];simp[B7];by_cases e:a=b<;>simp[e]) h
def Dr{b:Bool}(ex:ev ρ x=.bool b)(h:gws P pan Qn s Ls (upd ρ t (.bool (!b))) d L):gws P pan Qn (.op tk ⟨some t,none,.un .not x⟩ s) Ls ρ d L:=
 w_q rfl (by simp[evq,unV,ex]) h
def BU{a}{n c:Nat}(ex:ev ρ x=.slice a n c)(h:gws P pan Qn s Ls (upd ρ t (vZ n)) d L):gws P pan Qn (.op tk ⟨some t,none,.len x⟩ s) Ls ρ d L:=
 w_q rfl ⟨a,n,c,ex,rfl⟩ h
def AL{i:Nat}{vs:Array Value}(ex:ev ρ x=.tuple vs)(e:vs[i]?=some v)(h:gws P pan Qn s Ls (upd ρ t v) d L):
  gws P pan Qn (.op tk ⟨some t,none,.ext x i⟩ s) Ls ρ d L:=w_q rfl ⟨vs,ex,e⟩ h
def SAd(a:Option Addr)(n b o:Nat):Prop:=n≠0→a=some ⟨b,o,none⟩
def SAd.some(n b o:Nat):SAd (some ⟨b,o,none⟩) n b o:=fun _=>rfl
def Kn{i}{sz b o n c:Nat}{a}{j:Int}(m:Nat)(ex:ev ρ x=.slice a n c)(ei:ev ρ i=.int k j)(hm:j=(m:Int))(hl:m<n)(hA:SAd a n b o)
  (h:gws P pan Qn s Ls (upd ρ t (.pointer (some ⟨b,o+m*sz,none⟩))) d L):gws P pan Qn (.op tk ⟨some t,none,.idx sz x i⟩ s) Ls ρ d L:=by
 subst hm
 rw[hA (by omega)] at ex
 exact w_q rfl ⟨b,o,n,c,k,m,ex,ei,by omega,by omega,rfl⟩ h
def Ma{T}(h:gws P pan Qn s Ls (upd ρ t (.iface T (ev ρ x))) d L):gws P pan Qn (.op tk ⟨some t,none,.mki T x⟩ s) Ls ρ d L:=w_q rfl rfl h
def BT{pl:List (Nat×Nat)}{z:List Value}{ps:List (Nat×Operand)}{cs:List Value}(e:Instr.fill (pl[·]?) z.toArray (ps.map fun p=>(p.1,ev ρ p.2))=some cs.toArray)
  (h:gws P pan Qn s Ls (upd ρ t (.agg cs.toArray)) d L):gws P pan Qn (.op tk ⟨some t,none,.bld pl z ps⟩ s) Ls ρ d L:=w_q rfl ⟨cs.toArray,e,rfl⟩ h
def L8{a}{n c b o:Nat}{l}(ex:ev ρ x=.slice a n c)(hn:n=l.length)(hA:SAd a n b o)
  (hc:∀i u,l[i]?=some u→HC d (lk tk Ls L) ⟨b,o+i,none⟩ (AO u)) (h:gws P pan Qn s Ls (upd ρ t (Be l)) d L):gws P pan Qn (.op tk ⟨some t,none,.b2s x⟩ s) Ls ρ d L:=by
 subst hn
 refine w_q rfl ⟨a,l,c,ex,?_,?_,rfl⟩ h
 ·intro e
  cases l with
  |nil=>rfl
  |cons u l=>have:=hA (by simp);rw[e] at this;cases this
 ·intro a' e i u hu
  have hl:l.length≠0:=by
   intro h0;have:=List.length_eq_zero_iff.1 h0;subst this;simp at hu
  have:=hA hl
  rw[e] at this;cases this
  rw[Addr.add_lit]
  exact hc i u hu
def AM{a:Addr}(ex:ev ρ x=.pointer (some a))(h:gws P pan Qn s Ls (upd ρ t (.pointer (some a))) d L):gws P pan Qn (.op tk ⟨some t,none,.nilc x⟩ s) Ls ρ d L:=
 w_q rfl ⟨⟨a,ex⟩,ex.symm⟩ h
def Cp{neg:Bool}(ex:ev ρ x=.pointer none)(ey:ev ρ y=.pointer none)(h:gws P pan Qn s Ls (upd ρ t (.bool (!neg))) d L):
  gws P pan Qn (.op tk ⟨some t,none,.eqp neg x y⟩ s) Ls ρ d L:=w_q rfl ⟨none,none,ex,ey,.inl rfl,by cases neg<;>rfl⟩ h
def A1{neg:Bool}{a:Addr}(ex:ev ρ x=.pointer (some a))(ey:ev ρ y=.pointer none)(h:gws P pan Qn s Ls (upd ρ t (.bool neg)) d L):
  gws P pan Qn (.op tk ⟨some t,none,.eqp neg x y⟩ s) Ls ρ d L:=w_q rfl ⟨some a,none,ex,ey,.inr (.inl rfl),by cases neg<;>rfl⟩ h
def LG{neg:Bool}{n c n' c':Nat}(ex:ev ρ x=.slice none n c)(ey:ev ρ y=.slice none n' c')(h:gws P pan Qn s Ls (upd ρ t (.bool (!neg))) d L):
  gws P pan Qn (.op tk ⟨some t,none,.eqs neg x y⟩ s) Ls ρ d L:=w_q rfl ⟨none,n,c,ex,⟨n',c',ey⟩,by cases neg<;>rfl⟩ h
def LF{neg:Bool}{a:Addr}{n c n' c':Nat}(ex:ev ρ x=.slice (some a) n c)(ey:ev ρ y=.slice none n' c')(h:gws P pan Qn s Ls (upd ρ t (.bool neg)) d L):
  gws P pan Qn (.op tk ⟨some t,none,.eqs neg x y⟩ s) Ls ρ d L:=w_q rfl ⟨some a,n,c,ex,⟨n',c',ey⟩,by cases neg<;>rfl⟩ h
def Af{g:Nat}{want:Bool}{dst:Option Nat}(e:ρ g=.bool want)(h:gws P pan Qn (.op tk ⟨dst,none,i⟩ s) Ls ρ d L):gws P pan Qn (.op tk ⟨dst,some (g,want),i⟩ s) Ls ρ d L:=by
 cases tk with
 |true=>simp only[gws,gop] at h⊢;exact .inl ⟨want,e,fun _=>h,fun e=>by cases want<;>cases e⟩
 |false=>obtain⟨d1,L1,h1,h2⟩:=h;exact⟨d1,L1,h1,by simp only[gop] at h2⊢;exact .inl ⟨want,e,fun _=>h2,fun e=>by cases want<;>cases e⟩⟩
def LK{g:Nat}{want:Bool}{dst:Option Nat}(e:ρ g=.bool (!want))(h:gws P pan Qn s Ls (put ρ dst undef) d L):gws P pan Qn (.op tk ⟨dst,some (g,want),i⟩ s) Ls ρ d L:=by
 cases tk with
 |true=>simp only[gws,gop] at h⊢;exact .inl ⟨!want,e,(fun e=>by cases want<;>cases e),fun _=>h⟩
 |false=>exact⟨d,L,Vs.refl d L,by simp only[gop];exact .inl ⟨!want,e,(fun e=>by cases want<;>cases e),fun _=>⟨d,L,Vs.refl d L,h⟩⟩⟩
def LW{g:Nat}{want:Bool}{dst:Option Nat}(e:ρ g=undef)(h:gws P pan Qn s Ls (put ρ dst undef) d L):gws P pan Qn (.op tk ⟨dst,some (g,want),i⟩ s) Ls ρ d L:=by
 cases tk with
 |true=>simp only[gws,gop] at h⊢;exact .inr ⟨e,h⟩
 |false=>exact⟨d,L,Vs.refl d L,by simp only[gop];exact .inr ⟨e,d,L,Vs.refl d L,h⟩⟩
def It{g t:Nat}{want:Bool}(e:ρ g=undef)(h:gws P pan Qn s Ls (upd ρ t undef) d L):gws P pan Qn (.op tk ⟨some t,some (g,want),i⟩ s) Ls ρ d L:=LW e h
def Au{g t:Nat}{want:Bool}(e:ρ g=.bool (!want))(h:gws P pan Qn s Ls (upd ρ t undef) d L):gws P pan Qn (.op tk ⟨some t,some (g,want),i⟩ s) Ls ρ d L:=LK e h
def GO{g:Nat}(e:ρ g=v):upd ρ g v=ρ:=by
 funext i;simp only[upd];cases h:Nat.beq i g with
 |false=>rfl
 |true=>have:=Np h;subst this;exact e.symm
def EM{g:Nat}(e:ρ g=v)(h:gws P pan Qn s Ls (upd ρ g v) d L):gws P pan Qn s Ls ρ d L:=by rwa [GO e] at h
def JB{g:Nat}{want b:Bool}{dst:Option Nat}(e:ρ g=.bool b)(h1:b=true→gws P pan Qn (.op tk ⟨dst,some (g,want),i⟩ s) Ls (upd ρ g (.bool true)) d L)
  (h2:b=false→gws P pan Qn (.op tk ⟨dst,some (g,want),i⟩ s) Ls (upd ρ g (.bool false)) d L):gws P pan Qn (.op tk ⟨dst,some (g,want),i⟩ s) Ls ρ d L:=by
 cases b with
 |true=>exact EM e (h1 rfl)
 |false=>exact EM e (h2 rfl)
def Kl{g:Nat}{want:Bool}{dst:Option Nat}[Decidable p](e:ρ g=.bool (decide p))(h1:p→gws P pan Qn (.op tk ⟨dst,some (g,want),i⟩ s) Ls (upd ρ g (.bool true)) d L)
  (h2:¬p→gws P pan Qn (.op tk ⟨dst,some (g,want),i⟩ s) Ls (upd ρ g (.bool false)) d L):gws P pan Qn (.op tk ⟨dst,some (g,want),i⟩ s) Ls ρ d L:=
 JB e (fun h=>h1 (of_decide_eq_true h)) (fun h=>h2 (of_decide_eq_false h))
def B4{g:Nat}{want:Bool}{dst:Option Nat}[Decidable p](e:ρ g=.bool (decide p))(hp:p)(h:gws P pan Qn (.op tk ⟨dst,some (g,want),i⟩ s) Ls (upd ρ g (.bool true)) d L):
  gws P pan Qn (.op tk ⟨dst,some (g,want),i⟩ s) Ls ρ d L:=EM (by rw[e];simp[hp]) h
def AA{g:Nat}{want:Bool}{dst:Option Nat}[Decidable p](e:ρ g=.bool (decide p))(hp:¬p)(h:gws P pan Qn (.op tk ⟨dst,some (g,want),i⟩ s) Ls (upd ρ g (.bool false)) d L):
  gws P pan Qn (.op tk ⟨dst,some (g,want),i⟩ s) Ls ρ d L:=EM (by rw[e];simp[hp]) h
def Ab(h:Qn ρ d L):gws P pan Qn .done [] ρ d L:=⟨d,L,Vs.refl _ _,h⟩
def Hh(h:Qn ρ d (Ls++L)):gws P pan Qn .done Ls ρ d L:=⟨d,Ls++L,Vs.refl _ _,h⟩
def EJ(h:gws P pan Qn s [] ρ d (Ls++L)):gws P pan Qn (.bar s) Ls ρ d L:=h
def FF(ex:ev ρ x=v)(h:∀b T,gws P pan Qn s Ls (upd ρ t (pZ b)) d (bx b T v.cells.toList::L)):
  gws P pan Qn (.op false ⟨some t,none,.box x⟩ s) Ls ρ d L:=⟨d,L,Vs.refl d L,fun b T=>⟨_,_,Vs.refl _ _,by subst ex;exact h b T⟩⟩
def BF{l}(ex:ev ρ x=.agg l.toArray)(h:∀b T,gws P pan Qn s Ls (upd ρ t (pZ b)) d (bx b T l::L)):
  gws P pan Qn (.op false ⟨some t,none,.box x⟩ s) Ls ρ d L:=FF ex h
def LU{z}(h:∀b T,gws P pan Qn s Ls (upd ρ t (pZ b)) d (bx b T z.cells.toList::L)):
  gws P pan Qn (.op false ⟨some t,none,.alo z⟩ s) Ls ρ d L:=⟨d,L,Vs.refl d L,fun b T=>⟨_,_,Vs.refl _ _,h b T⟩⟩
def Ln{n:Nat}{b o:Nat}{T l}(i:Nat)(hi:L[i]?=some (bx b T l))(ex:ev ρ x=.pointer (some ⟨b,o,none⟩))(ey:ev ρ y=v)
  (hn:v.cells.size=n) (hl:o+n≤l.length) (h1:(v.cells.toList.all (·.oneCell'))=true) (h:gws P pan Qn s Ls ρ d (L.set i (bx b T (patch l o v.cells.toList)))):
  gws P pan Qn (.op false ⟨none,none,.st n x y⟩ s) Ls ρ d L:=⟨d,L,Vs.refl d L,i,b,o,T,l,hi,ex,by rw[ey];exact hn,hl,by rw[ey];exact h1,_,_,Vs.refl _ _,by rw[ey];exact h⟩
def Gz{n sz:Nat}{z}{ps:List (Nat×Operand)}{cs}(hn:n*sz≤16777216)(e:Instr.fill (fun i=>some (i*sz,sz)) (Aw z (n*sz)).toArray (ps.map fun p=>(p.1,ev ρ p.2))=some cs.toArray)
  (h:∀b T,gws P pan Qn s Ls (upd ρ t (.slice (some ⟨b,0,none⟩) n n)) d (bx b T cs::L)):gws P pan Qn (.op false ⟨some t,none,.bsl n sz z ps⟩ s) Ls ρ d L:=
 ⟨d,L,Vs.refl d L,hn,cs.toArray,e,fun b T=>⟨_,_,Vs.refl _ _,h b T⟩⟩
def Fz{sz by_:Nat}{z k'}{n c:Nat}(ex:ev ρ x=.int k (n:Nat))(ey:ev ρ y=.int k' (c:Nat))(h1:n≤c)(h2:c≤9223372036854775807)(h3:by_*c≤281474976710656)
  (h:∀b T,gws P pan Qn s Ls (upd ρ t (.slice (some ⟨b,0,none⟩) n c)) d (bx b T (Aw z (c*sz))::L)):gws P pan Qn (.op false ⟨some t,none,.mks sz by_ z x y⟩ s) Ls ρ d L:=
 ⟨d,L,Vs.refl d L,k,k',n,c,ex,ey,h1,h2,h3,fun b T=>⟨_,_,Vs.refl _ _,h b T⟩⟩
def DL{f args R vs}(ea:args.map (ev ρ)=vs)(hc:Aj P f vs d [] (Ret R))
  (h:∀v d' L',Le d d'→R v d' L'→gws P pan Qn s Ls (upd ρ t v) d' (L'++L)):gws P pan Qn (.op false ⟨some t,none,.call f args⟩ s) Ls ρ d L:=
 ⟨d,L,Vs.refl d L,.inl ⟨[],L,Ret R,rfl,by rw[ea];exact hc,fun e d' L' hl hr=>by
  cases e with
  |returned v=>exact⟨_,_,Vs.refl _ _,h v d' L' hl hr⟩
  |panicked c=>exact hr.elim
  |outgrown=>exact hr⟩⟩
def Hw(n:Nat){f args R vs}(ea:args.map (ev ρ)=vs)(hc:Aj P f vs d (L.take n) (Ret R))
  (h:∀v d' L',Le d d'→R v d' L'→gws P pan Qn s Ls (upd ρ t v) d' (L'++L.drop n)):gws P pan Qn (.op false ⟨some t,none,.call f args⟩ s) Ls ρ d L:=
 ⟨d,L,Vs.refl d L,.inl ⟨L.take n,L.drop n,Ret R,by simp,by rw[ea];exact hc,fun e d' L' hl hr=>by
  cases e with
  |returned v=>exact⟨_,_,Vs.refl _ _,h v d' L' hl hr⟩
  |panicked c=>exact hr.elim
  |outgrown=>exact hr⟩⟩
end
def Fh{P}{pan:List PanicEntry→Ah}{ρ d Lk L}{K K':Env→Ah}(hk:∀ρ d L,K ρ d L→K' ρ d L)(h:gop P pan g ρ d Lk L K):gop P pan g ρ d Lk L K':=Dk hk h
def Ba{P}{pan:List PanicEntry→Ah}{Qn Qn':Env→Ah}(hq:∀ρ d L,Qn ρ d L→Qn' ρ d L):∀(s:GS) {Ls ρ d L},gws P pan Qn s Ls ρ d L→gws P pan Qn' s Ls ρ d L
 |.done,_,_,_,_,⟨d1,L1,h1,h2⟩=>⟨d1,L1,h1,hq _ _ _ h2⟩
 |.op true _ s,_,_,_,_,h=>Fh (fun _ _ _ h=>Ba hq s h) h
 |.op false _ s,_,_,_,_,⟨d1,L1,h1,h2⟩=>⟨d1,L1,h1,Fh (fun _ _ _ ⟨d3,L3,h3,h⟩=>⟨d3,L3,h3,Ba hq s h⟩) h2⟩
 |.alt _ s t,_,_,_,_,⟨⟨d1,L1,h1,h2⟩,h3⟩=>⟨⟨d1,L1,h1,Fh (fun _ _ _ ⟨d3,L3,h3,h⟩=>⟨d3,L3,h3,Ba hq s h⟩) h2⟩,Ba hq t h3⟩
 |.bar s,_,_,_,_,h=>Ba hq s h
 |.par _ _ s,_,_,_,_,⟨Ra,Rb,d1,L1,L2,hv,sa,sb,h1,h2,h3⟩=>⟨Ra,Rb,d1,L1,L2,hv,sa,sb,h1,h2,fun ρ' d' M1 M2 hl ho r1 r2=>Ba hq s (h3 ρ' d' M1 M2 hl ho r1 r2)⟩
def BC{P}:∀(c:AZ) {Q Q':AP}{ρ d L},gwp P c Q ρ d L→(∀ρ d L,Q.n ρ d L→Q'.n ρ d L)→(∀i ρ d L,Q.ex i ρ d L→Q'.ex i ρ d L)→
  (∀ρ d L,Q.ret ρ d L→Q'.ret ρ d L)→Q.pan=Q'.pan→gwp P c Q' ρ d L
 |.skip,_,_,_,_,_,h,h1,_,_,_=>h1 _ _ _ h
 |.reg false s,_,_,_,_,_,h,h1,_,_,h4=>by simp only[gwp] at h⊢;rw[←h4];exact Ba h1 s h
 |.reg true s,_,_,_,_,_,h,h1,_,_,h4=>by
  simp only[gwp] at h⊢;obtain⟨d1,Ls,L1,hv,h⟩:=h;exact⟨d1,Ls,L1,hv,by rw[←h4];exact Ba h1 s h⟩
 |.seq a b,_,_,_,_,_,h,h1,h2,h3,h4=>by
  simp only[gwp] at h⊢;exact BC a h (fun ρ d L h=>BC b h h1 h2 h3 h4) h2 h3 h4
 |.cond c a b,_,_,_,_,_,h,h1,h2,h3,h4=>by
  simp only[gwp] at h⊢;obtain⟨t,ht,ha,hb⟩:=h;exact⟨t,ht,fun e=>BC a (ha e) h1 h2 h3 h4,fun e=>BC b (hb e) h1 h2 h3 h4⟩
 |.block id a,_,_,_,_,_,h,h1,h2,h3,h4=>by
  simp only[gwp] at h⊢;refine BC a h h1 (fun i ρ d L h=>?_) h3 h4;simp only at h⊢;split
  ·rename_i e;rw[if_pos e] at h;exact h1 _ _ _ h
  ·rename_i e;rw[if_neg e] at h;exact h2 _ _ _ _ h
 |.loop a,_,_,_,_,_,h,_,h2,h3,h4=>by
  simp only[gwp] at h⊢;obtain⟨I,hI,round⟩:=h;exact⟨I,hI,fun m ρ d L hm=>BC a (round m ρ d L hm) (fun _ _ _ h=>h) h2 h3 h4⟩
 |.exit i,_,_,_,_,_,h,_,h2,_,_=>h2 i _ _ _ h
 |.ret,_,_,_,_,_,h,_,_,h3,_=>h3 _ _ _ h
 |.bad,_,_,_,_,_,h,_,_,_,_=>h.elim
def JH{P}{c:AZ}{Q:AP}{N N':Env→Ah}(hn:∀ρ d L,N ρ d L→N' ρ d L){ρ d L}(h:gwp P c {Q with n:=N} ρ d L):gwp P c {Q with n:=N'} ρ d L:=
 BC c h hn (fun _ _ _ _ h=>h) (fun _ _ _ h=>h) rfl
def Jr{d}{b:Nat}{T l}(h:Le (bx b T l) d):DCs d b 0 l:=
 ⟨l.toArray,T,(0,0),h _ _ (AY _ _),fun i u hu=>by simpa using hu⟩
section
variable {P:Program}{Q:AP}{ρ:Env}{d:Aa}{L:List Aa}
def A6{s}(h:gws P Q.pan Q.n s [] ρ d L):gwp P (.reg false s) Q ρ d L:=h
def Ez{s}(h:gws P Q.pan Q.n s L ρ d []):gwp P (.reg true s) Q ρ d L:=⟨d,L,[],by rw[M9];exact Vs.refl d L,h⟩
def An{a b:AZ}(h:gwp P a {Q with n:=gwp P b Q} ρ d L):gwp P (.seq a b) Q ρ d L:=h
def Av(h:Q.n ρ d L):gwp P .skip Q ρ d L:=h
def As(h:Q.ret ρ d L):gwp P .ret Q ρ d L:=h
def CM{i:Nat}(h:Q.ex i ρ d L):gwp P (.exit i) Q ρ d L:=h
def AK{i:Nat}{a:AZ}(h:gwp P a {Q with ex:=fun j=>if j=i then Q.n else Q.ex j} ρ d L):gwp P (.block i a) Q ρ d L:=h
def BL{a b:AZ}(e:ev ρ c=.bool true)(h:gwp P a Q ρ d L):gwp P (.cond c a b) Q ρ d L:=⟨true,e,fun _=>h,fun e=>by cases e⟩
def Bd{a b:AZ}(e:ev ρ c=.bool false)(h:gwp P b Q ρ d L):gwp P (.cond c a b) Q ρ d L:=⟨false,e,(fun e=>by cases e),fun _=>h⟩
def Bf{a b:AZ}[Decidable p](e:ev ρ c=.bool (decide p))(hp:p)(h:gwp P a Q ρ d L):gwp P (.cond c a b) Q ρ d L:=BL (by rw[e];simp[hp]) h
def A2{a b:AZ}[Decidable p](e:ev ρ c=.bool (decide p))(hp:¬p)(h:gwp P b Q ρ d L):gwp P (.cond c a b) Q ρ d L:=Bd (by rw[e];simp[hp]) h
def Lh{a:AZ}(I:Nat→Env→Ah)(m:Nat)(h0:I m ρ d L)(round:∀m ρ d L,I m ρ d L→gwp P a {Q with n:=fun ρ d L=>∃m',m'<m∧I m' ρ d L} ρ d L):gwp P (.loop a) Q ρ d L:=
 ⟨I,⟨m,h0⟩,round⟩
def AE(ρ:Env):List (Nat×Value)→Prop
 |[]=>True
 |p::l=>ρ p.1=p.2∧AE ρ l
def DQ(ρ:Env):List (Nat×Value)→Env
 |[]=>ρ
 |p::l=>upd (DQ ρ l) p.1 p.2
def Dq{ρ}:∀{l:List (Nat×Value)},AE ρ l→DQ ρ l=ρ
 |[],_=>rfl
 |p::l,⟨h1,h2⟩=>by simp only[DQ];rw[Dq h2];exact GO h1
def Js{c:AZ}(l:List (Nat×Value))(e:AE ρ l)(h:gwp P c Q (DQ ρ l) d L):gwp P c Q ρ d L:=by rwa [Dq e] at h
def AE.app{ρ}:∀{l m:List (Nat×Value)},AE ρ l→AE ρ m→AE ρ (l++m)
 |[],_,_,h=>h
 |_::_,_,⟨h1,h2⟩,h=>⟨h1,h2.app h⟩
def AE.off{X:List Nat}{ρ ρ'}(ho:Off X ρ ρ'):∀{l:List (Nat×Value)},(l.all fun p=> !X.contains p.1)=true→AE ρ l→AE ρ' l
 |[],_,_=>trivial
 |p::l,h,⟨h1,h2⟩=>by
  simp only[List.all_cons,Mr] at h;exact⟨(ho p.1 (fun hm=>by have:=h.1;simp[hm] at this)).trans h1,AE.off ho h.2 h2⟩
def Kd{Qn:Env→Ah}{pan:List PanicEntry→Ah}{Ls β a b s}(keep:List (Nat×Value))(sa:α→List (Nat×Value))(Ia:α→Ah)(sb:β→List (Nat×Value))(Ib:β→Ah)(L1 L2:List Aa)(hv:L=L1++L2)
  (ma:∀x d d' M,Le d d'→Ia x d M→Ia x d' M) (mb:∀x d d' M,Le d d'→Ib x d M→Ib x d' M) (ka:∀x,((sa x).all fun p=> !b.Ar.contains p.1)=true) (kb:∀x,((sb x).all fun p=> !a.Ar.contains p.1)=true)
  (kk:(keep.all fun p=> !(a.Ar++b.Ar).contains p.1)=true) (hk:AE ρ keep)
  (h1:gws P AG (Cb Ls fun ρ d M=>∃x,AE ρ (sa x)∧Ia x d M) a Ls ρ d L1) (h2:gws P AG (Cb Ls fun ρ d M=>∃x,AE ρ (sb x)∧Ib x d M) b Ls ρ d L2)
  (h3:∀x y ρ d' M1 M2,Le d d'→Ia x d' M1→Ib y d' M2→gws P pan Qn s Ls (DQ ρ (sa x++(sb y++keep))) d' (M1++M2)):gws P pan Qn (.par a b s) Ls ρ d L:=by
 refine⟨_,_,d,L1,L2,hv▸Vs.refl d L,?_,?_,h1,h2,fun ρ' d' M1 M2 hl ho ⟨x,hx,ix⟩ ⟨y,hy,iy⟩=>?_⟩
 ·rintro ρ ρ' d d' M ho hl ⟨x,hx,ix⟩
  exact⟨x,hx.off ho (ka x),ma x d d' M hl ix⟩
 ·rintro ρ ρ' d d' M ho hl ⟨x,hx,ix⟩
  exact⟨x,hx.off ho (kb x),mb x d d' M hl ix⟩
 ·have:=h3 x y ρ' d' M1 M2 hl ix iy
  rwa [Dq (hx.app (hy.app (hk.off ho kk)))] at this
def Cz{a:AZ}(slots:α→List (Nat×Value))(inv:α→Aa→List Aa→Prop)(meas:α→Nat)(x0:α)(h0:AE ρ (slots x0))(i0:inv x0 d L)
  (round:∀x ρ d L,inv x d L→gwp P a {Q with n:=fun ρ d L=>∃x',meas x'<meas x∧AE ρ (slots x')∧inv x' d L} (DQ ρ (slots x)) d L):gwp P (.loop a) Q ρ d L:=by
 refine Lh (fun m ρ d L=>∃x,meas x=m∧AE ρ (slots x)∧inv x d L) (meas x0) ⟨x0,rfl,h0,i0⟩ ?_
 rintro m ρ d L ⟨x,rfl,h1,h2⟩
 refine Js _ h1 (JH (fun ρ' d' L' ⟨x',k1,k2,k3⟩=>⟨meas x',k1,x',rfl,k2,k3⟩) (round x ρ d L h2))
def KL{a:AZ}(slots:α→List (Nat×Value))(Lx:α→List Aa)(ok:α→Prop)(meas:α→Nat)(x0:α)(h0:AE ρ (slots x0))(hL:L=Lx x0)(hok:ok x0)
  (round:∀x ρ,ok x→gwp P a {Q with n:=fun ρ d' L'=>∃x',meas x'<meas x∧AE ρ (slots x')∧d'=d∧L'=Lx x'∧ok x'} (DQ ρ (slots x)) d (Lx x)):gwp P (.loop a) Q ρ d L:=
 Cz slots (fun x d' L'=>d'=d∧L'=Lx x∧ok x) meas x0 h0 ⟨rfl,hL,hok⟩ (fun x ρ d' L' ⟨h1,h2,h3⟩=>by subst h1;subst h2;exact round x ρ h3)
def FZ{R}{t:Nat}{L'}(e:ρ t=v)(hs:L'.Sublist L)(h:R (.returned v) d L'):Bq [.tmp t] R ρ d L:=
 ⟨[v],⟨e.symm,trivial⟩,d,L',Vs.drop hs,h⟩
def Kh{R}{t:Nat}(e:ρ t=v)(h:R (.returned v) d []):Bq [.tmp t] R ρ d L:=FZ e (Nc L) h
def G4{R}{t u:Nat}{w L'}(e:ρ t=v)(e':ρ u=w)(hs:L'.Sublist L)(h:R (.returned (.tuple #[v,w])) d L'):Bq [.tmp t,.tmp u] R ρ d L:=
 ⟨[v,w],⟨e.symm,e'.symm,trivial⟩,d,L',Vs.drop hs,h⟩
def Md{R}{t u:Nat}{w}(e:ρ t=v)(e':ρ u=w)(h:R (.returned (.tuple #[v,w])) d []):Bq [.tmp t,.tmp u] R ρ d L:=G4 e e' (Nc L) h
end
end
def Ae{P}{Q:AP}{L s}{b:AZ}(h:gws P Q.pan (gwp P b Q) s [] ρ d L):gwp P (.seq (.reg false s) b) Q ρ d L:=h
section
def BG(P:Program)(f:FuncId)(args:List Value)(d:Aa)(v:Value):Prop:=Aj P f args d [] (Ret fun r d' L'=>r=v∧d'=d∧L'=[])
section
variable {P:Program}{pan:List PanicEntry→Ah}{Qn:Env→Ah}{Ls L:List Aa}{ρ:Env}{d:Aa}{tk:Bool}{s:GS}{t:Nat}
def A8{f args vs}(ea:args.map (ev ρ)=vs)(hc:BG P f vs d v)
  (h:gws P pan Qn s Ls (upd ρ t v) d L):gws P pan Qn (.op false ⟨some t,none,.call f args⟩ s) Ls ρ d L:=
 DL ea hc (fun r d' L' _ ⟨h1,h2,h3⟩=>by subst h1;subst h2;subst h3;exact h)
end
section
variable {P:Program}{pan:List PanicEntry→Ah}{Qn:Env→Ah}{Ls L:List Aa}{ρ:Env}{d:Aa}{tk:Bool}{s:GS}{t:Nat}
end
def GF{ρ d L}{t:Nat}{a b:Bool}(e:ρ t=.bool a)(h:a=b):Bq [.tmp t] (Ret fun r d' L'=>r=.bool b∧d'=d∧L'=[]) ρ d L:=
 Kh e ⟨by rw[h],rfl,rfl⟩
def Dn{ρ d L}{t:Nat}(e:ρ t=v):Bq [.tmp t] (Ret fun r d' L'=>r=v∧d'=d∧L'=[]) ρ d L:=Kh e ⟨rfl,rfl,rfl⟩
def Lq{ρ d L}{t u:Nat}{w}(e:ρ t=v)(e':ρ u=w):Bq [.tmp t,.tmp u] (Ret fun r d' L'=>r=.tuple #[v,w]∧d'=d∧L'=[]) ρ d L:=Md e e' ⟨rfl,rfl,rfl⟩
def RSl{α}(sz:Nat)(R:Aa→List Value→α→Prop)(d:Aa)(v:Value)(xs:List α):Prop:=
 ∃a c b o,v=.slice a xs.length c∧SAd a xs.length b o∧(c≠0→∀a',a=some a'→a'.spot=none)∧(a=none→c=0)∧xs.length≤c∧c≤9223372036854775807∧xs.length≤140737488355328∧
  ∀i (h:i<xs.length),∃cs,cs.length=sz∧DCs d b (o+i*sz) cs∧R d cs xs[i]
def RSl.mono{sz:Nat}{R}(hR:∀{d d' cs x},Le d d'→R d cs x→R d' cs x){d d'}{xs:List α}(h:RSl sz R d v xs)(hl:Le d d'):RSl sz R d' v xs:=
 let ⟨a,c,b,o,h1,h2,h3,h4,h5,h6,h7,h8⟩:=h
 ⟨a,c,b,o,h1,h2,h3,h4,h5,h6,h7,fun i hi=>let ⟨cs,k1,k2,k3⟩:=h8 i hi;⟨cs,k1,k2.mono hl,hR hl k3⟩⟩
def RSl.nil{sz:Nat}{R d}:RSl sz R d (.slice none 0 0) ([]:List α):=
 ⟨none,0,0,0,rfl,fun h=>absurd rfl h,fun _ _ h=>(nomatch h),fun _=>rfl,MR _,by omega,Nat.zero_le _,fun i h=>absurd h (Ns i)⟩
def RSl.DH{sz:Nat}{R d}{xs:List α}(h:RSl sz R d v xs):xs.length≤140737488355328:=
 let ⟨_,_,_,_,_,_,_,_,_,_,h7,_⟩:=h
 h7
def BV(_:Aa)(cs:List Value)(x:UInt8):Prop:=cs=[AO x]
def AT(_:Aa)(cs:List Value)(x:Int):Prop:=cs=[vZ x]∧ -9223372036854775808≤x∧x≤9223372036854775807
def Eg(_:Aa)(cs:List Value)(x:List UInt8):Prop:=cs=[Be x]∧x.length≤140737488355328
def A4(d:Aa)(v:Value)(l:List UInt8):Prop:=RSl 1 BV d v l
def CI(d:Aa)(v:Value)(l:List Int):Prop:=RSl 1 AT d v l
def FJ(d:Aa)(v:Value)(l:List (List UInt8)):Prop:=RSl 1 Eg d v l
def RBs(d:Aa)(cs:List Value)(l:List UInt8):Prop:=∃u,cs=[u]∧A4 d u l
def G8(d:Aa)(v:Value)(l:List (List UInt8)):Prop:=RSl 1 RBs d v l
def A4.DH{d l}(h:A4 d v l):l.length≤140737488355328:=RSl.DH h
def A4.mono{d d' l}(h:A4 d v l)(hl:Le d d'):A4 d' v l:=RSl.mono (fun _ h=>h) h hl
def CI.mono{d d'}{l:List Int}(h:CI d v l)(hl:Le d d'):CI d' v l:=RSl.mono (fun _ h=>h) h hl
def FJ.mono{d d' l}(h:FJ d v l)(hl:Le d d'):FJ d' v l:=RSl.mono (fun _ h=>h) h hl
def G8.mono{d d' l}(h:G8 d v l)(hl:Le d d'):G8 d' v l:=RSl.mono (fun hl ⟨u,h1,h2⟩=>⟨u,h1,h2.mono hl⟩) h hl
section
variable {P:Program}{pan:List PanicEntry→Ah}{Qn:Env→Ah}{Ls L:List Aa}{ρ:Env}{d:Aa}{tk:Bool}{s:GS}{t:Nat}
def K4{sz:Nat}{R}{xs:List α}(ex:ev ρ x=v)(hr:RSl sz R d v xs)(h:gws P pan Qn s Ls (upd ρ t (vZ xs.length)) d L):
  gws P pan Qn (.op tk ⟨some t,none,.len x⟩ s) Ls ρ d L:=by
 obtain⟨a,c,b,o,rfl,_⟩:=hr
 exact BU ex h
def Li{l}(ex:ev ρ x=v)(hr:A4 d v l)(h:gws P pan Qn s Ls (upd ρ t (Be l)) d L):gws P pan Qn (.op tk ⟨some t,none,.b2s x⟩ s) Ls ρ d L:=by
 obtain⟨a,c,b,o,rfl,h2,h3,h4,h5,h6,h7,h8⟩:=hr;refine L8 (b:=b) (o:=o) ex rfl h2 (fun i u hu=>?_) h;obtain⟨hi,rfl⟩:=MA.1 hu;obtain⟨cs,k1,k2,k3⟩:=h8 i hi;have k3:cs=[AO l[i]]:=k3;subst k3;rw[Nat.mul_one] at k2;exact DT k2.one
end
end
end Go.Gk
end
section
namespace Go.Gk
open Go Go.ChangeShapes Go.WideShapes Go.ChangeAt Go.RowKit
variable{W W':World}{apart fresh handsOn again:Bool}
section
def hw(W:World):Aa:=fun b o=>W.heap[b]?=some o
def Ok.hw(W:World):Ok [Gk.hw W] W:=⟨by simp,by simp;exact fun b o h=>h⟩
def GD(hs:Sub (hw W) W'){b:Nat}(hb:b<W.heap.size):W'.heap[b]?=W.heap[b]?:=by
 rw[hs b _ (Array.getElem?_eq_getElem hb),Array.getElem?_eq_getElem hb]
def H8(hs:Sub (hw W) W')(hk:Ak W W')(may:MemPlace→Prop):W.keptBut W' may:=by
 refine⟨hk.os,hk.output,fun i hi=>?_⟩
 rw[GD hs hi];exact(World.keptBut_refl W may).2.2 i hi
def II(hs:Sub (hw W) W'):∀(p:MemPlace),p.block<W.heap.size→W.sameAt W' p
 |.cell b o,h=>by
  have:=GD hs (b:=b) h;simp only[World.sameAt,World.cell?,this]
 |.map b,h=>GD hs h
def IE(hs:Sub (hw W) W'){a:Addr}(h:a.block<W.heap.size):W'.frozen? a=W.frozen? a:=by
 simp only[World.frozen?,GD hs h]
section
variable {H:Type}{enc:TypeId×Value→H}{P:Program}
def Gi(hl:laidOutB P=true){sp:Nat→Bool}:∀{ts:List TypeId}{vs}{ds:List (DataW H)}{ps:List MemPlace},(ts.all fun t=>P.readableRec t && decide (t<P.types.size))=true→
  DataW.TrodAll enc P W 0 (fun _=>true) true ts vs ds ps→(∀p∈ps,W.sameAt W' p)→(∀p∈ps,sp p.block=true)→DataW.TrodAll enc P W' 0 sp true ts vs ds ps
 |[],[],[],_,_,h,_,_=>h
 |t::ts,_::_,_::_,_,hr,⟨p,q,h1,h2,e⟩,hsame,hsp=>by
  simp only[List.all_cons,Mr,decide_eq_true_eq] at hr;exact⟨p,q,WideElems.Trod_stays hl hr.1.1 hr.1.2 h1 (fun x hx=>hsame x (by rw[e];exact Nv _ hx)) (fun x hx=>hsp x (by rw[e];exact Nv _ hx)),
   Gi hl hr.2 h2 (fun x hx=>hsame x (by rw[e];exact Nr _ hx)) (fun x hx=>hsp x (by rw[e];exact Nr _ hx)),e⟩
def IY{fn:Func}{s:ChangeSpec}{args:Array Value}{ds gs:List (DataW H)}{before:List MemPlace}
  (hl:laidOutB P=true) (hp:(fn.params.toList.all fun t=>P.readableRec t && decide (t<P.types.size))=true)
  (hW:DataW.Whole enc P fn.params.toList s.vars apart W args.toList ds gs before) (hv:s.vars=[])
  (hs:s.fn H (ds++gs)={results:=[.lit (.bool true)],args:=ds}) {tb}(ht:fn.resultTypes= #[tb]) (hb:P.underlying tb=some .bool)
  (hsub:Sub (hw W) W') (hk:Ak W W'):s.post enc P fn apart fresh handsOn again W args (.bool true) W':=by
 have hlt:=hW.lt
 have hres:∀(b:Nat) (sp:Nat→Bool) (hd:Bool),DataW.TrodAll enc P W' b sp hd fn.resultTypes.toList ((Value.bool true).resultList fn.resultTypes.size) (s.fn H (ds++gs)).results []:=by
  intro b sp hd;rw[hs,ht];exact trodAll_cons_mk (shut_bool hb true) trodAll_mk0
 have hW':=hW
 obtain⟨p,q,hA,hV,rfl,hz,hn⟩:=hW'
 rw[hv] at hV
 obtain⟨hg0,rfl⟩:=trodVars_none hV
 have hargs:∀sp:Nat→Bool,(∀x∈p++[],sp x.block=true)→DataW.TrodAll enc P W' 0 sp true fn.params.toList args.toList (s.fn H (ds++gs)).args p:=by
  intro sp h;rw[hs];exact Gi hl hp hA (fun x hx=>II hsub x (hlt x (by simpa using hx))) (fun x hx=>h x (by simpa using hx))
 have hvars:∀sp:Nat→Bool,DataW.TrodVars enc P W' sp s.vars (s.fn H (ds++gs)).vars []:=by
  intro sp;rw[hs,hv];rfl
 have hok:∀(j:Nat) (t:TypeId) (r:Value),fn.resultTypes[j]?=some t→((Value.bool true).resultList fn.resultTypes.size)[j]?=some r→Value.okWide P W' .any 0 t r:=
  ok_one ht rfl (okWide_bool_mk hb true)
 refine⟨ds,gs,p++[],[],p,[],hW,hres _ _ _,hargs _ (fun x hx=>by simpa using hlt x hx),hvars _,H8 hsub hk _,fun _=>?_⟩
 refine⟨hok,_,_,([]++p)++[],⟨[]++p,[],trodAll_append (hargs _ (fun _ _=>rfl)) (hres _ _ _),hvars _,rfl,?_,?_⟩,?_⟩
 ·intro b off hp
  rw[IE hsub (by have:=hlt _ (by simpa using hp);exact this)]
  exact hz b off (by simpa using hp)
 ·intro ha
  simpa using hn ha
 ·intro x hx _
  simpa using hx
def Ij{f}{fn:Func}{s:ChangeSpec}{args:Array Value}{ds gs:List (DataW H)}{before:List MemPlace}
  (hl:laidOutB P=true) (hp:(fn.params.toList.all fun t=>P.readableRec t && decide (t<P.types.size))=true)
  (hW:DataW.Whole enc P fn.params.toList s.vars apart W args.toList ds gs before) (hv:s.vars=[])
  (hs:s.fn H (ds++gs)={results:=[.lit (.bool true)],args:=ds}) {tb}(ht:fn.resultTypes= #[tb]) (hb:P.underlying tb=some .bool)
  (hc:Aj P f args.toList (hw W) [] (Ret fun v _ _=>v=.bool true)):
  Calls P f args W fun e W'=>∃v,e=.returned v∧s.post enc P fn apart fresh handsOn again W args v W':=by
 have:=hc.2 [] W (by simpa using Ok.hw W)
 rw[show args.toList.toArray=args from by simp] at this
 refine this.mono fun e W' ⟨d',L',h1,h2,h3,h4⟩=>?_
 cases e with
 |returned v=>
  have hv':v=.bool true:=h4
  subst hv'
  exact⟨_,rfl,IY hl hp hW hv hs ht hb (h1.head.le h2) h3⟩
 |panicked c=>exact h4.elim
 |outgrown=>exact h4.elim
end
end
end Go.Gk
end
section
namespace Go.Gk
open Go
variable{v:Value}
section
def AJ(sz:Nat)(v:Value)(n:Nat)(xs:List Value)(h:Aa):Prop:=
 xs.length=n*sz∧n≤140737488355328∧((v=.slice none 0 0∧n=0∧h=emp)∨
  ∃b T l c,v=.slice (some ⟨b,0,none⟩) n c∧h=bx b T l∧n≤c∧c≤9223372036854775807∧c*sz≤l.length∧l.take xs.length=xs)
def AJ.nil(sz:Nat):AJ sz (.slice none 0 0) 0 [] emp:=⟨by simp,by omega,.inl ⟨rfl,rfl,rfl⟩⟩
def AJ.mk{sz n c b:Nat}{T l xs}(h1:xs.length=n*sz)(h2:n≤140737488355328)(h3:n≤c)(h4:c≤9223372036854775807)(h5:c*sz≤l.length)(h6:l.take xs.length=xs):
  AJ sz (.slice (some ⟨b,0,none⟩) n c) n xs (bx b T l):=⟨h1,h2,.inr ⟨b,T,l,c,rfl,rfl,h3,h4,h5,h6⟩⟩
def AJ.lit{sz n b:Nat}{T l}(h1:l.length=n*sz)(h2:n≤140737488355328):AJ sz (.slice (some ⟨b,0,none⟩) n n) n l (bx b T l):=
 AJ.mk h1 h2 (MR n) (by omega) (by rw[h1];exact MR _) (by simp)
def AJ.slice{sz n:Nat}{xs h}(o:AJ sz v n xs h):∃a b c,v=.slice a n c∧SAd a n b 0∧n≤c∧(c≠0→∀a',a=some a'→a'.spot=none)∧(a=none→c=0)∧c≤9223372036854775807∧
  ∀i u,xs[i]?=some u→∀d Lk,h∈Lk→HC d Lk ⟨b,i,none⟩ u:=by
 obtain⟨h1,h2,⟨rfl,rfl,rfl⟩|⟨b,T,l,c,rfl,rfl,h3,h4,h5,h6⟩⟩:=o
 ·refine⟨none,0,0,rfl,fun h=>absurd rfl h,MR 0,(fun _ _ h=>nomatch h),fun _=>rfl,by omega,fun i u hu=>?_⟩
  have:xs=[]:=MM (by simpa using h1)
  subst this;simp at hu
 ·refine⟨_,b,c,rfl,SAd.some n b 0,h3,(fun _ _ h=>by cases h;rfl),(fun h=>nomatch h),h4,fun i u hu d Lk hk=>⟨rfl,bx b T l,.inr hk,l.toArray,T,(0,0),AY _ _,?_⟩⟩
  have hi:i<xs.length:=(MA.1 hu).1
  rw[←h6] at hu
  rw[MK (by omega)] at hu
  simpa using hu
def Vs.put{d h h' L}{i:Nat}(hi:L[i]?=some h):Vs d (h'::L) d (L.set i h'):=by
 obtain⟨A,B,rfl,e2⟩:=B5 hi h';rw[e2];refine(Vs.perm (L':=h::(A++h'::B)) ?_).trans (Vs.drop (MU _ _));refine(My h' List.perm_middle).trans ((ML h h' _).trans (My h List.perm_middle.symm))
def RdX(d:Aa)(Lk:List Aa)(v:Value)(m sz:Nat)(news:List Value):Prop:=
 ∃a c,v=.slice a m c∧news.length=m*sz∧(a=none→news=[])∧∀a',a=some a'→∀i u,news[i]?=some u→HC d Lk (a'.add i) u
def RdX.lit{d Lk}{b n c sz:Nat}{T l}(i:Nat)(hi:Lk[i]?=some (bx b T l))(hl:l.length=n*sz):RdX d Lk (.slice (some ⟨b,0,none⟩) n c) n sz l:=
 ⟨_,c,rfl,hl,(fun h=>nomatch h),fun a' h j u hu=>by cases h;rw[Addr.add_lit,Nj];exact A5 i hi hu⟩
def AJ.rdx{sz n:Nat}{xs h d Lk}(o:AJ sz v n xs h)(hk:h∈Lk):RdX d Lk v n sz xs:=by
 have hl:=o.1;obtain⟨a,b,c,rfl,h2,h3,h4,h5,h6,h7⟩:=o.slice;refine⟨a,c,rfl,hl,?_,?_⟩
 ·intro e;cases xs with
  |nil=>rfl
  |cons u us=>
   have:n≠0:=by rintro rfl;simp at hl
   rw[h2 this] at e;cases e
 ·intro a' ha i u hu;have:n≠0:=by
   rintro rfl;have:xs=[]:=MM (by simpa using hl);subst this;simp at hu
  have e:=h2 this;rw[ha] at e;cases e;rw[Addr.add_lit,Nj];exact h7 i u hu d Lk hk
section
variable {P:Program}{pan:List PanicEntry→Ah}{Qn:Env→Ah}{Ls L:List Aa}{ρ:Env}{d:Aa}{s:GS}{t:Nat}
def IN{sz by_:Nat}{z x y}(i:Nat){n m:Nat}{xs news h}(ex:ev ρ x=v)(hi:L[i]?=some h)(ho:AJ sz v n xs h)
  {w}(ey:ev ρ y=w) (hx:RdX d (Ls++L++L) w m sz news) (h1:(news.all (·.oneCell'))=true) (_hsz:0<sz) (hm:n+m≤140737488355328) (hb:(n+m)*by_≤140737488355328)
  (k:∀v' h',AJ sz v' (n+m) (xs++news) h'→∃d2 L2,Vs d (L.set i h') d2 L2∧gws P pan Qn s Ls (upd ρ t v') d2 L2):gws P pan Qn (.op false ⟨some t,none,.app sz by_ z x y⟩ s) Ls ρ d L:=by
 obtain⟨xa,xc,rfl,hl,hx0,hxc⟩:=hx
 have hxl:=ho.1
 have hlen:(xs++news).length=(n+m)*sz:=by rw[MH,hxl,hl,MT]
 refine⟨d,L,Vs.refl d L,?_⟩
 simp only[gop,gi,maxLen]
 obtain⟨h2,h3,⟨rfl,rfl,rfl⟩|⟨b,T,l,c,rfl,rfl,h4,h5,h6,h7⟩⟩:=ho
 ·have hxs:xs=[]:=MM (by simpa using hxl)
  subst hxs
  refine⟨none,0,0,xa,m,xc,news,ex,ey,hl,h1,hx0,hxc,by omega,by omega,fun hle=>.inl ?_,fun hlt=>⟨by simpa using hb,[],by simp,fun _=>rfl,(fun _ h=>nomatch h),fun b T c' hc1 hc2=>?_⟩⟩
  ·have hm0:m=0:=by omega
   subst hm0
   have hn:news=[]:=MM (by simpa using hl)
   subst hn
   obtain⟨d2,L2,hv,hg⟩:=k (.slice none 0 0) emp (by simpa using AJ.nil sz)
   have e:L.set i emp=L:=by
    obtain⟨hlt,he⟩:=MA.1 hi;rw[←he];simp
   rw[e] at hv
   exact⟨rfl,d2,L2,hv,by simpa [put] using hg⟩
  ·have o:AJ sz (.slice (some ⟨b,0,none⟩) (0+m) c') (0+m) ([]++news) (bx b T (news++Aw z ((c' - (0+m))*sz))):=by
    refine AJ.mk hlen hm (by omega) hc2 ?_ ?_
    ·simp only[MH,hl,Aw,Ny,List.length_range];rw[←MT];exact Nat.le_of_eq (by congr 1;omega)
    ·simp
   obtain⟨d2,L2,hv,hg⟩:=k _ _ o
   exact⟨d2,L2,(Vs.put hi).trans hv,by simpa [put] using hg⟩
 ·refine⟨_,n,c,xa,m,xc,news,ex,ey,hl,h1,hx0,hxc,by omega,h5,fun hle=>.inr ⟨i,b,0,T,l,rfl,hi,?_,?_⟩,fun hlt=>⟨hb,xs,hxl,(fun h=>nomatch h),fun a' ha j u hu=>?_,fun b' T' c' hc1 hc2=>?_⟩⟩
  ·rw[Nj];exact Nat.le_trans (MF sz hle) h6
  ·have h8:(n+m)*sz≤l.length:=Nat.le_trans (MF sz hle) h6
   rw[MT] at h8
   refine k (.slice (some ⟨b,0,none⟩) (n+m) c) (bx b T (patch l (0+n*sz) news)) (AJ.mk hlen hm hle h5 ?_ ?_)
   ·simp only[patch,MH,MW,Nn]
    have:=hl
    omega
   ·rw[hlen,MT]
    have e1:l.take (n*sz)=xs:=by rw[←hxl];exact h7
    simp only[patch,Nj,e1]
    rw[←hl,←hxl,←MH]
    exact List.take_left
  ·cases ha
   rw[Addr.add_lit,Nj]
   refine⟨rfl,bx b T l,.inr (Nr _ (Nh hi)),l.toArray,T,(0,0),AY _ _,?_⟩
   have hj:j<xs.length:=(MA.1 hu).1
   rw[←h7] at hu
   rw[MK (by omega)] at hu
   simpa using hu
  ·have o:AJ sz (.slice (some ⟨b',0,none⟩) (n+m) c') (n+m) (xs++news) (bx b' T' (xs++news++Aw z ((c' - (n+m))*sz))):=by
    refine AJ.mk hlen hm hc1 hc2 ?_ ?_
    ·simp only[MH,hxl,hl,Aw,Ny,List.length_range];rw[←MT,←MT];exact Nat.le_of_eq (by congr 1;omega)
    ·exact List.take_left
   obtain⟨d2,L2,hv,hg⟩:=k _ _ o
   exact⟨d2,L2,(Vs.put hi).trans hv,by simpa [put] using hg⟩
def LZ{sz by_:Nat}{z x y}(i:Nat){n m:Nat}{xs news h}(ex:ev ρ x=v)(hi:L[i]?=some h)(ho:AJ sz v n xs h)
  {w}(ey:ev ρ y=w) (hx:RdX d (Ls++L++L) w m sz news) (h1:(news.all (·.oneCell'))=true) (hsz:0<sz) (hm:n+m≤140737488355328) (hb:(n+m)*by_≤140737488355328)
  (k:∀v' h',AJ sz v' (n+m) (xs++news) h'→gws P pan Qn s Ls (upd ρ t v') d (L.set i h')):gws P pan Qn (.op false ⟨some t,none,.app sz by_ z x y⟩ s) Ls ρ d L:=
 IN i ex hi ho ey hx h1 hsz hm hb (fun v' h' o=>⟨d,_,Vs.refl _ _,k v' h' o⟩)
end
def AJ.dcs{sz n:Nat}{xs h d}(o:AJ sz v n xs h)(hl:Le h d):∃a b c,v=.slice a n c∧SAd a n b 0∧n≤c∧(c≠0→∀a',a=some a'→a'.spot=none)∧(a=none→c=0)∧c≤9223372036854775807∧
  (xs≠[]→∃(l:Array Value) (T:TypeId) (fr:Nat×Nat),d b (.cells l T fr)∧∀(i:Nat) (u:Value),xs[i]?=some u→l[i]?=some u):=by
 obtain⟨h1,h2,⟨rfl,rfl,rfl⟩|⟨b,T,l,c,rfl,rfl,h3,h4,h5,h6⟩⟩:=o
 ·have:xs=[]:=MM (by simpa using h1)
  subst this
  exact⟨none,0,0,rfl,fun h=>absurd rfl h,MR 0,(fun _ _ h=>nomatch h),fun _=>rfl,by omega,fun h=>absurd rfl h⟩
 ·refine⟨_,b,c,rfl,SAd.some n b 0,h3,(fun _ _ h=>by cases h;rfl),(fun h=>nomatch h),h4,fun _=>⟨l.toArray,T,(0,0),hl _ _ (AY _ _),fun i u hu=>?_⟩⟩
  have hi:i<xs.length:=(MA.1 hu).1
  rw[←h6] at hu
  rw[MK (by omega)] at hu
  simpa using hu
def AJ.rsl{α}{sz n:Nat}{R cs}{xs:List α}{h d}(o:AJ sz v n cs h)(hl:Le h d)(hn:n=xs.length)(hsz:0<sz)
  (hR:∀i (hi:i<xs.length),R d ((cs.drop (i*sz)).take sz) xs[i]):RSl sz R d v xs:=by
 have h1:=o.1
 have h2:=o.2.1
 obtain⟨a,b,c,rfl,k1,k2,k3,k4,k5,k6⟩:=o.dcs hl
 subst hn
 refine⟨a,c,b,0,rfl,k1,k3,k4,k2,k5,h2,fun i hi=>⟨(cs.drop (i*sz)).take sz,?_,?_,hR i hi⟩⟩
 ·have:(i+1)*sz≤xs.length*sz:=MF sz hi
  rw[MT] at this
  simp only[MW,Nn,h1]
  omega
 ·have:cs≠[]:=by
   rintro rfl;have h3:(i+1)*sz≤xs.length*sz:=MF sz hi;have h4:xs.length*sz=0:=by rw[←h1];rfl
   rw[MT,Nk] at h3;omega
  obtain⟨l,T,fr,e1,e2⟩:=k6 this
  refine⟨l,T,fr,e1,fun j u hu=>?_⟩
  rw[List.getElem?_take] at hu
  split at hu
  ·rw[No] at hu
   rw[Nj]
   exact e2 _ _ hu
  ·cases hu
def AJ.Mp{α}{n:Nat}{R cs}{xs:List α}{h d}(o:AJ 1 v n cs h)(hl:Le h d)(hn:n=xs.length)
  (hR:∀i (hi:i<xs.length),∃u,cs[i]?=some u∧R d [u] xs[i]):RSl 1 R d v xs:=by
 refine o.rsl hl hn (by omega) (fun i hi=>?_)
 obtain⟨u,hu,hr⟩:=hR i hi
 have:(cs.drop (i*1)).take 1=[u]:=by
  rw[Nat.mul_one];obtain⟨hlt,he⟩:=MA.1 hu;rw[M5 hlt,he];rfl
 rw[this];exact hr
def AJ.bytes{n:Nat}{xs h d}(o:AJ 1 v n (xs.map AO) h)(hl:Le h d):A4 d v xs:=by
 have hn:=o.1;refine o.Mp hl (by simpa using hn.symm) (fun i hi=>⟨AO xs[i],by simp[hi],rfl⟩)
def RSl.rdx{α R d}{xs:List α}{f:α→Value}(h:RSl 1 R d v xs)(hf:∀cs x,R d cs x→cs=[f x])(Lk:List Aa):RdX d Lk v xs.length 1 (xs.map f):=by
 obtain⟨a,c,b,o,rfl,h2,h3,h4,h5,h6,h7,h8⟩:=h;refine⟨a,c,rfl,by simp,?_,?_⟩
 ·intro e;cases xs with
  |nil=>rfl
  |cons u us=>have:=h2 (by simp);rw[e] at this;cases this
 ·intro a' ha i u hu;have hi:i<xs.length:=by
   have:=(MA.1 hu).1;simpa using this
  have e:=h2 (by omega);rw[ha] at e;cases e;obtain⟨cs,k1,k2,k3⟩:=h8 i hi;have:=hf _ _ k3;subst this;rw[List.getElem?_map,Mt hi] at hu;simp only[Option.map_some,Option.some.injEq] at hu;subst hu;rw[Nat.mul_one] at k2;rw[Addr.add_lit];exact DT k2.one
def A4.rdx{d xs}(h:A4 d v xs)(Lk:List Aa):RdX d Lk v xs.length 1 (xs.map AO):=RSl.rdx h (fun _ _ h=>h) Lk
def CI.rdx{d}{xs:List Int}(h:CI d v xs)(Lk:List Aa):RdX d Lk v xs.length 1 (xs.map (Value.int .i64)):=RSl.rdx h (fun _ _ h=>h.1) Lk
def FJ.rdx{d xs}(h:FJ d v xs)(Lk:List Aa):RdX d Lk v xs.length 1 (xs.map Be):=RSl.rdx h (fun _ _ h=>h.1) Lk
end
end Go.Gk
end
section
namespace Go.Gk
open Go Go.ChangeShapes Go.WideShapes Go.ChangeAt Go.RowKit
section
variable {H:Type}{enc:TypeId×Value→H}{P:Program}{W:World}
def Rd(enc:TypeId×Value→H)(P:Program)(W:World)(t:TypeId){α}(R:Aa→List Value→α→Prop):Prop:=
 ∀(held:Bool) (fuel:Nat) (cs:List Value) (x:DataW H×List MemPlace),DataW.trod enc P W 0 (fun _=>true) held fuel t cs=some x→(∀n∈x.1.weights P t,n≤reachBytes)→∃a:α,R (hw W) cs a
def JN{n:Nat}(h:n≤reachBytes):n≤140737488355328:=Nat.le_of_lt (Nat.lt_of_le_of_lt h (by decide))
def Kr{t}(ht:P.underlying t=some (.int .u8)):Rd enc P W t BV:=by
 intro held fuel cs x h _;obtain⟨n,h1,h2,h3⟩:=DataW.trod_int ht h;have hb:=bounds_u8 h3;refine⟨UInt8.ofNat n.toNat,?_⟩
 subst h1;simp only[BV,AO,List.cons.injEq,Value.int.injEq,true_and,and_true];have:n.toNat<256:=by omega
 simp[Nat.mod_eq_of_lt this];omega
def Lm{t}(ht:P.underlying t=some (.int .i64)):Rd enc P W t AT:=by
 intro held fuel cs x h _;obtain⟨n,h1,h2,h3⟩:=DataW.trod_int ht h;have hb:=bounds_i64 h3;exact⟨n,h1,hb.1,hb.2⟩
def F0{a:Addr}{v}(h:W.cell? a=some v):a.spot=none∧DC (hw W) a.block a.off v:=by
 refine⟨Ge h,?_⟩
 unfold World.cell? at h;split at h
 ·rename_i c T fr hb;split at h
  ·cases h
  ·exact⟨c,T,fr,hb,h⟩
 ·cases h
def Fa{a:Addr}{n:Nat}{cs}(h:W.cells? 0 a n=some cs)(hn:0<n):a.spot=none∧cs.length=n∧DCs (hw W) a.block a.off cs:=by
 unfold World.cells? at h;rw[if_pos (Nat.zero_le _)] at h;have hl:cs.length=n:=by simpa using mapM_some_length h
 have one:∀i,i<n→∀u,cs[i]?=some u→W.cell? (a.add i)=some u:=by
  intro i hi u hu;have:=mapM_some_get h i i (by simp[hi]);rw[this,hu]
 have hs:a.spot=none:=by
  have:=one 0 hn cs[0] (Mt (by omega));rw[add_zero] at this;exact(F0 this).1
 obtain⟨b,o,s⟩:=a;simp only at hs;subst hs;have h0:=one 0 hn cs[0] (Mt (by omega));rw[Addr.add_lit] at h0;obtain⟨_,c,T,fr,hb,_⟩:=F0 h0;refine⟨rfl,hl,c,T,fr,hb,fun i u hu=>?_⟩
 have hi:i<n:=by have:=(MA.1 hu).1;omega
 have:=one i hi u hu;rw[Addr.add_lit] at this;obtain⟨_,c',T',fr',hb',hc'⟩:=F0 this;simp only[Gk.hw] at hb hb';rw[hb] at hb';cases hb';exact hc'
def J0{t e:TypeId}{sz:Nat}{α:Type}{R:Aa→List Value→α→Prop}(ht:P.underlying t=some (.slice e))(hc:P.cellsOf e=sz)(hsz:0<sz)(hb:1≤P.bytesOf e)(he:Rd enc P W e R):
  Rd enc P W t (fun d cs (xs:List α)=>∃v,cs=[v]∧RSl sz R d v xs):=by
 subst hc
 intro held fuel cs x h hw
 rcases DataW.trod_slice ht h with ⟨rfl,rfl⟩|⟨a,len,cap,elems,rest,n,rfl,rfl,rfl,_,hlc,hcm,hlen,hel,hsp,_⟩
 ·exact⟨[],_,rfl,RSl.nil⟩
 ·have hwt:(elems.length+rest.length)*P.bytesOf e≤reachBytes:=hw _ (by simp[DataW.weights,ht])
  obtain⟨hrl,hre⟩:=hsp rfl
  have hcap:cap≤140737488355328:=by
   have h1:(elems.length+rest.length)*1≤(elems.length+rest.length)*P.bytesOf e:=Nat.mul_le_mul_left _ hb;have h2:=JN (Nat.le_trans h1 hwt);omega
  have one:∀i (hi:i<len),∃u:α,∃cs,cs.length=P.cellsOf e∧a.spot=none∧DCs (Gk.hw W) a.block (a.off+i*P.cellsOf e) cs∧R (Gk.hw W) cs u:=by
   intro i hi;have h1:=hel i hi;have hi':i<elems.length:=by omega
   rw[Mt hi',MB] at h1;obtain⟨cs,h2,h3⟩:=h1;obtain⟨k1,k2,k3⟩:=Fa h2 hsz;have hmem:∀(l:List (DataW H)) (y:DataW H),y∈l→∀n∈y.weights P e,n∈DataW.weightsAll P e l:=by
    intro l;induction l with
    |nil=>intro y hy;cases hy
    |cons z l ih=>
     intro y hy n hn
     simp only[DataW.weightsAll,Mw]
     rcases MO.1 hy with rfl|hy
     ·exact .inl hn
     ·exact .inr (ih y hy n hn)
   obtain⟨u,hu⟩:=he held n cs elems[i] h3 (fun m hm=>hw m (by
    simp only[DataW.weights,ht,MO,Mw];exact .inr (.inl (hmem _ _ (List.mem_map.2 ⟨elems[i],List.getElem_mem hi',rfl⟩) m hm))))
   have hs:a.spot=none:=by
    obtain⟨b,o,s⟩:=a;by_cases h0:i*P.cellsOf e=0
    ·rw[h0,add_zero] at k1;exact k1
    ·have:=hel 0 (by omega);rw[Mt (by omega),MB] at this;obtain⟨cs',h2',_⟩:=this;rw[Nat.zero_mul,add_zero] at h2';exact(Fa h2' hsz).1
   obtain⟨b,o,s⟩:=a;simp only at hs;subst hs;rw[Addr.add_lit] at k3;exact⟨u,cs,k2,rfl,k3,hu⟩
  have hspot:cap≠0→a.spot=none:=by
   intro h0;by_cases h1:0<len
   ·obtain⟨_,_,_,hs,_⟩:=one 0 h1;exact hs
   ·have:=hre 0 (by omega);have hl0:len=0:=by omega
    rw[Mt (by omega),MB] at this;obtain⟨cs',h2',_⟩:=this;rw[hl0,Nj,Nat.zero_mul,add_zero] at h2';exact(Fa h2' hsz).1
  refine⟨List.ofFn (n:=len) fun i=>(one i i.isLt).choose,_,rfl,some a,cap,a.block,a.off,?_,?_,fun h0 a' ha=>?_,(fun h=>nomatch h),?_,by omega,?_,?_⟩
  ·simp
  ·intro h0
   have h0':len≠0:=by simpa using h0
   have:=hspot (by omega)
   obtain⟨b,o,s⟩:=a;simp only at this;subst this;rfl
  ·cases ha;exact hspot h0
  ·simpa using hlc
  ·simp;omega
  ·intro i hi
   have hi':i<len:=by simpa using hi
   obtain⟨cs,k1,_,k3,k4⟩:=(one i hi').choose_spec
   exact⟨cs,k1,k3,by simpa using k4⟩
def EY{ts:List TypeId}{ds:List (DataW H)}(h:(DataW.weightsEach P ts ds).all (·≤reachBytes)=true){j:Nat}{t}{d:DataW H}(ht:ts[j]?=some t)(hd:ds[j]?=some d):∀n∈d.weights P t,n≤reachBytes:=by
 intro n hn;simpa using Mx.1 h _ (DataW.weights_mem_each ht hd n hn)
def IL{t α R}(hr:Rd enc P W t R){v}{d:DataW H}{ps:List MemPlace}(h:DataW.Trod enc P W 0 (fun _=>true) true t v d ps)
  (hw:∀n∈d.weights P t,n≤reachBytes):∃a:α,R (Gk.hw W) v.cells.toList a:=by
 obtain⟨fuel,hf⟩:=h
 exact hr true fuel _ _ hf hw
def IS{base:Nat}{r:Reach}{t e:TypeId}{sz:Nat}{α:Type}{R:Aa→List Value→α→Prop}(ht:P.underlying t=some (.slice e))(hc:P.cellsOf e=sz)(hsz:0<sz)(hb:1≤P.bytesOf e)(he:Rd enc P W e R)
  {v:Value}{d:DataW H}{ps:List MemPlace}(hok:Value.okWide P W r base t v) (h:DataW.Trod enc P W 0 (fun _=>true) true t v d ps) (hw:∀n∈d.weights P t,n≤reachBytes):∃xs:List α,RSl sz R (Gk.hw W) v xs:=by
 obtain⟨a,len,cap,rfl⟩:=okWide_slice ht hok
 obtain⟨xs,v',e1,h2⟩:=IL (J0 ht hc hsz hb he) h hw
 have e1:[Value.slice a len cap]=[v']:=e1
 cases e1
 exact⟨xs,h2⟩
def Ks{base:Nat}{r:Reach}{t}(ht:P.underlying t=some (.int .i64)){v}{d:DataW H}{ps:List MemPlace}(hok:Value.okWide P W r base t v)(h:DataW.Trod enc P W 0 (fun _=>true) true t v d ps)
  (hw:∀n∈d.weights P t,n≤reachBytes):∃k:Int,v=vZ k∧ -9223372036854775808≤k∧k≤9223372036854775807:=by
 obtain⟨n,rfl⟩:=okWide_int ht hok
 obtain⟨x,e,h2⟩:=IL (Lm ht) h hw
 have e:[Value.int .i64 n]=[vZ x]:=e
 cases e
 exact⟨n,rfl,h2⟩
end
end Go.Gk
namespace Go.Gk
end Go.Gk
end
section
namespace Go.Gk
open Go
section
def FW(r:Option Nat):Fence:={Fence.wide with round:=r}
def H0{r:Option Nat}{P}{m m':Machine}:StepsIn (Machine.fenced P (FW r)) P m m'↔Steps P m m':=
 ⟨StepsIn.steps,fun h=>(StepsIn.of_steps h).mono fun m _=>fenced_wide P m⟩
def HR{r:Option Nat}{n:Nat}{P f}{args:Array Value}{w}{R:Ending→World→Prop}(h:Calls P f args w R):CallsIn (FW r) n P f args w R:=by
 cases r with
 |none=>exact callsIn_wide.2 h
 |some l=>exact(callsIn_wide.2 h).inRound l
def Cg:Op→Bool|.defer _=>true|_=>false
section
variable {P:Program}{r:Option Nat}{n:Nat}
def LS{o:Oper}{a:Act}{w next Q}(hnd:Cg o.op=false)(h:o.wp P a w next Q):o.wpIn (FW r) n P a w next Q:=by
 refine⟨fun _ _=>trivial,?_⟩
 unfold Oper.wp at h;have e:o.semAt (FW r).round a.eval=execOp a.eval o:=Oper.semAt_eq _ _ _ (fun c hc=>by rw[hc] at hnd;cases hnd);rw[e];generalize (execOp a.eval o).run P w=res at h⊢;cases res with
 |ok x w'=>
  cases x<;>simp only[Oper.upon,Oper.uponIn] at h⊢<;>
   first
    |exact h
    |exact⟨fun h=>by simp[FW,Fence.wide] at h,HR h⟩
    |exact⟨fun h=>by simp[FW,Fence.wide] at h,fun c cs _=>let ⟨v,w1,hr,hs⟩:=h c cs;⟨v,w1,hr,H0.2 hs⟩⟩
 |halt x w'=>cases x<;>simp only[Oper.upon,Oper.uponIn] at h⊢<;>exact h
def C5{ops Q}(hQ:¬LetsOut Q)(hnd:∀(i:Nat) (o:Oper),ops[i]?=some o→Cg o.op=false):∀(l:List Nat) (a:Act) (w:World),wpOps P ops Q l a w→wpOpsIn (FW r) n P ops Q l a w
 |[],_,_,h=>h
 |i::l,a,w,h=>by
  simp only[wpOps,wpOpsIn] at h⊢;cases ho:ops[i]? with
  |none=>rw[ho] at h;exact C5 hQ hnd l a w h
  |some o=>
   rw[ho] at h
   simp only at h⊢
   split
   ·rename_i hw
    rw[if_pos hw] at h
    rcases h with h|⟨_,h⟩
    ·exact Oper.wpIn_mono (fun a w h=>C5 hQ hnd l a w h) (LS (hnd i o ho) h)
    ·exact absurd h hQ
   ·rename_i hw
    rw[if_neg hw] at h
    exact⟨fun _ _=>trivial,C5 hQ hnd l _ w h⟩
end
def CJ:Code→Bool
 |.region _ ops _=>ops.all fun o=> !Cg o.op
 |.seq a b=>CJ a && CJ b
 |.cond _ a b=>CJ a && CJ b
 |.block _ a=>CJ a
 |.loop a=>CJ a
 |.skip|.exit _|.ret=>true
 |_=>false
def Df{n:Nat}{ds F W0 d0}{Q:AP}:¬LetsOut (lift n ds F W0 d0 Q):=fun⟨_,_,h⟩=>h
def I6{ops:Array Oper}(h:(ops.all fun o=> !Cg o.op)=true)(i:Nat)(o:Oper)(ho:ops[i]?=some o):Cg o.op=false:=by
 rw[Array.all_eq_true] at h;obtain⟨hi,rfl⟩:=Array.getElem?_eq_some_iff.1 ho;simpa using h i hi
end
end Go.Gk
end
section
namespace Go.Gk
open Go Go.Conc
variable{P:Program}{Q:AP}{d:Aa}{L F:List Aa}{W0:World}{yl:Bool}
inductive Bz where
 |g (c:AZ)
 |seq (a b:Bz)
 |cond (c:Operand) (a b:Bz)
 |block (id:Nat) (a:Bz)
 |loop (a:Bz)
 |yl (pre:GS) (dst:Option Nat) (f:Operand) (args:List Operand) (post:GS)
 |snd (pre:GS) (dst:Option Nat) (ch x:Operand) (post:GS)
 |sel (pre:GS) (dst:Option Nat) (ch:Operand) (zero:Value) (post:GS)
 |rf (f:Operand) (ps:List Nat) (as bd:AZ)
 |bad
structure Ke (P:Program) (ρ:Env) (ps:List Nat) (as bd:AZ) (rc:Loop):Prop where
 h:∃pr n,P.follows .mixedOrders=true∧rc.tmps=(act n ρ []).tmps∧rc.params.toList=ps∧(∀t∈ps,t<n)∧BY pr P n rc.assign=as∧BY pr P n rc.body=bd∧CJ rc.assign=true∧CJ rc.body=true
def Lj(P:Program)(l:Nat)(vs:List Value)(d:Aa)(L:List Aa)(R:Value→Aa→List Aa→Prop):Prop:=
 ∀F W,Ok (d::(L++F)) W→∃rc:Loop,W.heap[l]?=some (.loop rc)∧vs.length=rc.params.size∧
  ∀m,RoundIn Fence.wide m P l rc.fn ((rc.params.zip vs.toArray).foldl (fun tmps (t,a)=>tmps.setIfInBounds t a) rc.tmps) rc.assign rc.body W
   (fun e W'=>∃v d' L',e=.returned v∧Ok (d'::(L'++F)) W'∧Le d d'∧Ak W W'∧R v d' L')
def Km(P:Program)(Q:AP)(dst:Option Nat)(f:Operand)(args:List Operand)(post:GS):Env→Ah:=fun ρ1 d1 L1=>∃l A B R,ev ρ1 f=.func (.yield l) #[] #[]∧L1=A++B∧Lj P l (args.map (ev ρ1)) d1 A R∧
 ∀v d2 L2,Le d1 d2→R v d2 L2→gws P Q.pan Q.n post [] (put ρ1 dst v) d2 (L2++B)
def FB(P:Program)(Q:AP)(dst:Option Nat)(ch x:Operand)(post:GS):Env→Ah:=fun ρ1 d1 L1=>∃i c cap buf s r tm,ev ρ1 ch=.chan (some c)∧L1[i]?=some (sg c (.chan cap (Nd buf) false s r tm))∧buf.length<cap∧
 gws P Q.pan Q.n post [] (put ρ1 dst undef) d1 (L1.set i (sg c (.chan cap (buf++[ev ρ1 x]).toArray false (s+1) r tm)))
def IK(P:Program)(Q:AP)(dst:Option Nat)(ch:Operand)(z:Value)(post:GS):Env→Ah:=fun ρ1 d1 L1=>∃i c cap buf s r tm,ev ρ1 ch=.chan (some c)∧L1[i]?=some (sg c (.chan cap (Nd buf) false s r tm))∧
 (∀v rest,buf=v::rest→gws P Q.pan Q.n post [] (put ρ1 dst (.tuple #[vZ 0,.bool true,v])) d1 (L1.set i (sg c (.chan cap rest.toArray false s (r+1) tm))))∧
 (buf=[]→gws P Q.pan Q.n post [] (put ρ1 dst (.tuple #[vZ (-1),.bool false,z])) d1 L1)
def xwp(P:Program):Bz→AP→Env→Ah
 |.g c,Q=>gwp P c Q
 |.seq a b,Q=>xwp P a {Q with n:=xwp P b Q}
 |.cond c a b,Q=>fun ρ d L=>∃t,ev ρ c=.bool t∧(t=true→xwp P a Q ρ d L)∧(t=false→xwp P b Q ρ d L)
 |.block id a,Q=>xwp P a {Q with ex:=fun j=>if j=id then Q.n else Q.ex j}
 |.loop a,Q=>fun ρ d L=>∃I:Nat→Env→Ah,(∃m,I m ρ d L)∧∀m ρ d L,I m ρ d L→xwp P a {Q with n:=fun ρ d L=>∃m',m'<m∧I m' ρ d L} ρ d L
 |.yl pre dst f args post,Q=>gws P Q.pan (Km P Q dst f args post) pre []
 |.snd pre dst ch x post,Q=>gws P Q.pan (FB P Q dst ch x post) pre []
 |.sel pre dst ch z post,Q=>gws P Q.pan (IK P Q dst ch z post) pre []
 |.rf f ps as bd,Q=>fun ρ d L=>∃g first cap,ev ρ f=.func (.func g) first cap∧∀l rc,Ke P ρ ps as bd rc→rc.state=.ready→rc.pending=none→
   ∃R,Aj P g (first.toList++[.func (.yield l) #[] #[]]++cap.toList) d (sg l (.loop rc)::L) R∧∀e d' L',Le d d'→R e d' L'→
    ∃v rc' L'',e=.returned v∧L'=sg l (.loop rc')::L''∧rc'.state≠.busy∧
     (match rc'.pending with|none=>Q.n ρ d' L''|some (.exit id)=>Q.ex id ρ d' L''|some .ret=>Q.ret ρ d' L''|_=>False)
 |.bad,_=>fun _ _ _=>False
def isSp(yl:Bool)(o:Oper):Bool:=match o.op with
 |.send .. =>true
 |.select .. =>true
 |.call ⟨.value (.tmp _),_,_⟩=>yl
 |_=>false
def DJ(P:Program)(ops:Array Oper)(i:Nat):Bool:=quietAt P ops i &&((ops[i]?).all fun o=>o.guard.isNone)
def Ih(yl:Bool)(P:Program)(n:Nat)(ops:Array Oper):Bz:=
 match (Mz ops.size).find? fun i=>(ops[i]?).any (isSp yl) with
 |none=>.bad
 |some k=>match AH P n ops (Bh (Mz k)),AH P n ops (Bh ((Mz ops.size).drop (k+1))),ops[k]? with
  |some s1,some s2,some o=>
   if o.guard.isNone &&(o.op.operands.toList.all (Bx n))&& GA n o.dst then
    match o.op with
    |.send ch x=>if (Mz k).all (DJ P ops) then .snd s1 o.dst ch x s2 else .bad
    |.select cs false=>match cs.toList with
     |[⟨ch,none,e⟩]=>match (P.info? e).bind (·.zero) with
      |some z=>if (Mz k).all (DJ P ops) then .sel s1 o.dst ch z s2 else .bad
      |none=>.bad
     |_=>.bad
    |.call ⟨.value f,args,_⟩=>if yl then .yl s1 o.dst f args.toList s2 else .bad
    |_=>.bad
   else .bad
  |_,_,_=>.bad
def Cu(yl pr:Bool)(P:Program)(n:Nat):Code→Bz
 |.region id ops drawn=>if !drawn && ops.any (isSp yl)&& ops.all (fun o=> !Cg o.op) then Ih yl P n ops else .g (BY pr P n (.region id ops drawn))
 |.seq a b=>match Cu yl pr P n a,Cu yl pr P n b with|.g a',.g b'=>.g (.seq a' b')|a',b'=>.seq a' b'
 |.cond c a b=>if Bx n c then(match Cu yl pr P n a,Cu yl pr P n b with|.g a',.g b'=>.g (.cond c a' b')|a',b'=>.cond c a' b') else .bad
 |.block id a=>match Cu yl pr P n a with|.g a'=>.g (.block id a')|a'=>.block id a'
 |.loop a=>match Cu yl pr P n a with|.g a'=>.g (.loop a')|a'=>.loop a'
 |.rangeFunc f ps as bd=>if Bx n f && ps.all (fun t=>decide (t<n))&& CJ as && CJ bd then .rf f ps.toList (BY pr P n as) (BY pr P n bd) else .bad
 |.skip=>.g .skip
 |.exit id=>.g (.exit id)
 |.ret=>.g .ret
 |_=>.bad
def Ml{a b:Bz}:xwp P (match a,b with|.g a',.g b'=>.g (.seq a' b')|a',b'=>.seq a' b') Q=xwp P (.seq a b) Q:=by
 cases a<;>cases b<;>rfl
def LL{c}{a b:Bz}:xwp P (match a,b with|.g a',.g b'=>.g (.cond c a' b')|a',b'=>.cond c a' b') Q=xwp P (.cond c a b) Q:=by
 cases a<;>cases b<;>rfl
def Lw{id:Nat}{a:Bz}:xwp P (match a with|.g a'=>.g (.block id a')|a'=>.block id a') Q=xwp P (.block id a) Q:=by
 cases a<;>rfl
def LY{a:Bz}:xwp P (match a with|.g a'=>.g (.loop a')|a'=>.loop a') Q=xwp P (.loop a) Q:=by
 cases a<;>rfl
structure Ig where
 n:Nat
 res:List Du
 code:Bz
def JO(yl pr:Bool)(P:Program)(f:FuncId):Option Ig:=
 match P.funcs[f]? with
 |some fn=>
  if fn.name== "runtime.NumGoroutine" || !P.follows .mixedOrders then none else
  match fn.body with
  |some c=>(fn.results.toList.mapM (El P fn.ntmps)).map fun rs=>⟨fn.ntmps,rs,Cu yl pr P fn.ntmps c⟩
  |none=>none
 |none=>none
def Ok.HL{l:Nat}{o o':Obj}{W}(x:Ok (d::(L++(sg l o::F))) W):Ok (d::(L++(sg l o'::F))) (W.putObj l o'):=by
 have p:(d::(L++(sg l o::F))).Perm (sg l o::(d::(L++F))):=by
  refine(My d List.perm_middle).trans (ML _ _ _)
 have p':(sg l o'::(d::(L++F))).Perm (d::(L++(sg l o'::F))):=by
  refine(ML _ _ _).trans (My d List.perm_middle.symm)
 exact((x.perm p).write (W.putObj l o') rfl).perm p'
def EO(W:World)(l:Nat)(o:Obj):Ak W (W.putObj l o):=⟨rfl,rfl,rfl,by simp⟩
def Ok.IC{l:Nat}{o:Obj}{W}(x:Ok (d::(L++(sg l o::F))) W):W.heap[l]?=some o:=
 x.2 (sg l o) (by simp) l o (AY _ _)
def Ok.Hx{h W}:Ok (d::((h::L)++F)) W↔Ok (d::(L++(h::F))) W:=by
 have p:(d::((h::L)++F)).Perm (d::(L++(h::F))):=My d (by rw[List.cons_append];exact List.perm_middle.symm);exact⟨fun x=>x.perm p,fun x=>x.perm p.symm⟩
section
section
variable {P:Program}{n:Nat}{ds:List Deferred}{ops:Array Oper}{F:List Aa}
def EX{pan:List PanicEntry→Ah}{Qn:Env→Ah}{b:Frame}{items:List Item}{cs:List Frame}{W}{rest:List Nat}:∀(l:List Nat) (s:GS),AH P n ops (Bh l)=some s→(∀i∈l,DJ P ops i=true)→
  ∀(ρ:Env) (d:Aa) (L:List Aa),gws P pan Qn s [] ρ d L→Ok (d::(L++F)) W→
   ∃ρ' d' L',Steps P (lone (b.at (act n ρ ds) (.inRegion ops (l++rest)::items)) cs W) (lone (b.at (act n ρ' ds) (.inRegion ops rest::items)) cs W)∧Ok (d'::(L'++F)) W∧Le d d'∧Qn ρ' d' L'
 |[],s,hs,_,ρ,d,L,h,hOk=>by
  simp[Bh,AH] at hs;subst hs;obtain⟨d1,L1,hv,hq⟩:=h;exact⟨ρ,d1,L1,Steps.refl _ _,hv.2 F W (by simpa using hOk),hv.1,hq⟩
 |i::l,s,hs,hp,ρ,d,L,h,hOk=>by
  simp only[Bh,AH] at hs;split at hs<;>try cases hs
  rename_i g s' hg hs';rw[MB] at hg;obtain⟨o,ho,hd⟩:=hg;obtain⟨d1,L1,hv,h⟩:=h;have hOk1:=hv.2 F W hOk;obtain⟨hop,hdst,_,hdi,hgd,hgu⟩:=Co hd;have hpi:=hp i (by simp);simp only[DJ,Mr,quietAt,ho,Nb,hdi,Option.any_some,Option.all_some] at hpi;obtain⟨hq,hng⟩:=hpi;have hng':o.guard=none:=by simpa using hng
  have hgn:g.guard=none:=by
   rcases hgu with ⟨_,h⟩|⟨j,want,t,h,_⟩
   ·exact h
   ·rw[hng'] at h;cases h
  simp only[gop,hgn] at h;rw[Bt hq] at h;obtain⟨v,hev,d2,L2,hv2,hgws⟩:=h;have hl:∀a v,HC d1 ([]++L1) a v→W.cell? a=some v:=fun a v hc=>hc.cell hOk1.head (fun q hq=>hOk1.2 q (by simp at hq;simp[hq]));have hrun:=Cj (P:=P) hdi hq hev (E:=(act n ρ ds).eval) (fun x hx=>Am (hop x hx)) hl;have hw:Region.wanted o (yielded ops (act n ρ ds).tmps)=true:=by simp[Region.wanted,hng']
  have hstep:step P (lone (b.at (act n ρ ds) (.inRegion ops (i::(l++rest))::items)) cs W)=.next (lone (b.at (act n (put ρ g.dst v) ds) (.inRegion ops (l++rest)::items)) cs W):=by
   refine step_lone_go ?_;rw[stepG_op ho hw];have hf:=Frame.finish_at b (act n ρ ds) ops i (l++rest) items v;rw[ho,Nb,Ch hdst,←hgd] at hf;rw[←hf];simp[stepG.apply,hrun]
  obtain⟨ρ',d',L',hst,k1,k2,k3⟩:=EX l s' hs' (fun i hi=>hp i (MX _ hi)) (put ρ g.dst v) d2 L2 hgws (hv2.2 F W hOk1);exact⟨ρ',d',L',Steps.head hstep hst,k1,(hv.1.trans hv2.1).trans k2,k3⟩
def EW{n k:Nat}(h:k<n):Mz n=Mz k++(k::(Mz n).drop (k+1)):=by
 have h1:=(List.take_append_drop k (Mz n)).symm;rw[List.take_range,Nat.min_eq_left (Nat.le_of_lt h)] at h1;rw[M5 (by simpa using h)] at h1;simpa using h1
def Ko{id k:Nat}{o:Oper}{s1 s2}{Qm:Env→Ah}{d0}(ho:ops[k]?=some o)(hs1:AH P n ops (Bh (Mz k))=some s1)(hp:(Mz k).all (DJ P ops)=true)
  (hs2:AH P n ops (Bh ((Mz ops.size).drop (k+1)))=some s2) (hdst:∀t,o.dst=some t→t<n)
  (hstep:∀ρ d L W,Ok (d::(L++F)) W→Qm ρ d L→∃v W' d' L',(∀(b:Frame) items cs rest,step P (lone (b.at (act n ρ ds) (.inRegion ops (k::rest)::items)) cs W)=.next (lone ((b.at (act n ρ ds) (.inRegion ops (k::rest)::items)).finish v) cs W'))∧
   Ok (d'::(L'++F)) W'∧Le d d'∧Ak W W'∧gws P Q.pan Q.n s2 [] (put ρ o.dst v) d' L')
  {ρ d L W}(h:gws P Q.pan Qm s1 [] ρ d L) (hOk:Ok (d::(L++F)) W) (hle:Le d0 d) (hk:Ak W0 W):
  (Code.region id ops false).wp P (lift n ds F W0 d0 Q) (act n ρ ds) W:=by
 intro b items cs
 have hkl:k<ops.size:=(Array.getElem?_eq_some_iff.1 ho).1
 rw[Mx] at hp
 obtain⟨ρ1,d1,L1,st1,k1,k2,k3⟩:=EX (F:=F) (ds:=ds) (b:=b) (items:=items) (cs:=cs) (rest:=k::(Mz ops.size).drop (k+1)) _ s1 hs1 hp ρ d L h hOk
 obtain⟨v,W',d2,L2,hst,q1,q2,q3,q4⟩:=hstep ρ1 d1 L1 W k1 k3
 have st2:=hst b items cs ((Mz ops.size).drop (k+1))
 rw[Frame.finish_at,ho,Nb,Ch hdst] at st2
 obtain⟨e,a',w',hq,harr⟩:=wp_ops _ _ _ (BP _ s2 hs2 _ d2 L2 W' q4 q1 (hle.trans (k2.trans q2)) (hk.trans q3)) b items cs
 refine⟨e,a',w',hq,.of_steps ?_ harr⟩
 refine Steps.trans (.one step_region) ?_
 have e1:lone (b.at (act n ρ ds) (.inRegion ops (Mz ops.size)::items)) cs W=lone (b.at (act n ρ ds) (.inRegion ops (Mz k++(k::(Mz ops.size).drop (k+1)))::items)) cs W:=by rw[←EW hkl]
 rw[e1]
 exact Steps.trans st1 (.one st2)
end
end
section
section
variable {P:Program}{ops:Array Oper}{k:Nat}{o:Oper}{a:Act}{W:World}{c cap s r:Nat}{buf:Array Value}{tm:Bool}
def J3(ho:ops[k]?=some o)(hg:o.guard=none){ch x}(hop:o.op=.send ch x)(hc:a.eval ch=.chan (some c))(hh:W.heap[c]?=some (.chan cap buf false s r tm))(hroom:buf.size<cap)
  (b:Frame) (items:List Item) (cs:List Frame) (rest:List Nat):
  step P (lone (b.at a (.inRegion ops (k::rest)::items)) cs W)=.next (lone ((b.at a (.inRegion ops (k::rest)::items)).finish undef) cs (W.setChan c cap (buf.push (a.eval x)) false (s+1) r tm)):=by
 have hw:Region.wanted o (yielded ops a.tmps)=true:=by simp[Region.wanted,hg]
 have hrun:(execOp a.eval o).run P W=.ok (.comm #[scase c (a.eval x) (.tuple #[])] true .send) W:=by simp[execOp,hop,hc,scase]
 have h:=stepG_op (P:=P) (b:=b) (a:=a) (k:=items) (cs:=cs) (w:=W) (ops:=ops) (rest:=rest) ho hw
 simp only[stepG.apply,Sem.runT_eq,hrun] at h
 exact step_lone_send_room h hh hroom
def Gw(ho:ops[k]?=some o)(hg:o.guard=none){ch e z}{ti:TypeInfo}(hop:o.op=.select #[⟨ch,none,e⟩] false)(hi:P.info? e=some ti)(hz:ti.zero=some z)(hc:a.eval ch=.chan (some c))(hh:W.heap[c]?=some (.chan cap buf false s r tm))(hsome:0<buf.size)
  (b:Frame) (items:List Item) (cs:List Frame) (rest:List Nat):
  step P (lone (b.at a (.inRegion ops (k::rest)::items)) cs W)=.next (lone ((b.at a (.inRegion ops (k::rest)::items)).finish (.tuple #[goInt 0,.bool true,buf.getD 0 undef])) cs (W.setChan c cap (buf.extract 1 buf.size) false s (r+1) tm)):=by
 have hw:Region.wanted o (yielded ops a.tmps)=true:=by simp[Region.wanted,hg]
 have hrun:(execOp a.eval o).run P W=.ok (.comm #[rcase c z] false .select) W:=by simp[execOp,hop,hc,rcase,Bl hi hz,Result.andThen]
 have h:=stepG_op (P:=P) (b:=b) (a:=a) (k:=items) (cs:=cs) (w:=W) (ops:=ops) (rest:=rest) ho hw
 simp only[stepG.apply,Sem.runT_eq,hrun] at h
 exact step_lone_select_recv_buf h hh hsome
def Gu(ho:ops[k]?=some o)(hg:o.guard=none){ch e z}{ti:TypeInfo}(hop:o.op=.select #[⟨ch,none,e⟩] false)(hi:P.info? e=some ti)(hz:ti.zero=some z)(hc:a.eval ch=.chan (some c))(hh:W.heap[c]?=some (.chan cap #[] false s r tm))
  (b:Frame) (items:List Item) (cs:List Frame) (rest:List Nat):
  step P (lone (b.at a (.inRegion ops (k::rest)::items)) cs W)=.next (lone ((b.at a (.inRegion ops (k::rest)::items)).finish (.tuple #[goInt (-1),.bool false,z])) cs W):=by
 have hw:Region.wanted o (yielded ops a.tmps)=true:=by simp[Region.wanted,hg]
 have hrun:(execOp a.eval o).run P W=.ok (.comm #[rcase c z] false .select) W:=by simp[execOp,hop,hc,rcase,Bl hi hz,Result.andThen]
 have h:=stepG_op (P:=P) (b:=b) (a:=a) (k:=items) (cs:=cs) (w:=W) (ops:=ops) (rest:=rest) ho hw
 simp only[stepG.apply,Sem.runT_eq,hrun] at h
 exact step_lone_select_default h hh
end
def C7(W:World)(c cap:Nat)(buf:Array Value)(cl:Bool)(s r:Nat)(tm:Bool):(W.setChan c cap buf cl s r tm).heap=W.heap.setIfInBounds c (.chan cap buf cl s r tm):=rfl
def Ex(W:World)(c cap:Nat)(buf:Array Value)(cl:Bool)(s r:Nat)(tm:Bool):Ak W (W.setChan c cap buf cl s r tm):=⟨rfl,rfl,rfl,by rw[C7];simp⟩
def Ok.IQ{W W'}{i b:Nat}{o o':Obj}(x:Ok (d::(L++F)) W)(hi:L[i]?=some (sg b o))(e:W'.heap=W.heap.setIfInBounds b o'):Ok (d::(L.set i (sg b o')++F)) W':=by
 obtain⟨A,B,h1,h2⟩:=B5 hi (sg b o');rw[h2];rw[h1] at x;exact Ok.front.2 ((Ok.front.1 x).write W' e)
end
section
section
variable {Fe:Fence}{m:Nat}{P:Program}
def HX{o:Oper}{a:Act}{w K K' Q Q'}(h:∀a w,K a w→K' a w)(hp:∀c a w,Q (.panic c) a w→Q' (.panic c) a w)(hl:LetsOut Q→LetsOut Q')
  (hh:o.wpIn Fe m P a w K Q):o.wpIn Fe m P a w K' Q':=by
 unfold Oper.wpIn at*
 refine⟨hh.1,?_⟩
 have hh:=hh.2
 generalize (o.semAt Fe.round a.eval).run P w=r at*
 cases r with
 |ok x w'=>
  cases x<;>simp only[Oper.uponIn] at hh⊢<;>
   first
    |exact h _ _ hh
    |exact⟨hh.1,CallsIn.mono hh.2 (fun e w'' he=>by cases e<;>first|exact h _ _ he|exact hp _ _ _ he|exact hl he)⟩
    |exact⟨hh.1,RowsIn.mono hh.2 (fun _ _ he=>h _ _ he)⟩
    |exact⟨hh.1,RoundIn.mono hh.2 (fun e w'' he=>by cases e<;>first|exact h _ _ he|exact hp _ _ _ he|exact hl he)⟩
 |halt x w'=>cases x<;>simp only[Oper.uponIn] at hh⊢<;>exact hp _ _ _ hh
def CF{ops Q Q'}{l2:List Nat}(hn:∀a w,Q .normal a w→wpOpsIn Fe m P ops Q' l2 a w)(hp:∀c a w,Q (.panic c) a w→Q' (.panic c) a w)(hl:LetsOut Q→LetsOut Q'):
  ∀(l1:List Nat) (a:Act) (w:World),wpOpsIn Fe m P ops Q l1 a w→wpOpsIn Fe m P ops Q' (l1++l2) a w
 |[],a,w,h=>hn a w h
 |i::l1,a,w,h=>by
  simp only[wpOpsIn,List.cons_append] at h⊢;cases ho:ops[i]? with
  |none=>rw[ho] at h;exact CF hn hp hl l1 a w h
  |some o=>
   rw[ho] at h
   simp only at h⊢
   split
   ·rename_i hw
    rw[if_pos hw] at h
    exact HX (fun a w h=>CF hn hp hl l1 a w h) hp hl h
   ·rename_i hw
    rw[if_neg hw] at h
    exact⟨h.1,CF hn hp hl l1 _ w h.2⟩
end
section
variable {P:Program}{n:Nat}{ds:List Deferred}{ops:Array Oper}{F:List Aa}{W0:World}{d0:Aa}
def KK{m id k:Nat}{o:Oper}{s1 s2 f}{args:Array Operand}{ats:Array TypeId}(ho:ops[k]?=some o)(hg:o.guard=none)(hop:o.op=.call ⟨.value f,args,ats⟩)(hopn:∀x∈o.op.operands,Bx n x=true)
  (hdst:∀t,o.dst=some t→t<n) (hnd:∀(i:Nat) (o:Oper),ops[i]?=some o→Cg o.op=false)
  (hs1:AH P n ops (Bh (Mz k))=some s1) (hs2:AH P n ops (Bh ((Mz ops.size).drop (k+1)))=some s2)
  {ρ d L W}(h:xwp P (.yl s1 o.dst f args.toList s2) Q ρ d L) (hOk:Ok (d::(L++F)) W) (hle:Le d0 d) (hk:Ak W0 W):
  (Code.region id ops false).wpIn Fence.wide m P (lift n ds F W0 d0 Q) (act n ρ ds) W:=by
 have hkl:k<ops.size:=(Array.getElem?_eq_some_iff.1 ho).1
 refine wpIn_region ?_
 rw[EW hkl]
 refine CF ?_ ?_ (fun h=>absurd h Df) _ _ _ (C5 (r:=none) (Q:=lift n ds F W0 d0 {Q with n:=Km P Q o.dst f args.toList s2}) Df hnd _ _ _ (BP _ s1 hs1 ρ d L W h hOk hle hk))
 ·rintro a w ⟨ρ1,d1,L1,rfl,k1,k2,k3,l,A,B,R,hf,hL,hy,hR⟩
  subst hL
  have hw:Region.wanted o (yielded ops (act n ρ1 ds).tmps)=true:=by simp[Region.wanted,hg]
  obtain⟨rc,hh,hlen,hround⟩:=hy (B++F) w (by rw[←Mq];exact k1)
  have ha:=C6 (ρ:=ρ1) (ds:=ds) args (fun x hx=>hopn x (by rw[hop];simp[Op.operands,Call.operands,hx]))
  have hfv:=Am (ρ:=ρ1) (ds:=ds) (hopn f (by rw[hop];simp[Op.operands,Call.operands]))
  have hrun:=run_yield (P:=P) hh (args:=(args.toList.map (ev ρ1)).toArray) (by simpa using hlen)
  have hexec:(execOp (act n ρ1 ds).eval o).run P w=.ok (.round l rc.fn ((rc.params.zip (args.toList.map (ev ρ1)).toArray).foldl (fun tmps (t,a)=>tmps.setIfInBounds t a) rc.tmps) rc.assign rc.body) w:=by
   simp only[execOp,hop,resolve,Sem.run_bind,hfv,hf,Deferred.ofValue,Sem.run_pure,Result.andThen,invoke,ha];simpa using hrun
  simp only[wpOpsIn,ho]
  rw[if_pos hw]
  refine⟨fun _ _=>trivial,?_⟩
  have e:o.semAt Fence.wide.round (act n ρ1 ds).eval=execOp (act n ρ1 ds).eval o:=Oper.semAt_none ..
  rw[e,hexec,Oper.uponIn_round]
  refine⟨fun h=>by simp[Fence.wide] at h,(hround _).mono ?_⟩
  rintro e w2 ⟨v,d2,L2,rfl,q1,q2,q3,q4⟩
  show wpOpsIn _ _ _ _ _ _ _ _
  rw[Ch hdst]
  rw[←Mq] at q1
  exact C5 (r:=none) Df hnd _ _ _ (BP _ s2 hs2 _ d2 (L2++B) w2 (hR v d2 L2 q2 q4) q1 (k2.trans q2) (k3.trans q3))
 ·intro c a w h;exact h
end
end
def marksOf(ms:List Nat):List Deferred:=ms.map fun r=>{target:=.collected r,args:= #[]}
def CK(ms:List Nat):List Aa:=ms.map fun r=>sg r (.deferred (some []))
def liftM(n:Nat)(F:List Aa)(W0:World)(d0:Aa)(Q:AP)(e:Exit)(a:Act)(W:World):Prop:=∃ms,lift n (marksOf ms) (CK ms++F) W0 d0 Q e a W
def Jw{n:Nat}{ds d0}{m id:Nat}{ops}(hnd:∀(i:Nat) (o:Oper),ops[i]?=some o→Cg o.op=false)
  {Q:AP}{ρ d L W}(h:xwp P (Ih yl P n ops) Q ρ d L) (hOk:Ok (d::(L++F)) W) (hle:Le d0 d) (hk:Ak W0 W):
  (Code.region id ops false).wpIn Fence.wide m P (lift n ds F W0 d0 Q) (act n ρ ds) W:=by
 unfold Ih at h
 split at h
 ·exact h.elim
 rename_i k hkf
 split at h
 rotate_left
 ·exact h.elim
 rename_i s1 s2 o hs1 hs2 ho
 split at h
 rotate_left
 ·exact h.elim
 rename_i hc
 simp only[Mr] at hc
 obtain⟨⟨hg,hopn⟩,hdo⟩:=hc
 have hg:o.guard=none:=by simpa using hg
 have hopn:∀x∈o.op.operands,Bx n x=true:=by
  intro x hx;exact Mx.1 hopn x (Array.mem_toList_iff.2 hx)
 have hdst:∀t,o.dst=some t→t<n:=by
  intro t e;rw[e] at hdo;simpa [GA] using hdo
 split at h
 ·rename_i ch x hop
  split at h
  rotate_left
  ·exact h.elim
  rename_i hp
  refine wpIn_wide.2 (Ko (Q:=Q) (Qm:=FB P Q o.dst ch x s2) ho hs1 hp hs2 hdst ?_ h hOk hle hk)
  rintro ρ1 d1 L1 W1 hOk1 ⟨i,c,cap,buf,s,r,tm,hch,hi,hroom,hq⟩
  have hh:W1.heap[c]?=some (.chan cap buf.toArray false s r tm):=hOk1.2 (sg c _) (by simp[Nh hi]) c _ (AY _ _)
  have ech:=Am (ρ:=ρ1) (ds:=ds) (hopn ch (by rw[hop];simp[Op.operands]))
  have ex:=Am (ρ:=ρ1) (ds:=ds) (hopn x (by rw[hop];simp[Op.operands]))
  refine⟨undef,_,d1,_,fun b items cs rest=>J3 ho hg hop (ech.trans hch) hh (by simpa using hroom) b items cs rest,?_,Le.refl _,Ex ..,hq⟩
  refine hOk1.IQ hi ?_
  rw[C7,ex];simp
 ·rename_i cs' hop
  split at h
  rotate_left
  ·exact h.elim
  rename_i ch e hcs
  split at h
  rotate_left
  ·exact h.elim
  rename_i z hz
  split at h
  rotate_left
  ·exact h.elim
  rename_i hp
  have hcs':cs'= #[⟨ch,none,e⟩]:=by
   apply Array.ext';simpa using hcs
  subst hcs'
  rw[MB] at hz
  obtain⟨ti,hi',hz'⟩:=hz
  refine wpIn_wide.2 (Ko (Q:=Q) (Qm:=IK P Q o.dst ch z s2) ho hs1 hp hs2 hdst ?_ h hOk hle hk)
  rintro ρ1 d1 L1 W1 hOk1 ⟨i,c,cap,buf,s,r,tm,hch,hi,hq1,hq2⟩
  have hh:W1.heap[c]?=some (.chan cap buf.toArray false s r tm):=hOk1.2 (sg c _) (by simp[Nh hi]) c _ (AY _ _)
  have ech:=Am (ρ:=ρ1) (ds:=ds) (hopn ch (by rw[hop];simp[Op.operands]))
  cases buf with
  |nil=>
   exact⟨_,W1,d1,L1,fun b items cs rest=>Gu ho hg hop hi' hz' (ech.trans hch) hh b items cs rest,hOk1,Le.refl _,Ak.refl _,hq2 rfl⟩
  |cons v rest'=>
   refine⟨_,_,d1,_,fun b items cs rest=>Gw ho hg hop hi' hz' (ech.trans hch) hh (by simp) b items cs rest,?_,Le.refl _,Ex ..,hq1 v rest' rfl⟩
   refine hOk1.IQ hi ?_
   rw[C7];simp
 ·rename_i f args ats hop
  split at h
  rotate_left
  ·exact h.elim
  exact KK ho hg hop hopn hdst hnd hs1 hs2 h hOk hle hk
 ·exact h.elim
def Jg{pr:Bool}{n:Nat}{d0}{m:Nat}(hm:P.follows .mixedOrders=true):
  ∀(c:Code) (Q:AP) (ρ:Env) (d:Aa) (L:List Aa) (W:World) (ms:List Nat),xwp P (Cu yl pr P n c) Q ρ d L→Ok (d::(L++(CK ms++F))) W→Le d0 d→Ak W0 W→
   c.wpIn Fence.wide m P (liftM n F W0 d0 Q) (act n ρ (marksOf ms)) W:=by
 intro c
 induction c with
 |skip=>
  intro Q ρ d L W ms h hOk hle hk
  exact wpIn_skip ⟨ms,ρ,d,L,rfl,hOk,hle,hk,h⟩
 |region id ops drawn=>
  intro Q ρ d L W ms h hOk hle hk
  simp only[Cu] at h
  split at h
  ·rename_i hc
   simp only[Mr,MS] at hc
   obtain⟨⟨hd,_⟩,hnd⟩:=hc
   subst hd
   exact wpIn_mono (Jw (I6 hnd) h hOk hle hk) (fun e a w hq=>⟨ms,hq⟩)
  ·exact wpIn_mono (wpIn_wide.2 (Gn (ds:=marksOf ms) (F:=CK ms++F) (W0:=W0) (d0:=d0) hm _ Q ρ d L W h hOk hle hk)) (fun e a w hq=>⟨ms,hq⟩)
 |seq a b iha ihb=>
  intro Q ρ d L W ms h hOk hle hk
  simp only[Cu] at h
  rw[Ml] at h
  refine wpIn_seq (wpIn_mono (iha _ ρ d L W ms h hOk hle hk) ?_)
  intro e a w hq
  cases e with
  |normal=>
   obtain⟨ms',ρ',d',L',rfl,h1,h2,h3,h4⟩:=hq
   exact ihb Q ρ' d' L' w ms' h4 h1 h2 h3
  |_=>exact hq
 |cond c a b iha ihb=>
  intro Q ρ d L W ms h hOk hle hk
  simp only[Cu] at h
  split at h
  ·rename_i hc
   rw[LL] at h
   obtain⟨t,ht,h1,h2⟩:=h
   exact wpIn_cond_split (by rw[Am hc];exact ht) (fun e=>iha Q ρ d L W ms (h1 e) hOk hle hk) (fun e=>ihb Q ρ d L W ms (h2 e) hOk hle hk)
  ·exact h.elim
 |block id a iha=>
  intro Q ρ d L W ms h hOk hle hk
  simp only[Cu] at h
  rw[Lw] at h
  refine wpIn_block (wpIn_mono (iha _ ρ d L W ms h hOk hle hk) ?_)
  intro e a w hq
  cases e with
  |exit i=>
   obtain⟨ms',ρ',d',L',rfl,h1,h2,h3,h4⟩:=hq
   simp only[Exit.inBlock]
   by_cases e:i=id
   ·simp only[e,if_true] at h4⊢
    exact⟨ms',ρ',d',L',rfl,h1,h2,h3,h4⟩
   ·simp only[if_neg e] at h4⊢
    exact⟨ms',ρ',d',L',rfl,h1,h2,h3,h4⟩
  |_=>exact hq
 |loop a iha=>
  intro Q ρ d L W ms h hOk hle hk
  simp only[Cu] at h
  rw[LY] at h
  obtain⟨I,⟨m0,hI⟩,round⟩:=h
  refine wpIn_loop_ghost (fun m a w=>∃ms ρ d L,a=act n ρ (marksOf ms)∧Ok (d::(L++(CK ms++F))) w∧Le d0 d∧Ak W0 w∧I m ρ d L) m0 ⟨ms,ρ,d,L,rfl,hOk,hle,hk,hI⟩ ?_
  rintro m a w ⟨ms',ρ',d',L',rfl,h1,h2,h3,h4⟩
  refine wpIn_mono (iha _ ρ' d' L' w ms' (round m ρ' d' L' h4) h1 h2 h3) ?_
  intro e a w hq
  cases e with
  |normal=>
   obtain⟨ms'',ρ'',d'',L'',rfl,k1,k2,k3,m',k4,k5⟩:=hq
   exact⟨m',k4,ms'',ρ'',d'',L'',rfl,k1,k2,k3,k5⟩
  |_=>exact hq
 |exit id=>
  intro Q ρ d L W ms h hOk hle hk
  exact wpIn_exit ⟨ms,ρ,d,L,rfl,hOk,hle,hk,h⟩
 |ret=>
  intro Q ρ d L W ms h hOk hle hk
  exact wpIn_ret ⟨ms,ρ,d,L,rfl,hOk,hle,hk,h⟩
 |rangeFunc f ps as bd _ _=>
  intro Q ρ d L W ms h hOk hle hk
  simp only[Cu] at h
  split at h
  rotate_left
  ·exact h.elim
  rename_i hc
  simp only[Mr] at hc
  obtain⟨⟨⟨hf,hps⟩,hna⟩,hnb⟩:=hc
  obtain⟨g,first,cap,hfv,hit⟩:=h
  refine wpIn_rangeFunc fun fn _=>?_
  have hev:(act n ρ (marksOf ms)).eval f=.func (.func g) first cap:=(Am hf).trans hfv
  let rc:Loop:={state:=.ready,pending:=none,fn:=fn,tmps:=(act n ρ (marksOf ms)).tmps,params:=ps,assign:=as,body:=bd,defers:=W.heap.size}
  have hrec:Ke P ρ ps.toList (BY pr P n as) (BY pr P n bd) rc:=⟨pr,n,hm,rfl,rfl,fun t ht=>by
   have:=Array.all_eq_true.1 hps;obtain⟨i,hi,rfl⟩:=Array.mem_iff_getElem.1 (Array.mem_toList_iff.1 ht);simpa using this i hi,rfl,rfl,hna,hnb⟩
  obtain⟨R,hcall,hR⟩:=hit (W.heap.size+1) rc hrec rfl rfl
  have hen:=run_enterLoop_outer (P:=P) (w:=W) fn (act n ρ (marksOf ms)).tmps ps as bd
  have hOk1:Ok (d::(L++(CK (W.heap.size::ms)++F))) (W.alloc (.deferred (some []))):=Ok.Hx.1 (hOk.push (.deferred (some [])))
  have hOk2:Ok (d::((sg (W.heap.size+1) (.loop rc)::L)++(CK (W.heap.size::ms)++F))) ((W.alloc (.deferred (some []))).alloc (.loop rc)):=by
   have:=hOk1.push (.loop rc);rwa [World.size_alloc] at this
  have hk2:Ak W0 ((W.alloc (.deferred (some []))).alloc (.loop rc)):=(hk.trans (Bn _ _)).trans (Bn _ _)
  refine⟨W.heap.size+1,_,(W.alloc (.deferred (some []))).alloc (.loop rc),{target:=.fn (.func g) cap,args:=first++ #[.func (.yield (W.heap.size+1)) #[] #[]]},(W.alloc (.deferred (some []))).alloc (.loop rc),g,first++ #[.func (.yield (W.heap.size+1)) #[] #[]]++cap,(W.alloc (.deferred (some []))).alloc (.loop rc),hen,?_,fun _ _=>trivial,?_,fun h=>by simp[Fence.wide] at h,?_⟩
  ·simp only[resolve,hev,Deferred.ofValue,Sem.run_pure,Array.map_singleton]
   simp[Act.eval]
  ·simp only[invoke];exact Ct hcall.1 _ _
  refine callsIn_wide.2 ?_
  have hc:=hcall.2 (CK (W.heap.size::ms)++F) _ hOk2
  have ha:(first.toList++[Value.func (.yield (W.heap.size+1)) #[] #[]]++cap.toList).toArray=first++ #[.func (.yield (W.heap.size+1)) #[] #[]]++cap:=by apply Array.ext';simp
  rw[ha] at hc
  refine hc.mono ?_
  rintro e w2 ⟨d2,L2,q1,q2,q3,q4⟩
  obtain⟨v,rc',L3,rfl,rfl,hst,hpend⟩:=hR e d2 L2 q2 q4
  have q1':=Ok.Hx.1 q1
  have hl:=q1'.IC
  refine⟨_,_,run_endLoop hl hst,?_⟩
  have q5:Ok (d2::(L3++(CK (W.heap.size::ms)++F))) (w2.putObj (W.heap.size+1) (.loop {rc' with state:=.exhausted})):=
   (q1'.HL (o':=.loop {rc' with state:=.exhausted})).sub (M3 _ (List.Sublist.append_left (MU _ _) _))
  have q6:=hk2.trans (q3.trans (EO w2 (W.heap.size+1) (.loop {rc' with state:=.exhausted})))
  obtain⟨w4,hw4⟩:∃w4,w2.putObj (W.heap.size+1) (.loop {rc' with state:=.exhausted})=w4:=⟨_,rfl⟩
  rw[hw4] at q5 q6⊢
  clear hw4
  cases hp:rc'.pending with
  |none=>
   rw[hp] at hpend
   exact⟨W.heap.size::ms,ρ,d2,L3,rfl,q5,hle.trans q2,q6,hpend⟩
  |some j=>
   rw[hp] at hpend
   cases j with
   |exit id=>exact wpIn_exit ⟨W.heap.size::ms,ρ,d2,L3,rfl,q5,hle.trans q2,q6,hpend⟩
   |ret=>exact wpIn_ret ⟨W.heap.size::ms,ρ,d2,L3,rfl,q5,hle.trans q2,q6,hpend⟩
   |_=>exact hpend.elim
 |_=>intro Q ρ d L W ms h;exact h.elim
def HU{fn:Func}{tmps:Array Value}{R:Ending→World→Prop}{u:FrameMode}(hu:u≠.run)
  (fin:∀w,Ok (d::(L++F)) w→Ak W0 w→LeavesIn Fence.wide 0 P fn tmps R [] u w):∀(ms:List Nat) (w:World),Ok (d::(L++(CK ms++F))) w→Ak W0 w→LeavesInM Fence.wide 0 P fn tmps R (marksOf ms) u w
 |[],w,h,hk=>fin w h hk
 |r::ms,w,h,hk=>by
  refine⟨hu,.inl ⟨r,_,rfl,run_takeDeferred h.IC,?_⟩⟩
  refine HU hu fin ms _ ?_ (hk.trans (EO _ _ _));exact(h.HL (o':=.deferred none)).sub (M3 _ (List.Sublist.append_left (MU _ _) _))
def Jb{pr:Bool}{f}{g:Ig}(hd:JO yl pr P f=some g){args}(ha:args.length≤g.n){R}
  (h:xwp P g.code (mkPost g.res R) (FT args) d L):Aj P f args d L R:=by
 simp only[JO] at hd
 split at hd<;>try cases hd
 rename_i fn hf
 split at hd<;>try cases hd
 rename_i hn
 split at hd<;>try cases hd
 rename_i c hb
 rw[MG] at hd
 obtain⟨rs,hr,rfl⟩:=hd
 simp only[MZ,not_or,Nl,Bool.not_eq_false'] at hn
 refine⟨⟨fn,hf,by rw[hb];rfl,hn.1⟩,fun F W hOk=>?_⟩
 refine(callsIn_wide (n:=0)).1 (callsIn_of_wp_marks hf hb trivial ?_)
 have hinit:({tmps:=args.toArray++Array.replicate (fn.ntmps - args.toArray.size) undef,defers:=[]}:Act)=act fn.ntmps (FT args) (marksOf []):=by
  simp only[act,Act.mk.injEq,marksOf,List.map_nil,and_true];apply Array.ext
  ·simp at ha⊢;omega
  ·intro i h1 h2;simp only[Array.getElem_ofFn,FT];by_cases hi:i<args.length
   ·rw[Array.getElem_append_left (by simpa using hi)];simp[hi]
   ·rw[Array.getElem_append_right (by simpa using hi)];simp[List.getD,MP (Nat.le_of_not_lt hi)]
 rw[hinit]
 have hs:=Jg (F:=F) (W0:=W) (d0:=d) (m:=0) (by simpa using hn.2) c _ _ d L W [] h hOk (Le.refl d) (Ak.refl W)
 refine wpIn_mono hs ?_
 have fin:∀ms ρ d' L' w,Ok (d'::(L'++(CK ms++F))) w→Le d d'→Ak W w→Bq rs R ρ d' L'→LeavesInM Fence.wide 0 P fn (act fn.ntmps ρ []).tmps (fun e w'=>∃d' L',Ok (d'::(L'++F)) w'∧Le d d'∧Ak W w'∧R e d' L') (marksOf ms) .returning w:=by
  rintro ms ρ d' L' w h1 h2 h3 ⟨vs,h4,d'',L'',h5,h6⟩;refine HU (W0:=W) (by simp) ?_ ms w h1 h3;intro w' k1 k2;refine⟨Hi vs,?_,d'',L'',h5.2 F w' k1,h2.trans h5.1,k2,h6⟩
  have hl:∀a v,HC d' L' a v→w'.cell? a=some v:=fun a v hc=>hc.cell k1.head (fun q hq=>k1.2 q (by simp[hq]));have:=Dx (P:=P) (n:=fn.ntmps) (ρ:=ρ) (ds:=[]) hl fn.results.toList rs vs hr h4;rw[FK,Array.mapM_eq_mapM_toList];simp only[Sem.run_bind,Sem.run_map,this,Result.andThen,Sem.run_pure];cases vs with
  |nil=>rfl
  |cons v vs=>cases vs with
   |nil=>rfl
   |cons v' vs=>rfl
 intro e a w hq
 cases e with
 |normal=>
  obtain⟨ms,ρ,d',L',rfl,k1,k2,k3,k4⟩:=hq
  exact fin ms ρ d' L' w k1 k2 k3 k4
 |ret=>
  obtain⟨ms,ρ,d',L',rfl,k1,k2,k3,k4⟩:=hq
  exact fin ms ρ d' L' w k1 k2 k3 k4
 |panic c=>
  obtain⟨ms,h1,d',L',h2,h3,h4,d'',L'',h5,h6⟩:=hq
  show LeavesInM Fence.wide 0 P fn a.tmps _ a.defers (.panicking c) w
  rw[h1]
  refine HU (W0:=W) (by simp) ?_ ms w h2 h4
  intro w' k1 k2
  exact⟨d'',L'',h5.2 F w' k1,h3.trans h5.1,k2,h6⟩
 |exit i=>obtain⟨_,_,_,_,_,_,_,_,hh⟩:=hq;exact hh.elim
 |goto l=>obtain⟨_,h⟩:=hq;exact h.elim
 |outgrown=>obtain⟨_,h⟩:=hq;exact h.elim
end Go.Gk
end
section
namespace Go.Gk
open Go
variable{v:Value}{T:TypeId}{f:FuncId}{a:Bz}{post:GS}
section
def E2(N:Nat)(v:Value)(c:List UInt8)(h:Aa):Prop:=
 c.length≤N∧∃b T,v=.slice (some ⟨b,0,none⟩) c.length N∧h=bx b T (c.map AO++Mv (N - c.length) (AO 0))
def E2.full{N:Nat}{c h}(r:E2 N v c h):∃b,v=.slice (some ⟨b,0,none⟩) c.length N∧E2 N (.slice (some ⟨b,0,none⟩) N N) (c++Mv (N - c.length) 0) h:=by
 obtain⟨hc,b,T,rfl,rfl⟩:=r;have hl:(c++Mv (N - c.length) (0:UInt8)).length=N:=by simp;omega
 refine⟨b,rfl,by omega,b,T,by rw[hl],?_⟩
 rw[hl];simp
def E2.bytes{N:Nat}{c h d}(r:E2 N v c h)(hl:Le h d)(hN:N≤140737488355328):A4 d v c:=by
 obtain⟨hc,b,T,rfl,rfl⟩:=r;exact(AJ.mk (sz:=1) (xs:=c.map AO) (n:=c.length) (c:=N) (by simp) (by omega) hc (by omega) (by simp;omega) (by simp)).bytes hl
def A4.pre{d a}{n c:Nat}{l}(h:A4 d (.slice a n c) l){k:Nat}(hk:k≤l.length):A4 d (.slice a k c) (l.take k):=by
 obtain⟨a',c',b,o,e,h2,h3,h4,h5,h6,h7,h8⟩:=h;cases e;have hl:(l.take k).length=k:=by simp;omega
 refine⟨a,c,b,o,by rw[hl],fun h0=>?_,h3,h4,by omega,h6,by omega,fun i hi=>?_⟩
 ·rw[hl] at h0;exact h2 (by omega)
 ·obtain⟨cs,k1,k2,k3⟩:=h8 i (by omega);exact⟨cs,k1,k2,by simpa using k3⟩
section
variable {P:Program}{pan:List PanicEntry→Ah}{Qn:Env→Ah}{Ls L:List Aa}{ρ:Env}{d:Aa}{s:GS}{t:Nat}{tk:Bool}
end
end
section
def chunk(cs:List Value)(i sz:Nat):List Value:=(cs.drop (i*sz)).take sz
def Ai{α}(sz:Nat)(R:Aa→List Value→α→Prop)(d:Aa)(v:Value)(xs:List α)(h:Aa):Prop:=
 ∃cs,AJ sz v xs.length cs h∧∀i (hi:i<xs.length),R d (chunk cs i sz) xs[i]
def Src{α}(sz:Nat)(R:Aa→List Value→α→Prop)(d:Aa)(Lk:List Aa)(w:Value)(ys:List α):Prop:=
 ∃news,RdX d Lk w ys.length sz news∧(news.all (·.oneCell'))=true∧∀i (hi:i<ys.length),R d (chunk news i sz) ys[i]
def FL{α}(R:Aa→List Value→α→Prop):Prop:=∀d cs x,R d cs x→(cs.all (·.oneCell'))=true
def D1{α}(R:Aa→List Value→α→Prop):Prop:=∀{d d' cs x},Le d d'→R d cs x→R d' cs x
def CR:FL AT:=fun _ _ _ h=>by obtain⟨rfl,_⟩:=h;rfl
def I3:FL Eg:=fun _ _ _ h=>by obtain⟨rfl,_⟩:=h;rfl
def Em:D1 BV:=fun _ h=>h
def Ce:D1 AT:=fun _ h=>h
def J4:D1 Eg:=fun _ h=>h
def KG:D1 RBs:=fun hl ⟨u,h1,h2⟩=>⟨u,h1,h2.mono hl⟩
section
variable {α:Type}{sz:Nat}{R:Aa→List Value→α→Prop}{d:Aa}{v:Value}{xs:List α}{h:Aa}
def Gq{cs}{n i:Nat}(hl:cs.length=n*sz)(hi:i<n):(chunk cs i sz).length=sz:=by
 have:(i+1)*sz≤n*sz:=MF sz hi;rw[MT,Nk] at this;simp only[chunk,MW,Nn,hl];omega
def CC{cs ds}{n i:Nat}(hl:cs.length=n*sz)(hi:i<n):chunk (cs++ds) i sz=chunk cs i sz:=by
 have:(i+1)*sz≤n*sz:=MF sz hi;rw[MT,Nk] at this;simp only[chunk];rw[List.drop_append_of_le_length (by omega),List.take_append_of_le_length (by simp only[Nn];omega)]
def Cq{cs ds}{n i:Nat}(hl:cs.length=n*sz)(hi:n≤i):chunk (cs++ds) i sz=chunk ds (i - n) sz:=by
 have h1:n*sz≤i*sz:=MF sz hi;simp only[chunk];rw[List.drop_append,List.drop_of_length_le (by omega),List.nil_append,hl,Nat.sub_mul]
def Ai.nil:Ai sz R d (.slice none 0 0) [] emp:=⟨[],AJ.nil sz,fun i hi=>absurd hi (Ns i)⟩
def Ai.Mo{b:Nat}:Ai sz R d (.slice (some ⟨b,0,none⟩) 0 0) [] (bx b T []):=⟨[],AJ.lit (by simp) (by simp),fun i hi=>absurd hi (Ns i)⟩
def Ai.mono(hR:D1 R)(o:Ai sz R d v xs h){d'}(hl:Le d d'):Ai sz R d' v xs h:=
 let ⟨cs,h1,h2⟩:=o
 ⟨cs,h1,fun i hi=>hR hl (h2 i hi)⟩
def Ai.DH(o:Ai sz R d v xs h):xs.length≤140737488355328:=let ⟨_,h1,_⟩:=o;h1.2.1
def Ai.val(o:Ai sz R d v xs h):∃a c,v=.slice a xs.length c:=by
 obtain⟨cs,h1,_⟩:=o;obtain⟨a,b,c,e,_⟩:=h1.slice;exact⟨a,c,e⟩
def RSl.val(o:RSl sz R d v xs):∃a c,v=.slice a xs.length c:=let ⟨a,c,_,_,e,_⟩:=o;⟨a,c,e⟩
def Ai.rsl(o:Ai sz R d v xs h)(hR:D1 R)(hsz:0<sz){d'}(hl:Le d d')(hh:Le h d'):RSl sz R d' v xs:=by
 obtain⟨cs,h1,h2⟩:=o;exact h1.rsl hh rfl hsz (fun i hi=>hR hl (h2 i hi))
def Ai.src(o:Ai sz R d v xs h)(hc:FL R){Lk}(hk:h∈Lk):Src sz R d Lk v xs:=by
 obtain⟨cs,h1,h2⟩:=o;refine⟨cs,h1.rdx hk,?_,h2⟩
 have hl:=h1.1;rw[Mx];intro u hu;obtain⟨j,hj,rfl⟩:=List.getElem_of_mem hu;by_cases h0:sz=0
 ·subst h0;simp at hl;subst hl;simp at hj
 ·have hq:j / sz<xs.length:=by rw[Nat.div_lt_iff_lt_mul (by omega)];omega
  have:=Mx.1 (hc _ _ _ (h2 _ hq)) cs[j] (by
   have hdm:=Nat.div_add_mod' j sz;have hm:=Nat.mod_lt j (show 0<sz by omega);rw[List.mem_iff_getElem?];refine⟨j % sz,?_⟩
   rw[chunk,MK hm,No,hdm,Mt hj])
  exact this
def RSl.src(o:RSl sz R d v xs)(hc:FL R)(_:0<sz)(Lk:List Aa):Src sz R d Lk v xs:=by
 obtain⟨a,c,b,o,rfl,h2,h3,h4,h5,h6,h7,h8⟩:=o;have key:∀n,n≤xs.length→∃news:List Value,news.length=n*sz∧(∀j u,news[j]?=some u→DC d b (o+j) u)∧(news.all (·.oneCell'))=true∧∀i (hi:i<n) (hi':i<xs.length),R d (chunk news i sz) xs[i]:=by
  intro n;induction n with
  |zero=>exact fun _=>⟨[],by simp,fun j u hu=>by simp at hu,rfl,fun i hi=>absurd hi (Ns i)⟩
  |succ n ih=>
   intro hn
   obtain⟨news,k1,k2,k3,k4⟩:=ih (by omega)
   obtain⟨cs,m1,m2,m3⟩:=h8 n (by omega)
   refine⟨news++cs,by simp[k1,m1,MT],fun j u hu=>?_,?_,fun i hi hi'=>?_⟩
   ·rw[List.getElem?_append] at hu
    split at hu
    ·exact k2 j u hu
    ·rename_i hj
     have:=m2.at hu
     rw[k1] at this
     rw[show o+j=o+n*sz+(j - n*sz) by omega]
     exact this
   ·rw[List.all_append,k3,hc _ _ _ m3];rfl
   ·by_cases e:i<n
    ·rw[CC k1 e];exact k4 i e hi'
    ·obtain rfl:i=n:=by omega
     rw[Cq k1 (MR _),Nat.sub_self]
     have:chunk cs 0 sz=cs:=by simp[chunk,←m1]
     rw[this];exact m3
 obtain⟨news,k1,k2,k3,k4⟩:=key xs.length (MR _);refine⟨news,⟨a,c,rfl,k1,fun e=>?_,fun a' ha i u hu=>?_⟩,k3,fun i hi=>k4 i hi hi⟩
 ·cases xs with
  |nil=>exact MM (by simpa using k1)
  |cons x xs=>have:=h2 (by simp);rw[e] at this;cases this
 ·have h0:xs.length≠0:=by
   intro h0;rw[h0,Nat.zero_mul] at k1;rw[MM k1] at hu;simp at hu
  have e:=h2 h0;rw[ha] at e;cases e;rw[Addr.add_lit];exact DT (k2 i u hu)
def Src.lit{Lk}{b c n:Nat}{cs}{ys:List α}(i:Nat)(hi:Lk[i]?=some (bx b T cs))(hn:n=ys.length)(hl:cs.length=ys.length*sz)(h1:(cs.all (·.oneCell'))=true)
  (h2:∀i (hi:i<ys.length),R d (chunk cs i sz) ys[i]):Src sz R d Lk (.slice (some ⟨b,0,none⟩) n c) ys:=by
 subst hn
 exact⟨cs,RdX.lit i hi hl,h1,h2⟩
def Ai.lit{b n:Nat}{cs}(hn:n=xs.length)(hl:cs.length=xs.length*sz)(hx:xs.length≤140737488355328)(h2:∀i (hi:i<xs.length),R d (chunk cs i sz) xs[i]):
  Ai sz R d (.slice (some ⟨b,0,none⟩) n n) xs (bx b T cs):=by
 subst hn
 exact⟨cs,AJ.lit hl hx,h2⟩
def Ai.Hc{b:Nat}{cs}{x:α}(hl:cs.length=sz)(h2:R d cs x):Ai sz R d (.slice (some ⟨b,0,none⟩) 1 1) [x] (bx b T cs):=
 Ai.lit rfl (by simp[hl]) (by simp) (fun i hi=>by
  obtain rfl:i=0:=by simpa using hi
  have:chunk cs 0 sz=cs:=by simp[chunk,←hl]
  rw[this];exact h2)
end
def Ai.bytes{d v xs h}(o:Ai 1 BV d v xs h):AJ 1 v xs.length (xs.map AO) h:=by
 obtain⟨cs,h1,h2⟩:=o;have hl:=h1.1;have:cs=xs.map AO:=by
  apply List.ext_getElem
  ·simp at hl⊢;exact hl
  ·intro i h3 h4;have h5:i<xs.length:=by simpa using h4
   have h6:chunk cs i 1=[AO xs[i]]:=h2 i h5;simp only[chunk,Nat.mul_one] at h6;have h7:=congrArg (·[0]?) h6;simp only[MK (show 0<1 by omega),No,Nat.add_zero,Mt h3,List.getElem?_cons_zero,Option.some.injEq] at h7;simp[h7]
 rw[←this];exact h1
section
variable {P:Program}{pan:List PanicEntry→Ah}{Qn:Env→Ah}{Ls L:List Aa}{ρ:Env}{d:Aa}{s:GS}{t:Nat}{tk:Bool}
def LB{α}{sz by_:Nat}{R z x y}(i:Nat){v w}{xs ys:List α}{h}(ex:ev ρ x=v)(hi:L[i]?=some h)(ho:Ai sz R d v xs h)
  (ey:ev ρ y=w) (hs:Src sz R d (Ls++L++L) w ys) (hsz:0<sz) (hm:xs.length+ys.length≤140737488355328) (hb:(xs.length+ys.length)*by_≤140737488355328)
  (k:∀v' h',Ai sz R d v' (xs++ys) h'→gws P pan Qn s Ls (upd ρ t v') d (L.set i h')):gws P pan Qn (.op false ⟨some t,none,.app sz by_ z x y⟩ s) Ls ρ d L:=by
 obtain⟨cs,h1,h2⟩:=ho
 obtain⟨news,k1,k2,k3⟩:=hs
 have hl:=h1.1
 refine LZ i ex hi h1 ey k1 k2 hsz hm hb (fun v' h' o=>k v' h' ⟨cs++news,by rw[MH];exact o,fun j hj=>?_⟩)
 by_cases e:j<xs.length
 ·rw[CC hl e,List.getElem_append_left e];exact h2 j e
 ·rw[Cq hl (by omega),List.getElem_append_right (by omega)]
  exact k3 _ (by simp at hj;omega)
def D8{α:Type}{sz by_:Nat}{R:Aa→List Value→α→Prop}{z:List Value}{x y:Operand}(i:Nat){v w:Value}{xs ys:List α}{h g:Aa}(ex:ev ρ x=v)(hi:L[i]?=some h)(ho:Ai sz R d v xs h)
  (ey:ev ρ y=w) (hs:Ai sz R d w ys g) (hc:FL R) (hsz:0<sz) (hm:xs.length+ys.length≤140737488355328) (hb:(xs.length+ys.length)*by_≤140737488355328)
  (k:∀v' h',Ai sz R d v' (xs++ys) h'→gws P pan Qn s Ls (upd ρ t v') d (L.set i h')):gws P pan Qn (.op false ⟨some t,none,.app sz by_ z x y⟩ s) Ls ρ d (g::L):=by
 obtain⟨cs,h1,h2⟩:=ho
 obtain⟨news,k1,k2,k3⟩:=(hs.src hc (by simp):Src sz R d (Ls++(g::L)++(g::L)) w ys)
 have hl:=h1.1
 refine IN (i+1) ex (by simpa using hi) h1 ey k1 k2 hsz hm hb (fun v' h' o=>⟨d,L.set i h',?_,k v' h' ⟨cs++news,by rw[MH];exact o,fun j hj=>?_⟩⟩)
 ·rw[List.set_cons_succ]
  exact Vs.drop (MU _ _)
 ·by_cases e:j<xs.length
  ·rw[CC hl e,List.getElem_append_left e];exact h2 j e
  ·rw[Cq hl (by omega),List.getElem_append_right (by omega)]
   exact k3 _ (by simp at hj;omega)
def LH{α:Type}{sz:Nat}{R:Aa→List Value→α→Prop}{x:Operand}{v:Value}{xs:List α}{h:Aa}(ex:ev ρ x=v)(hr:Ai sz R d v xs h)(k:gws P pan Qn s Ls (upd ρ t (vZ xs.length)) d L):
  gws P pan Qn (.op tk ⟨some t,none,.len x⟩ s) Ls ρ d L:=by
 obtain⟨a,c,rfl⟩:=hr.val
 exact BU ex k
def Lg{α}{sz:Nat}{R x i v}{xs:List α}{k}{j:Int}{m:Nat}(ex:ev ρ x=v)(hr:RSl sz R d v xs)(ei:ev ρ i=.int k j)(hm:j=(m:Int))(hl:m<xs.length)
  (h:∀b o cs,cs.length=sz→DCs d b o cs→R d cs xs[m]→gws P pan Qn s Ls (upd ρ t (.pointer (some ⟨b,o,none⟩))) d L):gws P pan Qn (.op tk ⟨some t,none,.idx sz x i⟩ s) Ls ρ d L:=by
 obtain⟨a,c,b,o,rfl,h2,h3,h4,h5,h6,h7,h8⟩:=hr
 obtain⟨cs,k1,k2,k3⟩:=h8 m hl
 exact Kn m ex ei hm hl h2 (h b _ cs k1 k2 k3)
end
section
variable {P:Program}{Q:AP}{ρ:Env}{d:Aa}{L:List Aa}
end
section
variable {P:Program}{pan:List PanicEntry→Ah}{Qn:Env→Ah}{Ls L:List Aa}{ρ:Env}{d:Aa}{s t:GS}{g:GOp}
def LN(h1:gws P pan Qn (.op false g s) Ls ρ d L)(h2:gws P pan Qn t Ls ρ d L):gws P pan Qn (.alt g s t) Ls ρ d L:=⟨h1,h2⟩
def F2(h:∃d1 L1,Vs d L d1 L1∧Qn ρ d1 L1):gws P pan Qn .done [] ρ d L:=h
def A7{C:Addr→Value→Prop}{t:Nat}{v}(e:ρ t=v):FQ ρ C (.tmp t) v:=e.symm
def Ey{res:List Du}{R}(vs:List Value){L'}(hr:Dh ρ (HC d L) res vs)(hs:L'.Sublist L)(h:R (.returned (Hi vs)) d L'):Bq res R ρ d L:=
 ⟨vs,hr,d,L',Vs.drop hs,h⟩
end
section
variable {P:Program}{pan:List PanicEntry→Ah}{Qn:Env→Ah}{Ls L:List Aa}{ρ:Env}{d:Aa}{s:GS}{t:Nat}{tk:Bool}
end
def Aj.LQ{P args d L R R'}
  (h:Aj P f args d L R) (hr:∀e d' L',Le d d'→R e d' L'→∃d2 L2,Vs d' L' d2 L2∧R' e d2 L2):Aj P f args d L R':=
 ⟨h.1,fun F W x=>(h.2 F W x).mono fun e W' ⟨d',L',a,b,c,r⟩=>let ⟨d2,L2,v,r2⟩:=hr e d' L' b r;⟨d2,L2,v.2 F W' a,b.trans v.1,c,r2⟩⟩
def Aj.Im{P args d L R R'}
  (h:Aj P f args d L (Ret R)) (hr:∀v d' L',Le d d'→R v d' L'→∃d2 L2,Vs d' L' d2 L2∧R' v d2 L2):Aj P f args d L (Ret R'):=
 h.LQ (fun e d' L' hl r=>by
  cases e with
  |returned v=>exact hr v d' L' hl r
  |panicked c=>exact r.elim
  |outgrown=>exact r.elim)
end
section
def CZ:List Aa→Aa
 |[]=>emp
 |h::L=>join h (CZ L)
def Da:∀{L h},h∈L→Le h (CZ L)
 |k::L,h,hm=>by
  rcases MO.1 hm with rfl|hm
  ·exact Le.Ap _ _
  ·exact(Da hm).trans (Le.AF _ _)
def FA{k}:∀{L},(∀h∈L,BJ k h)→BJ k (CZ L)
 |[],_=>fun _ _ _ _ e=>e.elim
 |h::_,hd=>fun b o o' e e'=>e'.elim (hd h (MN ..) b o o' e) (FA (fun h' hm=>hd h' (MX _ hm)) b o o' e)
def Vs.cons{d d' h L L'}(v:Vs d L d' L'):Vs d (h::L) d' (h::L'):=
 ⟨v.1,fun F W x=>(v.2 (h::F) W (x.perm (List.perm_middle.symm.cons d))).perm (List.perm_middle.cons d')⟩
def Vs.HQ{d L0}:∀{L},L.Pairwise BJ→Vs d (CZ L::L0) d (L++L0)
 |[],_=>Vs.drop (MU _ _)
 |h::L,hp=>by
  rw[List.pairwise_cons] at hp;exact(Vs.split (FA hp.1)).trans (Vs.cons (Vs.HQ hp.2))
def Vs.H5{d L0}:∀{L},Vs d (L++L0) d (CZ L::L0)
 |[]=>Vs.emp
 |_::L=>(Vs.cons (Vs.H5 (L:=L))).trans Vs.join
def Ok.pw{d L F W}(x:Ok (d::(L++F)) W):(d::L).Pairwise BJ:=x.1.sublist ((List.sublist_append_left L F).cons_cons d)
def BG.borrow{P vs d L v}(h:∀d1,Le d d1→(∀k∈L,Le k d1)→BG P f vs d1 v):
  Aj P f vs d L (Ret fun r d' L'=>r=v∧d'=d∧L'=L):=by
 have h:=h (CZ (d::L)) (Da (MN ..)) (fun k hk=>Da (MX _ hk))
 refine⟨h.1,fun F W x=>?_⟩
 have hp:=x.pw
 have y:Ok (CZ (d::L)::([]++F)) W:=by
  have:=(Vs.H5 (d:=emp) (L0:=F) (L:=d::L)).2 [] W (by simpa using x.emp);simpa using this.tail
 refine(h.2 F W y).mono fun e W' ⟨d',L',a,b,c,r⟩=>?_
 cases e with
 |panicked c=>exact r.elim
 |outgrown=>exact r.elim
 |returned u=>
  obtain⟨rfl,rfl,rfl⟩:=r
  refine⟨d,L,?_,Le.refl d,c,rfl,rfl,rfl⟩
  have:=(Vs.HQ (d:=emp) (L0:=F) hp).2 [] W' (by simpa using a.emp)
  simpa using this.tail
section
variable {P:Program}{pan:List PanicEntry→Ah}{Qn:Env→Ah}{Ls L:List Aa}{ρ:Env}{d:Aa}{s:GS}{t:Nat}{tk:Bool}
def C4{args R vs A B}(hL:L=A++B)(ea:args.map (ev ρ)=vs)(hc:Aj P f vs d A (Ret R))
  (h:∀v d' L',Le d d'→R v d' L'→gws P pan Qn s Ls (upd ρ t v) d' (L'++B)):gws P pan Qn (.op false ⟨some t,none,.call f args⟩ s) Ls ρ d L:=by
 subst hL
 refine Hw A.length ea (by rw[List.take_left];exact hc) (fun v d' L' hl hr=>?_)
 rw[List.drop_left];exact h v d' L' hl hr
end
section
variable {P:Program}{pan:List PanicEntry→Ah}{Qn:Env→Ah}{Ls L:List Aa}{ρ:Env}{d:Aa}{s:GS}{t:Nat}{tk:Bool}{α:Type}{sz:Nat}{R:Aa→List Value→α→Prop}{x y z:Operand}{v:Value}{xs:List α}{kk kk':IntKind}{n m:Nat}
end
section
variable {P:Program}{pan:List PanicEntry→Ah}{Qn:Env→Ah}{Ls L:List Aa}{ρ:Env}{d:Aa}{s:GS}{t:Nat}
end
section
variable {P:Program}{Q:AP}{ρ:Env}{d:Aa}{L:List Aa}
def DN{s}(Ls L1:List Aa)(hL:L=Ls++L1)(h:gws P Q.pan Q.n s Ls ρ d L1):gwp P (.reg true s) Q ρ d L:=⟨d,Ls,L1,by rw[hL];exact Vs.refl d _,h⟩
def Cm{res:List Du}{R}(vs:List Value){d' L'}(hr:Dh ρ (HC d L) res vs)(hs:Vs d L d' L')(h:R (.returned (Hi vs)) d' L'):Bq res R ρ d L:=
 ⟨vs,hr,d',L',hs,h⟩
end
def Jm{l}{m:Nat}{x}(h:m<l.length):patch l m [x]=l.set m x:=by
 rw[List.set_eq_take_append_cons_drop,if_pos h];simp[patch]
def AJ.Mg{n:Nat}{v us h}(o:AJ 1 v n us h){m:Nat}(hm:m<n):
  ∃b T l c,v=.slice (some ⟨b,0,none⟩) n c∧h=bx b T l∧m<l.length∧(∀u,us[m]?=some u→l[m]?=some u)∧∀x,AJ 1 v n (us.set m x) (bx b T (patch l m [x])):=by
 obtain⟨h1,h2,⟨rfl,rfl,rfl⟩|⟨b,T,l,c,rfl,rfl,h3,h4,h5,h6⟩⟩:=o
 ·omega
 ·have hml:m<l.length:=by omega
  refine⟨b,T,l,c,rfl,rfl,hml,fun u hu=>?_,fun x=>?_⟩
  ·rw[←h6] at hu
   rw[MK (by omega)] at hu
   exact hu
  ·rw[Jm hml]
   refine⟨by simpa using h1,h2,.inr ⟨b,T,l.set m x,c,rfl,rfl,h3,h4,by simpa using h5,?_⟩⟩
   rw[M0,List.take_set,h6]
def Ai.CH{d v xs h}(o:Ai 1 BV d v xs h){m:Nat}(hm:m<xs.length):
  ∃b T l c,v=.slice (some ⟨b,0,none⟩) xs.length c∧h=bx b T l∧m<l.length∧l[m]?=some (AO xs[m])∧∀y,Ai 1 BV d v (xs.set m y) (bx b T (patch l m [AO y])):=by
 obtain⟨b,T,l,c,h1,h2,h3,h4,h5⟩:=o.bytes.Mg hm
 refine⟨b,T,l,c,h1,h2,h3,h4 _ (by simp[hm]),fun y=>?_⟩
 have:=h5 (AO y)
 rw[←List.map_set] at this
 refine⟨(xs.set m y).map AO,by rw[M0];exact this,fun i hi=>?_⟩
 simp only[BV,chunk,Nat.mul_one,←List.map_drop,←List.map_take]
 rw[M5 hi];rfl
section
variable {P:Program}{pan:List PanicEntry→Ah}{Qn:Env→Ah}{Ls L:List Aa}{ρ:Env}{d:Aa}{s:GS}{t:Nat}{tk:Bool}
end
end
section
def Aj.borrow{P vs d L}{Q:Value→List Aa→Prop}(h:∀d1,Le d d1→(∀k∈L,Le k d1)→Aj P f vs d1 [] (Ret fun r d' L'=>d'=d1∧Q r L')):
  Aj P f vs d L (Ret fun r d' L'=>d'=d∧∃L1,L'=L1++L∧Q r L1):=by
 have h:=h (CZ (d::L)) (Da (MN ..)) (fun k hk=>Da (MX _ hk))
 refine⟨h.1,fun F W x=>?_⟩
 have hp:=x.pw
 have y:Ok (CZ (d::L)::([]++F)) W:=by
  have:=(Vs.H5 (d:=emp) (L0:=F) (L:=d::L)).2 [] W (by simpa using x.emp);simpa using this.tail
 refine(h.2 F W y).mono fun e W' ⟨d',L',a,b,c,r⟩=>?_
 cases e with
 |panicked c=>exact r.elim
 |outgrown=>exact r.elim
 |returned u=>
  obtain⟨rfl,r⟩:=r
  refine⟨d,L'++L,?_,Le.refl d,c,rfl,L',rfl,r⟩
  have:=(Vs.HQ (d:=emp) (L0:=L'++F) hp).2 [] W' (by simpa using a.emp)
  have z:Ok ((d::L)++(L'++F)) W':=by simpa using this.tail
  refine z.perm ?_
  simp only[List.cons_append,Mq]
  refine My d ?_
  rw[←Mq,←Mq]
  exact List.Perm.append_right F MJ
section
variable {P:Program}{pan:List PanicEntry→Ah}{Qn:Env→Ah}{Ls L:List Aa}{ρ:Env}{d:Aa}{s:GS}{t:Nat}{tk:Bool}
def GC{n:Nat}{x y}{b o:Nat}{l}(i:Nat)(l':List Value)(hi:L[i]?=some (bx b T l))(ex:ev ρ x=.pointer (some ⟨b,o,none⟩))(ey:ev ρ y=v)
  (hn:v.cells.size=n) (hl:o+n≤l.length) (h1:(v.cells.toList.all (·.oneCell'))=true) (hp:patch l o v.cells.toList=l') (h:gws P pan Qn s Ls ρ d (L.set i (bx b T l'))):
  gws P pan Qn (.op false ⟨none,none,.st n x y⟩ s) Ls ρ d L:=by subst hp;exact Ln i hi ex ey hn hl h1 h
def HI{args}{Q:Value→List Aa→Prop}{vs}(ea:args.map (ev ρ)=vs)(hc:∀d1,Le d d1→(∀k∈L,Le k d1)→Aj P f vs d1 [] (Ret fun r d' L'=>d'=d1∧Q r L'))
  (h:∀r L',Q r L'→gws P pan Qn s Ls (upd ρ t r) d (L'++L)):gws P pan Qn (.op false ⟨some t,none,.call f args⟩ s) Ls ρ d L:=by
 refine Hw (R:=fun r d' L'=>d'=d∧∃L1,L'=L1++L∧Q r L1) L.length ea (by rw[List.take_length];exact Aj.borrow hc) (fun r d' L' _ ⟨h1,L1,h2,h3⟩=>?_)
 subst h1;subst h2
 rw[List.drop_length,M9];exact h r L1 h3
end
def Ai.I8{d d' xs h}(o:Ai 1 RBs d v xs h)(hl:Le d d'):Ai 1 RBs d' v xs h:=Ai.mono (R:=RBs) KG o hl
def Ai.Kj{d d'}{xs:List Int}{h}(o:Ai 1 AT d v xs h)(hl:Le d d'):Ai 1 AT d' v xs h:=Ai.mono (R:=AT) Ce o hl
end
section
section
variable {P:Program}{Q:AP}{ρ:Env}{d:Aa}{L:List Aa}
def Dc{b:Bz}(h:xwp P a {Q with n:=xwp P b Q} ρ d L):xwp P (.seq a b) Q ρ d L:=h
def x_g{c:AZ}(h:gwp P c Q ρ d L):xwp P (.g c) Q ρ d L:=h
def HK{id:Nat}(h:xwp P a {Q with ex:=fun j=>if j=id then Q.n else Q.ex j} ρ d L):xwp P (.block id a) Q ρ d L:=h
def HH{c:Bz}(l:List (Nat×Value))(e:AE ρ l)(h:xwp P c Q (DQ ρ l) d L):xwp P c Q ρ d L:=by rwa [Dq e] at h
end
def BX{P}:∀(c:Bz) {Q Q':AP}{ρ d L},xwp P c Q ρ d L→(∀ρ d L,Q.n ρ d L→Q'.n ρ d L)→(∀i ρ d L,Q.ex i ρ d L→Q'.ex i ρ d L)→
  (∀ρ d L,Q.ret ρ d L→Q'.ret ρ d L)→Q.pan=Q'.pan→xwp P c Q' ρ d L
 |.g c,_,_,_,_,_,h,h1,h2,h3,h4=>BC c h h1 h2 h3 h4
 |.seq a b,_,_,_,_,_,h,h1,h2,h3,h4=>BX a h (fun _ _ _ h=>BX b h h1 h2 h3 h4) h2 h3 h4
 |.cond c a b,_,_,_,_,_,⟨t,e,k1,k2⟩,h1,h2,h3,h4=>⟨t,e,fun q=>BX a (k1 q) h1 h2 h3 h4,fun q=>BX b (k2 q) h1 h2 h3 h4⟩
 |.block id a,Q,Q',_,_,_,h,h1,h2,h3,h4=>by
  refine BX a (Q:={Q with ex:=fun j=>if j=id then Q.n else Q.ex j}) (Q':={Q' with ex:=fun j=>if j=id then Q'.n else Q'.ex j}) h h1 (fun i ρ d L hq=>?_) h3 h4;simp only at hq⊢;split at hq
  ·rename_i e;rw[if_pos e];exact h1 _ _ _ hq
  ·rename_i e;rw[if_neg e];exact h2 _ _ _ _ hq
 |.loop a,Q,Q',_,_,_,⟨I,⟨m,hI⟩,round⟩,h1,h2,h3,h4=>
  ⟨I,⟨m,hI⟩,fun m ρ d L hi=>BX a (Q:={Q with n:=_}) (Q':={Q' with n:=_}) (round m ρ d L hi) (fun _ _ _ h=>h) h2 h3 h4⟩
 |.yl pre dst f args post,Q,Q',_,_,_,h,h1,_,_,h4=>by
  simp only[xwp] at h⊢;rw[←h4];refine Ba (fun ρ d L hm=>?_) pre h;obtain⟨l,A,B,R,e1,e2,hy,hR⟩:=hm;exact⟨l,A,B,R,e1,e2,hy,fun v d2 L2 hl hr=>by rw[←h4];exact Ba h1 post (hR v d2 L2 hl hr)⟩
 |.snd pre dst ch x post,Q,Q',_,_,_,h,h1,_,_,h4=>by
  simp only[xwp] at h⊢;rw[←h4];refine Ba (fun ρ d L hm=>?_) pre h;obtain⟨i,c,cap,buf,s,r,tm,e1,e2,e3,hR⟩:=hm;exact⟨i,c,cap,buf,s,r,tm,e1,e2,e3,by rw[←h4];exact Ba h1 post hR⟩
 |.sel pre dst ch z post,Q,Q',_,_,_,h,h1,_,_,h4=>by
  simp only[xwp] at h⊢;rw[←h4];refine Ba (fun ρ d L hm=>?_) pre h;obtain⟨i,c,cap,buf,s,r,tm,e1,e2,k1,k2⟩:=hm;exact⟨i,c,cap,buf,s,r,tm,e1,e2,fun v rest e=>by rw[←h4];exact Ba h1 post (k1 v rest e),fun e=>by rw[←h4];exact Ba h1 post (k2 e)⟩
 |.rf f ps as bd,_,_,_,_,_,⟨g,first,cap,e1,hit⟩,h1,h2,h3,h4=>by
  refine⟨g,first,cap,e1,fun l rc k1 k2 k3=>?_⟩
  obtain⟨R,hc,hR⟩:=hit l rc k1 k2 k3;refine⟨R,hc,fun e d' L' hl hr=>?_⟩
  obtain⟨v,rc',L'',q1,q2,q3,q4⟩:=hR e d' L' hl hr;refine⟨v,rc',L'',q1,q2,q3,?_⟩
  cases hp:rc'.pending with
  |none=>rw[hp] at q4;exact h1 _ _ _ q4
  |some j=>
   rw[hp] at q4
   cases j with
   |exit id=>exact h2 _ _ _ _ q4
   |ret=>exact h3 _ _ _ q4
   |_=>exact q4
def JR{P}{c:Bz}{Q:AP}{N N':Env→Ah}(hn:∀ρ d L,N ρ d L→N' ρ d L){ρ d L}(h:xwp P c {Q with n:=N} ρ d L):xwp P c {Q with n:=N'} ρ d L:=
 BX c h hn (fun _ _ _ _ h=>h) (fun _ _ _ h=>h) rfl
section
variable {P:Program}{Q:AP}{ρ:Env}{d:Aa}{L:List Aa}
def KA{α}(slots:α→List (Nat×Value))(inv:α→Aa→List Aa→Prop)(meas:α→Nat)(x0:α)(h0:AE ρ (slots x0))(i0:inv x0 d L)
  (round:∀x ρ d L,inv x d L→xwp P a {Q with n:=fun ρ d L=>∃x',meas x'<meas x∧AE ρ (slots x')∧inv x' d L} (DQ ρ (slots x)) d L):xwp P (.loop a) Q ρ d L:=by
 refine⟨fun m ρ d L=>∃x,meas x=m∧AE ρ (slots x)∧inv x d L,⟨meas x0,x0,rfl,h0,i0⟩,?_⟩
 rintro m ρ d L ⟨x,rfl,h1,h2⟩
 exact HH _ h1 (JR (fun ρ' d' L' ⟨x',k1,k2,k3⟩=>⟨meas x',k1,x',rfl,k2,k3⟩) (round x ρ d L h2))
def Mh{pre}{dst:Option Nat}{ch x}(h:gws P Q.pan (FB P Q dst ch x post) pre [] ρ d L):xwp P (.snd pre dst ch x post) Q ρ d L:=h
def K9{dst:Option Nat}{ch x}(i:Nat){c cap:Nat}{buf}{s r:Nat}{tm:Bool}(ec:ev ρ ch=.chan (some c))(hi:L[i]?=some (sg c (.chan cap buf.toArray false s r tm)))(hroom:buf.length<cap)(ex:ev ρ x=v)
  (k:gws P Q.pan Q.n post [] (put ρ dst undef) d (L.set i (sg c (.chan cap (buf++[v]).toArray false (s+1) r tm)))):FB P Q dst ch x post ρ d L:=
 ⟨i,c,cap,buf,s,r,tm,ec,hi,hroom,ex▸k⟩
end
end
section
section
variable {P:Program}{pan:List PanicEntry→Ah}{Qn:Env→Ah}{Ls L:List Aa}{ρ:Env}{d:Aa}{s:GS}{t:Nat}{tk:Bool}
def Fu{z x0 v0}(e0:ev ρ x0=v0)(c0:v0.cells= #[v0])(h:∀b T,gws P pan Qn s Ls (upd ρ t (.slice (some ⟨b,0,none⟩) 1 1)) d (bx b T [v0]::L)):
  gws P pan Qn (.op false ⟨some t,none,.bsl 1 1 [z] [(0,x0)]⟩ s) Ls ρ d L:=by
 refine Gz (by omega) ?_ h
 simp[Instr.fill,Aw,Mz,List.range.loop,e0,c0]
end
def Aj.forget{P args d L}{Q:Value→List Aa→Prop}(h:Aj P f args d L (Ret fun r _ L'=>Q r L')):Aj P f args d L (Ret fun r d' L'=>d'=d∧Q r L'):=
 ⟨h.1,fun F W x=>(h.2 F W x).mono fun e W' ⟨d',L',a,b,c,r⟩=>⟨d,L',a.le b,Le.refl d,c,by
  cases e with
  |returned v=>exact⟨rfl,r⟩
  |panicked c=>exact r.elim
  |outgrown=>exact r.elim⟩⟩
def BG.of{P args d}(h:Aj P f args d [] (Ret fun r _ L'=>r=v∧L'=[])):BG P f args d v:=
 (Aj.forget (Q:=fun r L'=>r=v∧L'=[]) h).mono fun e d' L' _ r=>by
  cases e with
  |returned v=>exact⟨r.2.1,r.1,r.2.2⟩
  |panicked c=>exact r.elim
  |outgrown=>exact r.elim
section
variable {ρ:Env}{d:Aa}{L:List Aa}{t u:Nat}
end
end
section
section
variable {P:Program}{pan:List PanicEntry→Ah}{Qn:Env→Ah}{Ls L:List Aa}{ρ:Env}{d:Aa}{s:GS}{t:Nat}{tk:Bool}
end
end
section
section
variable {P:Program}{pan:List PanicEntry→Ah}{Qn:Env→Ah}{Ls L:List Aa}{ρ:Env}{d:Aa}{s:GS}{t:Nat}{tk:Bool}
end
end
end Go.Gk
end
section
namespace Go.Gk
open Go
section
variable {P:Program}{pan:List PanicEntry→Ah}{Qn:Env→Ah}{Ls L:List Aa}{ρ:Env}{d:Aa}{s:GS}
end
end Go.Gk
namespace Go.Gk
open Go
section
variable {P:Program}{pan:List PanicEntry→Ah}{Qn:Env→Ah}{Ls L:List Aa}{ρ:Env}{d:Aa}{s:GS}{t:Nat}{tk:Bool}
end
end Go.Gk
namespace Go.Gk
open Go
def Dm{l vs}{o k:Nat}(h:o+vs.length≤l.length):(patch l o vs)[k]?=if o≤k∧k<o+vs.length then vs[k - o]? else l[k]?:=by
 unfold patch;have hl:(l.take o).length=o:=by rw[MW];omega
 by_cases h1:k<o
 ·rw[if_neg (by omega),Mq,List.getElem?_append_left (by omega),MK h1]
 by_cases h2:k<o+vs.length
 ·rw[if_pos ⟨by omega,h2⟩,List.getElem?_append_left (by rw[MH];omega),List.getElem?_append_right (by omega),hl]
 ·rw[if_neg (by omega),List.getElem?_append_right (by rw[MH];omega),No,MH,hl];congr 1;omega
def Gr{l vs}{o:Nat}(h:o+vs.length≤l.length):(patch l o vs).length=l.length:=by
 unfold patch;simp only[MH,MW,Nn];omega
def H4{l vs}{o n:Nat}(h:o+vs.length≤n)(hn:n≤l.length):(patch l o vs).take n=patch (l.take n) o vs:=by
 refine Nu fun k=>?_;have hl:(l.take n).length=n:=by rw[MW];omega
 rw[Dm (by omega)];by_cases hk:k<n
 ·rw[MK hk,MK hk,Dm (by omega)]
 ·rw[if_neg (by omega),MP (by rw[MW];omega),MP (by omega)]
def Ds{cs}{i sz k:Nat}:(chunk cs i sz)[k]?=if k<sz then cs[i*sz+k]? else none:=by
 unfold chunk;by_cases h:k<sz
 ·rw[MK h,No,if_pos h]
 ·rw[if_neg h,MP (by rw[MW];omega)]
def Hr{cs vs}{i m sz n:Nat}(hl:cs.length=n*sz)(hv:vs.length=sz)(hm:m<n):chunk (patch cs (m*sz) vs) i sz=if i=m then vs else chunk cs i sz:=by
 have h1:m*sz+sz≤n*sz:=by have:=MF sz (show m+1≤n from hm);rwa [MT,Nk] at this
 refine Nu fun k=>?_;rw[Ds];by_cases e:i=m
 ·subst e;rw[if_pos rfl];by_cases hk:k<sz
  ·rw[if_pos hk,Dm (by omega),if_pos (by omega)];congr 1;omega
  ·rw[if_neg hk,MP (by omega)]
 ·rw[if_neg e,Ds];by_cases hk:k<sz
  ·rw[if_pos hk,if_pos hk,Dm (by omega),if_neg];rintro⟨a,b⟩;rcases Nat.lt_or_gt_of_ne e with q|q
   ·have:=MF sz (show i+1≤m from q);rw[MT,Nk] at this;omega
   ·have:=MF sz (show m+1≤i from q);rw[MT,Nk] at this;omega
  ·rw[if_neg hk,if_neg hk]
def Ai.LX{α}{sz:Nat}{R d v}{xs:List α}{h}(_:0<sz)(o:Ai sz R d v xs h){m:Nat}(hm:m<xs.length):
  ∃b T l c,v=.slice (some ⟨b,0,none⟩) xs.length c∧h=bx b T l∧m*sz+sz≤l.length∧∀cs' x,cs'.length=sz→R d cs' x→Ai sz R d v (xs.set m x) (bx b T (patch l (m*sz) cs')):=by
 obtain⟨cs,⟨h1,h2,⟨rfl,h0,rfl⟩|⟨b,T,l,c,rfl,rfl,h3,h4,h5,h6⟩⟩,hr⟩:=o
 ·omega
 ·have hmz:m*sz+sz≤xs.length*sz:=by have:=MF sz (show m+1≤xs.length from hm);rwa [MT,Nk] at this
  have hcz:xs.length*sz≤c*sz:=MF sz h3
  refine⟨b,T,l,c,rfl,rfl,by omega,fun cs' x hl hx=>⟨patch cs (m*sz) cs',?_,fun i hi=>?_⟩⟩
  ·have hp:(patch cs (m*sz) cs').length=cs.length:=Gr (by omega)
   refine⟨by rw[hp,M0,h1],by rw[M0];exact h2,.inr ⟨b,T,_,c,by rw[M0],rfl,by rw[M0];exact h3,h4,by rw[Gr (by omega)];exact h5,?_⟩⟩
   rw[hp,H4 (by omega) (by omega),h6]
  ·rw[Hr h1 hl hm]
   rw[M0] at hi
   by_cases e:i=m
   ·subst e
    rw[if_pos rfl,List.getElem_set_self];exact hx
   ·rw[if_neg e,List.getElem_set_ne (fun q=>e q.symm)];exact hr i hi
end Go.Gk
end
section
namespace Go.Gk
open Go
section
section
variable {P:Program}{pan:List PanicEntry→Ah}{Qn:Env→Ah}{Ls L:List Aa}{ρ:Env}{d:Aa}{s:GS}{t:Nat}{tk:Bool}
def LO{Q:AP}{c:AZ}(M:Env→Ah)(h:gwp P c {Q with n:=M} ρ d L)(k:∀ρ d L,M ρ d L→Q.n ρ d L):gwp P c Q ρ d L:=
 BC c h k (fun _ _ _ _ h=>h) (fun _ _ _ h=>h) rfl
end
end
section
section
variable {P:Program}{pan:List PanicEntry→Ah}{Qn:Env→Ah}{Ls L:List Aa}{ρ:Env}{d:Aa}{s:GS}{t:Nat}{tk:Bool}
end
end
section
section
variable {κ ν:Type}(kE:κ→Value) (vE:ν→Value)
def Mi(ms:List (κ×ν×Nat)):List MapEntry:=ms.map fun p=>⟨kE p.1,vE p.2.1,p.2.2⟩
def mp(b:Nat)(ms:List (κ×ν×Nat))(c:Nat):Aa:=sg b (.map (Mi kE vE ms).toArray c)
end
section
variable {κ ν:Type} [DecidableEq κ]
def Lo(k:κ):List (κ×ν×Nat)→Option ν
 |[]=>none
 |p::ms=>if k=p.1 then some p.2.1 else Lo k ms
end
section
variable {κ ν:Type}{kE:κ→Value}{vE:ν→Value}
variable {P:Program}{pan:List PanicEntry→Ah}{Qn:Env→Ah}{Ls L:List Aa}{ρ:Env}{d:Aa}{s:GS}{t:Nat}
def LP(kE:κ→Value)(vE:ν→Value)(h:∀b,gws P pan Qn s Ls (upd ρ t (.map (some b))) d (mp kE vE b [] 0::L)):gws P pan Qn (.op false ⟨some t,none,.mop .mk⟩ s) Ls ρ d L:=
 ⟨d,L,Vs.refl d L,fun b=>⟨_,_,Vs.refl _ _,h b⟩⟩
end
end
end Go.Gk
end
