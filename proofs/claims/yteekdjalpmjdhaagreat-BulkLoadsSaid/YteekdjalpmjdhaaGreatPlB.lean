/-
  Our own texts, one behind the other: Gk6 Gk7 GkSr Gk8 Gk9 Gk10 Gk11 Gk32 Gk33 Gk34 Gk35 Gk36 Gk37 Gk38 Gk12.
-/
import Derived.Deep.LoopGhost
import Derived.ProofKit
import Derived.OpenShut
import Derived.JoinedCond
import Derived.SizedLaws
import Derived.OrdersIn
import Derived.RangeFuncCalls
import Derived.RangeFuncLeaves
import Derived.RangeFuncRecord
import Derived.Sort.LoopGhostIn
import Derived.Conc.LoneSelect
import Derived.Test.YteekdjalpmjdhaaGreatPlA
set_option linter.defProp false
set_option linter.unusedVariables false
set_option linter.unusedSimpArgs false
open Nat renaming le_refl→Acj,zero_le→Adf,mul_le_mul_right→Adp,zero_add→Aee,add_mul→Aeg,le_trans→Aeq,mul_one→Afd,mod_eq_of_lt→Afh,le_of_not_lt→Agh,eq_of_beq_eq_true→Agz
open Bool renaming and_eq_true→Acb,false_eq_true→Ack,or_eq_true→Adu,not_eq_true'→Aes,not_eq_true→Afg,true_and→Afm,false_or→Agt,not_eq_false'→Agx
open List.Sublist renaming cons_cons→Aey
open List renaming append_assoc→Ace,getElem?_eq_getElem→Acf,mem_append→Ach,length_append→Aci,eq_nil_of_length_eq_zero→Acl,perm_append_comm→Acn,mem_cons_of_mem→Aco,replicate→Acq,length_take→Acs,drop_eq_getElem_cons→Acu,all_eq_true→Acv,mem_cons→Acw,mem_append_right→Acy,mem_append_left→Ada,getElem?_eq_some_iff→Adc,sublist_cons_self→Ade,range→Adg,mem_singleton→Adh,sublist_append_right→Adi,nil_sublist→Adj,map_append→Adl,append_nil→Adm,length_map→Adq,nil_append→Adr,length_drop→Ads,getElem?_take_of_lt→Adt,cons_append→Adv,getElem?_eq_none→Adx,take_of_length_le→Ady,perm_append_comm_assoc→Aeh,mem_of_getElem?→Aen,take_append_of_le_length→Aep,getElem?_map→Afc,drop_of_length_le→Afe,mem_range→Afl,mem_map→Aft,append_cancel_right→Afv,getD→Aga,take_left→Agc,perm_middle→Agg,toArray→Agi,mapM_cons→Ahg,drop_append→Ahj
open List.Perm renaming cons→Acr,swap→Adb
open Option renaming bind_eq_some_iff→Adk,map_eq_some_iff→Ado,bind_some→Aeu,map_some→Aff
section
namespace Go.Gk
open Go
variable{v:Value}{d:Ab}{T:TypeId}{x c y:Operand}{k:IntKind}{a b:Int}{i:GI}{p:Prop}{α:Type}
section
def Ok.le{d d':Ab}{hs:List Ab}{W:World}(x:Ok (d::hs) W)(h:Le d' d):Ok (d'::hs) W:=by
 rw[Ok.DV] at*;exact⟨x.1.le h,fun k hk=>(x.2.1 k hk).le h,x.2.2⟩
def lift(n:Nat)(ds:List Deferred)(F:List Ab)(W0:World)(d0:Ab)(Q:BK):Exit→Act→World→Prop
 |.normal,a,W=>∃ρ d L,a=act n ρ ds∧Ok (d::(L++F)) W∧Le d0 d∧AG W0 W∧Q.n ρ d L
 |.exit i,a,W=>∃ρ d L,a=act n ρ ds∧Ok (d::(L++F)) W∧Le d0 d∧AG W0 W∧Q.ex i ρ d L
 |.ret,a,W=>∃ρ d L,a=act n ρ ds∧Ok (d::(L++F)) W∧Le d0 d∧AG W0 W∧Q.ret ρ d L
 |.panic c,a,W=>a.defers=ds∧∃d L,Ok (d::(L++F)) W∧Le d0 d∧AG W0 W∧Q.pan c d L
 |_,_,_=>False
def GF{P:Program}{n:Nat}{ops:Array Oper}{o:Oper}{g:GOp}(h:G0 P n ops o=some g):
  (∀x∈o.op.operands,DM n x=true)∧(∀t,o.dst=some t→t<n)∧(∀cs b,o.op≠.select cs b)∧M7 P o=some g.i∧g.dst=o.dst∧
  ((o.guard=none∧g.guard=none)∨∃j want t,o.guard=some (j,want)∧(ops[j]?).bind (·.dst)=some t∧t<n∧g.guard=some (t,want)):=by
 unfold G0 at h
 split at h
 ·rename_i hc
  simp only[Acb] at hc
  obtain⟨⟨h1,h2⟩,h3⟩:=hc
  have h1':∀x∈o.op.operands,DM n x=true:=by
   intro x hx;exact(Acv.1 h1) x (by simpa using hx)
  have h2':∀t,o.dst=some t→t<n:=by
   intro t ht;rw[ht] at h2;simpa [Qp] using h2
  have h3':∀cs b,o.op≠.select cs b:=by
   intro cs b e;rw[e] at h3;simp[YT] at h3
  split at h
  ·cases h
  ·rename_i i hi
   split at h
   ·rename_i hg;cases h;exact⟨h1',h2',h3',hi,Z,.inl ⟨hg,Z⟩⟩
   ·rename_i j want hg
    split at h
    ·rename_i t ht
     split at h
     ·rename_i htn;cases h;exact⟨h1',h2',h3',hi,Z,.inr ⟨j,want,t,hg,ht,htn,Z⟩⟩
     ·cases h
    ·cases h
 ·cases h
def Gx{n:Nat}{ρ ds ops}{o:Oper}{j t:Nat}{want b:Bool}(hg:o.guard=some (j,want))(ht:(ops[j]?).bind (·.dst)=some t)(htn:t<n)
  (hb:ρ t=.bool b):Region.wanted o (yielded ops (act n ρ ds).tmps)=(b==want):=by
 have:yielded ops (act n ρ ds).tmps j=some b:=by
  unfold yielded;have h2:(act n ρ ds).tmps[t]?=some (.bool b):=by simp[act,htn,hb]
  simp only[ht,Aeu,h2]
 simp[Region.wanted,hg,this]
def HV{n:Nat}{ρ:Env}{ds:List Deferred}{ops:Array Oper}{o:Oper}{j t:Nat}{want:Bool}(hg:o.guard=some (j,want))(ht:(ops[j]?).bind (·.dst)=some t)(htn:t<n)
  (hb:ρ t=undef):Region.wanted o (yielded ops (act n ρ ds).tmps)=false:=by
 have:yielded ops (act n ρ ds).tmps j=none:=by
  unfold yielded;have h2:(act n ρ ds).tmps[t]?=some undef:=by simp[act,htn,hb]
  simp only[ht,Aeu,h2,undef]
 simp[Region.wanted,hg,this]
def He{P:Program}{n:Nat}{ds:List Deferred}{ops:Array Oper}{i:Nat}{o:Oper}{g:GOp}(hi:ops[i]?=some o)(hd:G0 P n ops o=some g)
  {pan:List PanicEntry→AL}{ρ:Env}{d:Ab}{Lk L F:List Ab}{K:Env→AL}{W:World}(hOk:Ok (d::(L++F)) W) (hl:∀k∈Lk,Sub k W) (hB:∀B,Lk=B++L→∃F',F.Perm (B++F'))
  (h:gop P pan g ρ d Lk L K) {Q:Exit→Act→World→Prop}{nxt:Act→World→Prop}
  (hK:∀ρ' d' L' W',Ok (d'::(L'++F)) W'→Le d d'→AG W W'→K ρ' d' L'→nxt (act n ρ' ds) W')
  (hP:∀c d' L' W',Ok (d'::(L'++F)) W'→Le d d'→AG W W'→pan c d' L'→Q (.panic c) (act n ρ ds) W'):wpOp P ops Q i nxt (act n ρ ds) W:=by
 obtain⟨hop,hdst,_,hdi,hgd,hgu⟩:=GF hd
 unfold wpOp
 simp only[hi]
 have run:gi P pan ρ d Lk L (fun v d' L'=>K (put ρ g.dst v) d' L') g.i→o.wp P (act n ρ ds) W nxt Q:=by
  intro h';refine Xv hdi hop hOk hl hB h' ?_ hP;intro v d' L' W' h1 h2 h3 h4;rw[Fa hdst,←hgd];exact hK _ _ _ _ h1 h2 h3 h4
 rcases hgu with ⟨hg,hg'⟩|⟨j,want,t,hg,ht,htn,hg'⟩
 ·have:Region.wanted o (yielded ops (act n ρ ds).tmps)=true:=by simp[Region.wanted,hg]
  simp only[this,if_true]
  simp only[gop,hg'] at h
  exact .inl (run h)
 ·simp only[gop,hg'] at h
  rcases h with ⟨b,hb,h1,h2⟩|⟨hb,h2⟩
  case inr=>
   rw[HV hg ht htn hb]
   simp only[Ack,if_false]
   rw[Fa hdst,←hgd]
   exact hK _ _ _ _ hOk (Le.refl d) (AG.refl W) h2
  rw[Gx hg ht htn hb]
  by_cases e:b=want
  ·subst e
   simp only[beq_self_eq_true,if_true]
   exact .inl (run (h1 Z))
  ·have e':(b==want)=false:=by simpa using e
   simp only[e',Ack,if_false]
   rw[Fa hdst,←hgd]
   exact hK _ _ _ _ hOk (Le.refl d) (AG.refl W) (h2 (by cases b<;>cases want<;>simp_all))
def D4{P:Program}{n:Nat}{ds:List Deferred}{ops:Array Oper}{Q:BK}{F:List Ab}{W0:World}{d0:Ab}:∀(l:List Nat) (s:GS),BV P n ops (Dh l)=some s→
  ∀(ρ:Env) (d:Ab) (L:List Ab) (W:World),gws P Q.pan Q.n s [] ρ d L→Ok (d::(L++F)) W→Le d0 d→AG W0 W→wpOps P ops (lift n ds F W0 d0 Q) l (act n ρ ds) W
 |[],s,hs,ρ,d,L,W,h,hOk,hle,hk=>by
  simp[Dh,BV] at hs;subst hs;obtain⟨d1,L1,hv,hq⟩:=h;exact⟨ρ,d1,L1,Z,hv.2 F W (by simpa using hOk),hle.trans hv.1,hk,hq⟩
 |i::l,s,hs,ρ,d,L,W,h,hOk,hle,hk=>by
  simp only[Dh,BV] at hs;split at hs<;>try cases hs
  rename_i g s' hg hs';rw[Adk] at hg;obtain⟨o,ho,hd⟩:=hg;obtain⟨d1,L1,hv,h⟩:=h;rw[wpOps_cons];have hOk1:=hv.2 F W hOk;refine He ho hd hOk1 (fun k hk=>hOk1.2 k (by simp at hk;simp[hk])) (fun B hB=>⟨F,by rw[←Afv hB];exact List.Perm.refl _⟩) h ?_ ?_
  ·intro ρ' d' L' W' h1 h2 h3 ⟨d2,L2,hv2,h4⟩;exact D4 l s' hs' ρ' d2 L2 W' h4 (hv2.2 F W' h1) (hle.trans ((hv.1.trans h2).trans hv2.1)) (hk.trans h3)
  ·intro c d' L' W' h1 h2 h3 h4;exact⟨Z,d',L',h1,hle.trans (hv.1.trans h2),hk.trans h3,h4⟩
section
variable {P:Program}{ops:Array Oper}{Q:Exit→Act→World→Prop}
def Closed(ops:Array Oper)(listed:Array Bool):Prop:=∀(j:Nat) (oj:Oper),ops[j]?=some oj→listed.getD j false=true→∀e∈oj.after,Region.binds .any e=true→listed.getD e.on false=true
def Closed.set{listed}(h:Closed ops listed){i:Nat}(hi:i∈Region.ready .any ops listed):Closed ops (listed.setIfInBounds i true):=by
 intro j oj hj hl e he hb;by_cases hij:i=j
 ·subst hij;obtain⟨-,o,ho,hall⟩:=mem_ready.1 hi;rw[hj] at ho;cases ho;exact getD_set_true (hall e he hb)
 ·rw[getD_set_ne false hij] at hl;exact getD_set_true (h j oj hj hl e he hb)
def PK{j x:Nat}(h:x∈LR ops j):∃oj,ops[j]?=some oj∧∃e∈oj.after,Region.binds .any e=true∧e.on=x:=by
 unfold LR at h;cases ho:ops[j]? with
 |none=>rw[ho] at h;simp at h
 |some o=>
  rw[ho] at h
  simp only[Aff,Option.getD_some,Aft,List.mem_filter] at h
  obtain⟨e,⟨h1,h2⟩,h3⟩:=h
  exact⟨o,Z,e,by simpa using h1,h2,h3⟩
def JU{listed:Array Bool}(hc:Closed ops listed):∀(l m:List Nat),(∀x∈m,listed.getD x false=true)→∀x∈Ro ops l m,listed.getD x false=true
 |[],m,h=>h
 |i::l,m,h=>by
  refine JU hc l _ (fun x hx=>?_);split at hx
  ·rename_i hm;rcases Ach.1 hx with hx|hx
   ·obtain⟨oj,h1,e,h2,h3,rfl⟩:=PK hx;exact hc i oj h1 (h i (by simpa using hm)) e h2 h3
   ·exact h x hx
  ·exact h x hx
def P6{bs:List Bool}(h:H9 ops bs=true){listed:Array Bool}(hc:Closed ops listed){i j:Nat}{oi oj:Oper}(hi:ops[i]?=some oi)(hj:ops[j]?=some oj)(bj:bs.getD j false=true)(bi:bs.getD i false=false)
  (hall:∀e∈oj.after,Region.binds .any e=true→listed.getD e.on false=true):listed.getD i false=true:=by
 have hil:=(Array.getElem?_eq_some_iff.1 hi).1
 have hjl:=(Array.getElem?_eq_some_iff.1 hj).1
 simp only[H9,Adu] at h
 rcases h with h|h
 ·simp only[OM,Acv,Afl,Adu] at h
  have h1:=h j hjl
  rw[bj] at h1
  rcases h1 with h1|h1
  ·cases h1
  ·rcases h1 i hil with h2|h2
   ·rw[bi] at h2;cases h2
   ·rw[hj] at h2
    simp only[Option.any_some,waits] at h2
    obtain⟨e,he,hb⟩:=Array.any_eq_true'.1 h2
    simp only[Acb,beq_iff_eq] at hb
    have:=hall e he hb.1
    rwa [hb.2] at this
 ·simp only[Acv,Afl,Adu,YO] at h
  have h1:=h j hjl
  rw[bj] at h1
  rcases h1 with h1|h1
  ·cases h1
  ·rcases h1 i hil with h2|h2
   ·rw[bi] at h2;cases h2
   ·refine JU hc _ _ (fun x hx=>?_) i (by simpa [cover] using h2)
    obtain⟨o,ho,e,he,hb,rfl⟩:=PK hx
    rw[hj] at ho;cases ho
    exact hall e he hb
def Cd(P:Program)(ops:Array Oper)(Q:Exit→Act→World→Prop)(S:Bool→World→Prop)(bs:List Bool):Nat→Array Bool→Act→World→Prop
 |0,listed,a,w=>Closed ops listed→Region.ready .any ops listed=[]∧Q .normal a w
 |k+1,listed,a,w=>Closed ops listed→(Region.ready .any ops listed=[]→Q .normal a w)∧
  ∀i∈Region.ready .any ops listed,wpOp P ops Q i (fun a' w'=>S (bs.getD i false) w'∧Cd P ops Q S bs k (listed.setIfInBounds i true) a' w') a w
def Cd.any{S:Bool→World→Prop}{bs:List Bool}:∀(k:Nat) (listed:Array Bool) (a:Act) (w:World),Closed ops listed→Cd P ops Q S bs k listed a w→wpAny P .any ops Q k listed a w
 |0,_,_,_,c,h=>h c
 |k+1,_,_,_,c,h=>⟨(h c).1,fun i hi=>wpOp_mono (fun a' w' h'=>Cd.any k _ a' w' (c.set hi) h'.2) ((h c).2 i hi)⟩
def Cd.mono{S S':Bool→World→Prop}{bs:List Bool}(hs:∀b w,S' b w→S b w):∀(k:Nat) (listed:Array Bool) (a:Act) (w:World),Cd P ops Q S' bs k listed a w→Cd P ops Q S bs k listed a w
 |0,_,_,_,h=>h
 |k+1,_,_,_,h=>fun c=>⟨(h c).1,fun i hi=>wpOp_mono (fun a' w' h'=>⟨hs _ _ h'.1,Cd.mono hs k _ a' w' h'.2⟩) ((h c).2 i hi)⟩
def Cd.done{S:Bool→World→Prop}{bs:List Bool}{listed}{a:Act}{w}(hr:Region.ready .any ops listed=[])(h:Q .normal a w):∀k,Cd P ops Q S bs k listed a w
 |0=>fun _=>⟨hr,h⟩
 |_+1=>fun _=>⟨fun _=>h,by rw[hr];simp⟩
def Cd.first{S:Bool→World→Prop}{bs:List Bool}{i:Nat}{oi:Oper}(hi:ops[i]?=some oi)(hsel:∀(j:Nat) (o:Oper) cs b,ops[j]?=some o→o.op≠.select cs b)
  (hQ:∀c a w,Q (.panic c) (a.put oi.dst v) w→Q (.panic c) a w) (hlast:H9 ops bs=true) (hS:∀w,S false w→S true w):
  ∀(k:Nat) (listed:Array Bool) (a:Act) (w:World),
   (∀j oj,ops[j]?=some oj→j≠i→listed.getD j true=false→(∀e∈oj.after,Region.binds .any e=true→e.on≠i)→oi.apart ops oj=true)→
   i∈Region.ready .any ops listed→YieldsIf P ops (S (bs.getD i false)) oi v a→S (bs.getD i false) w→
   Cd P ops Q S bs k (listed.setIfInBounds i true) (a.put oi.dst v) w→Cd P ops Q S bs (k+1) listed a w:=by
 intro k
 induction k with
 |zero=>
  intro listed a w _ hr hy hSw H hc
  refine⟨fun h=>(by rw[h] at hr;cases hr),fun j hj=>?_⟩
  by_cases hji:j=i
  ·subst hji;exact hy.wpOp hi hSw ⟨hSw,H⟩
  ·have:=ready_mono hj hji
   rw[(H (hc.set hr)).1] at this
   cases this
 |succ k ih=>
  intro listed a w hfree hr hy hSw H hc
  refine⟨fun h=>(by rw[h] at hr;cases hr),fun j hj=>?_⟩
  by_cases hji:j=i
  ·subst hji;exact hy.wpOp hi hSw ⟨hSw,H⟩
  ·have h1:=(H (hc.set hr)).2 j (ready_mono hj hji)
   obtain⟨hjun,oj,hoj,hall⟩:=mem_ready.1 hj
   have hnot:∀e∈oj.after,Region.binds .any e=true→e.on≠i:=fun e he hb heq=>by
    have h1:=hall e he hb;have h0:=(mem_ready.1 hr).1;rw[heq] at h1;rcases Nat.lt_or_ge i listed.size with h'|h'
    ·simp[h'] at h0 h1;rw[h0] at h1;cases h1
    ·simp[Array.getElem?_eq_none h'] at h1
   have hSj:∀w',S (bs.getD j false) w'→S (bs.getD i false) w':=by
    intro w' hw';cases bi:bs.getD i false with
    |true=>cases bj:bs.getD j false with
     |true=>rw[bj] at hw';exact hw'
     |false=>rw[bj] at hw';exact hS _ hw'
    |false=>cases bj:bs.getD j false with
     |false=>rw[bj] at hw';exact hw'
     |true=>
      have h1:=P6 hlast hc hi hoj bj bi hall
      have h0:=(mem_ready.1 hr).1
      rcases Nat.lt_or_ge i listed.size with h'|h'
      ·simp[h'] at h0 h1;rw[h0] at h1;cases h1
      ·simp[Array.getElem?_eq_none h'] at h1
   have h2:=wpOp_putIf hoj (hfree j oj hoj hji hjun hnot) (fun cs b=>hsel i oi cs b hi) (fun cs b=>hsel j oj cs b hoj) hQ hy h1
   have hfree':∀k ok,ops[k]?=some ok→k≠i→(listed.setIfInBounds j true).getD k true=false→
     (∀e∈ok.after,Region.binds .any e=true→e.on≠i)→oi.apart ops ok=true:=fun k ok hk hki hun hno=>by
    refine hfree k ok hk hki ?_ hno
    by_cases hjk:j=k
    ·subst hjk;exact hjun
    ·rw[getD_set_ne true hjk] at hun;exact hun
   refine wpOp_mono (fun a' w' h3=>⟨h3.2.1,ih (listed.setIfInBounds j true) a' w' hfree' (ready_mono hr (Ne.symm hji)) h3.1 (hSj _ h3.2.1) ?_⟩) h2
   rw[Array.setIfInBounds_comm _ _ hji]
   exact h3.2.2
end
def St(past:Bool)(d:Ab)(Ls F:List Ab)(b:Bool)(w:World):Prop:=Ok (d::F) w∧(b=false→past=false∧Ok (d::(Ls++F)) w)
def St.le{past:Bool}{d' Ls F}{b:Bool}{w}(h:St past d Ls F b w)(hl:Le d' d):St past d' Ls F b w:=
 ⟨h.1.le hl,fun e=>⟨(h.2 e).1,(h.2 e).2.le hl⟩⟩
def HD(l:Array Bool)(i j:Nat):(l.setIfInBounds i true)[j]?=if i=j then(l[j]?).map (fun _=>true) else l[j]?:=by
 rw[Array.getElem?_setIfInBounds];by_cases e:i=j
 ·subst e;rw[if_pos Z,if_pos Z];rcases Nat.lt_or_ge i l.size with h|h
  ·rw[if_pos h];simp[h]
  ·rw[if_neg (by omega)];simp[h]
 ·rw[if_neg e,if_neg e]
def BL:∀(xs:List Nat) (l:Array Bool) (j:Nat),(marked l xs)[j]?=if j∈xs then(l[j]?).map (fun _=>true) else l[j]?
 |[],l,j=>by simp[marked]
 |x::xs,l,j=>by
  have:=BL xs (l.setIfInBounds x true) j;show(marked (l.setIfInBounds x true) xs)[j]?=_;rw[this,HD];by_cases h1:j∈xs<;>by_cases h2:x=j<;>simp[h1,h2,eq_comm]
def CQ(xs:List Nat)(l:Array Bool)(i:Nat):marked (l.setIfInBounds i true) xs=(marked l xs).setIfInBounds i true:=by
 apply Array.ext_getElem?;intro j;rw[HD,BL,BL,HD];by_cases h1:j∈xs<;>by_cases h2:i=j<;>simp[h1,h2]
def Dm{xs:List Nat}{i:Nat}(h:i∈xs)(l:Array Bool):marked (l.setIfInBounds i true) xs=marked l xs:=by
 apply Array.ext_getElem?;intro j;rw[BL,BL,HD];by_cases h2:i=j
 ·subst h2;rw[if_pos h,if_pos h,if_pos Z];cases l[i]?<;>simp
 ·rw[if_neg h2]
def Ck{l:Array Bool}{i:Nat}:l.getD i true=false↔l[i]?=some false:=by
 rw[Array.getD_eq_getD_getElem?];cases l[i]?<;>simp
def N7{l:Array Bool}{i:Nat}:l.getD i false=true↔l[i]?=some true:=by
 rw[Array.getD_eq_getD_getElem?];cases l[i]?<;>simp
def EL{ops:Array Oper}{bs:List Bool}{la lb:List Nat}(h:HE ops bs la lb=true):(∀i∈la,bs.getD i false=false)∧(∀i∈lb,bs.getD i false=false)∧(∀i∈la,i∉lb)∧
  (∀i∈la,∀o,ops[i]?=some o→∀e∈o.after,Region.binds .any e=true→e.on∉lb)∧(∀i∈lb,∀o,ops[i]?=some o→∀e∈o.after,Region.binds .any e=true→e.on∉la):=by
 simp only[HE,Acb,Acv,Aes,decide_eq_true_eq] at h
 obtain⟨⟨⟨h1,h2⟩,h3⟩,h4⟩:=h
 have key:∀{la lb:List Nat},(∀i∈la,(ops[i]?.all fun o=>lb.all fun j=> !waits o j)=true)→∀i∈la,∀o,ops[i]?=some o→∀e∈o.after,Region.binds .any e=true→e.on∉lb:=by
  intro la lb h i hi o ho e he hb hm;have h5:=h i hi;rw[ho] at h5;simp only[Option.all_some,Acv,Aes] at h5;have h6:=h5 e.on hm;have:waits o e.on=true:=by
   unfold waits;rw[Array.any_eq_true'];exact⟨e,he,by simp[hb]⟩
  rw[this] at h6;cases h6
 exact⟨fun i hi=>(h1 i (by simp[hi])).1,fun i hi=>(h1 i (by simp[hi])).1,fun i hi hm=>by have:=h2 i hi;simp[hm] at this,key h3,key h4⟩
def Off.trans{X:List Nat}{a b c}(h:Off X a b)(k:Off X b c):Off X a c:=fun t ht=>(k t ht).trans (h t ht)
def Off.G8{X:List Nat}{ρ}{dst:Option Nat}(h:∀t,dst=some t→t∈X)(v:Value):Off X ρ (Gk.put ρ dst v):=by
 cases dst with
 |none=>exact fun _ _=>Z
 |some d=>
  intro t ht
  show upd ρ d v t=ρ t
  unfold upd
  cases e:Nat.beq t d with
  |true=>rw[Agz e] at ht;exact absurd (h d Z) ht
  |false=>rfl
def DH(A B X:List Ab):(A++(B++X)).Perm (B++(A++X)):=by
 rw[←Ace,←Ace];exact(Acn).append_right X
def Vs.front{d1 L L1}(Ls:List Ab)(h:Vs d L d1 L1):Vs d (Ls++L) d1 (Ls++L1):=
 ⟨h.1,fun F W x=>(h.2 (Ls++F) W (x.perm (Acr d (by rw[Ace];exact Gk.DH Ls L F)))).perm (Acr d1 (by rw[Ace];exact Gk.DH L1 Ls F))⟩
def Vs.behind{d1 L L1}(M:List Ab)(h:Vs d L d1 L1):Vs d (L++M) d1 (L1++M):=
 ⟨h.1,fun F W x=>by rw[Ace];exact h.2 (M++F) W (by rw[←Ace];exact x)⟩
def Vs.two{e1 e2 Ls L1 L2 M1 M2}(h1:Vs d (Ls++L1) e1 (Ls++M1))(h2:Vs d (Ls++L2) e2 (Ls++M2)):Vs d (Ls++(L1++L2)) (Gk.join e2 e1) (Ls++(M1++M2)):=by
 refine⟨h1.1.trans (Le.AZ _ _),fun F W x=>?_⟩
 have x1:Ok (d::((Ls++L1)++(L2++F))) W:=by simpa [Ace] using x
 have x2:=h1.2 (L2++F) W x1;have x3:Ok (e1::((Ls++L2)++(M1++F))) W:=x2.perm (Acr e1 (by
  rw[Ace,Ace];exact(Gk.DH M1 L2 F).append_left Ls))
 have x4:=(h2.up h1.1).2 (M1++F) W x3;exact x4.perm (Acr _ (by
  rw[Ace,Ace,Ace];exact(Gk.DH M2 M1 F).append_left Ls))
section
variable {ops:Array Oper}
def Nf{l:Array Bool}(xs:List Nat)(i:Nat)(hx:i∉xs)(hi:i∈Region.ready .any ops l):i∈Region.ready .any ops (marked l xs):=by
 obtain⟨e1,o,e2,e3⟩:=mem_ready.1 hi;refine mem_ready.2 ⟨?_,o,e2,fun e he hb=>?_⟩
 ·rw[Ck] at e1⊢;rw[BL,if_neg hx];exact e1
 ·have:=e3 e he hb;rw[N7] at this⊢;rw[BL,this];split<;>rfl
def FJ{l}{xs ys:List Nat}(hd:∀i∈xs,i∉ys)(hw:∀i∈xs,∀o,ops[i]?=some o→∀e∈o.after,Region.binds .any e=true→e.on∉ys){i:Nat}(hx:i∈xs)(hi:i∈Region.ready .any ops (marked l ys)):i∈Region.ready .any ops l:=by
 obtain⟨e1,o,e2,e3⟩:=mem_ready.1 hi;refine mem_ready.2 ⟨?_,o,e2,fun e he hb=>?_⟩
 ·rw[Ck] at e1⊢;rw[BL,if_neg (hd i hx)] at e1;exact e1
 ·have h3:=e3 e he hb;rw[N7] at h3⊢;rw[BL,if_neg (hw i hx o e2 e he hb)] at h3;exact h3
def NH(xs:List Nat)(l:Array Bool)(i:Nat)(hi:i∈xs):(marked l xs)[i]?≠some false:=by
 intro h;rw[BL,if_pos hi] at h;cases e:l[i]?<;>rw[e] at h<;>simp at h
def I4{l tgt}{xa xb:List Nat}(hdis:∀i∈xa,i∉xb)(ea:marked l xb=tgt)(eb:marked l xa=tgt):l=tgt:=by
 apply Array.ext_getElem?;intro j;by_cases hj:j∈xa
 ·rw[←ea,BL,if_neg (hdis j hj)]
 ·rw[←eb,BL,if_neg hj]
def PH{bs:List Bool}{xa xb ha hb:List Nat}{fa fb:Bool}{l l0 l1 tgt:Array Bool}(hap:HE ops bs xa xb=true)(ht1:tgt=marked l0 xa)(ht2:tgt=marked l1 xb)
  (ina:∀i∈ha,i∈xa) (inb:∀i∈hb,i∈xb) (ra:fa=false→∀i,i∈Region.ready .any ops (marked l xb)↔i∈ha) (rb:fb=false→∀i,i∈Region.ready .any ops (marked l xa)↔i∈hb)
  (ea:fa=true→marked l xb=tgt) (eb:fb=true→marked l xa=tgt) (na:fa=true→ha=[]) (nb:fb=true→hb=[]) (hne:¬(fa=true∧fb=true)) (i:Nat):i∈Region.ready .any ops l↔i∈ha∨i∈hb:=by
 obtain⟨hb1,hb2,hdis,hw1,hw2⟩:=EL hap
 constructor
 ·intro hi
  by_cases hil:i∈xa
  ·have h3:=Nf xb i (hdis i hil) hi
   cases h:fa with
   |true=>
    have h4:=Ck.1 (mem_ready.1 h3).1
    rw[ea h,ht1] at h4
    exact absurd h4 (NH xa l0 i hil)
   |false=>exact .inl ((ra h i).1 h3)
  ·have h3:=Nf xa i hil hi
   cases h:fb with
   |true=>
    have h4:=Ck.1 (mem_ready.1 h3).1
    rw[eb h] at h4
    have hilb:i∉xb:=fun hm=>by rw[ht2] at h4;exact NH xb l1 i hm h4
    have hne':fa=false:=by cases e:fa with|true=>exact absurd ⟨e,h⟩ hne|false=>rfl
    exact absurd (ina i ((ra hne' i).1 (Nf xb i hilb hi))) hil
   |false=>exact .inr ((rb h i).1 h3)
 ·rintro(hi|hi)
  ·have h:fa=false:=by cases e:fa with|true=>rw[na e] at hi;cases hi|false=>rfl
   exact FJ hdis hw1 (ina i hi) ((ra h i).2 hi)
  ·have h:fb=false:=by cases e:fb with|true=>rw[nb e] at hi;cases hi|false=>rfl
   exact FJ (fun i hi hm=>hdis i hm hi) hw2 (inb i hi) ((rb h i).2 hi)
end
def Ip:∀(s:SI),s.fin=true→s.B7=[]:=by
 intro s;induction s with
 |done=>intro _;rfl
 |op tk j s=>intro h;cases h
 |alt j s t=>intro h;cases h
 |bar s=>intro h;cases h
 |par xa xb a b s iha ihb ihs=>
  intro h
  simp only[SI.fin,Acb] at h
  simp only[SI.B7,h.1.1,h.1.2,Bool.and_self,if_true]
  exact ihs h.2
def PG{la lb:List Nat}{a b s:SI}(h:(SI.par la lb a b s).front=none):a.front=none∧b.front=none∧(a.fin=true∧b.fin=true→s.front=none):=by
 simp only[SI.front] at h;cases ha:a.front with
 |some i=>rw[ha] at h;cases h
 |none=>
  rw[ha] at h
  cases hb:b.front with
  |some i=>rw[hb] at h;cases h
  |none=>
   rw[hb] at h
   exact⟨Z,Z,fun⟨h1,h2⟩=>by simpa [h1,h2] using h⟩
section
variable {ops:Array Oper}{q:Nat→Bool}{bs:List Bool}
def VF{la:List Nat}{tgt l lm:Array Bool}{s:SI}(hc:BO ops q bs la tgt false l lm s=true):s.front=none:=by
 cases s with
 |done=>rfl
 |op tk j s=>
  cases tk with
  |true=>simp[BO] at hc
  |false=>rfl
 |alt j s t=>rfl
 |bar s=>rfl
 |par xa xb a b s=>simp[BO] at hc
def Fy:∀(s:SI) {la:List Nat}{tgt l lm:Array Bool}{top:Bool},BO ops q bs la tgt top l lm s=true→∀i∈s.B7,i∈la:=by
 intro s;induction s with
 |done=>intro la tgt l lm top _ i hi;cases hi
 |op tk j s ih=>
  intro la tgt l lm top hc i hi
  simp only[SI.B7,Adh] at hi
  subst hi
  cases tk with
  |true=>simp only[BO,Acb] at hc;simpa using hc.1.2
  |false=>simp only[BO,Acb] at hc;simpa using hc.1.2
 |alt j s t ih1 ih2=>
  intro la tgt l lm top hc i hi
  simp only[BO,Acb] at hc
  rcases Acw.1 hi with rfl|hi
  ·simpa using hc.1.1.2
  ·exact ih2 hc.2 i hi
 |bar s ih=>intro la tgt l lm top hc;cases hc
 |par xa xb a b s iha ihb ihs=>
  intro la tgt l lm top hc i hi
  simp only[BO,Acb,Acv] at hc
  obtain⟨⟨⟨⟨⟨_,hin⟩,_⟩,hca⟩,hcb⟩,hcs⟩:=hc
  simp only[SI.B7] at hi
  split at hi
  ·exact ihs hcs i hi
  ·rcases Ach.1 hi with hi|hi
   ·simpa using hin i (by simp[iha hca i hi])
   ·simpa using hin i (by simp[ihb hcb i hi])
def El:∀(s:SI) {la:List Nat}{tgt l lm:Array Bool},BO ops q bs la tgt true l lm s=true→s.fin=true→l=tgt:=by
 intro s;induction s with
 |done=>intro la tgt l lm hc _;simpa [BO] using hc
 |op tk j s=>intro la tgt l lm hc h;cases h
 |alt j s t=>intro la tgt l lm hc h;cases h
 |bar s=>intro la tgt l lm hc h;cases h
 |par xa xb a b s iha ihb ihs=>
  intro la tgt l lm hc h
  simp only[BO,Acb,Acv,beq_iff_eq] at hc
  obtain⟨⟨⟨⟨⟨⟨_,hap⟩,hin⟩,hmm⟩,hca⟩,hcb⟩,hcs⟩:=hc
  simp only[SI.fin,Acb] at h
  exact(I4 (EL hap).2.2.1 (iha hca h.1.1) (ihb hcb h.1.2)).trans (ihs hcs h.2)
def Fc:∀(s:SI) {la:List Nat}{tgt l lm:Array Bool},BO ops q bs la tgt true l lm s=true→s.front=none→s.fin=false→(∀i,i∈Region.ready .any ops l↔i∈s.B7)∧s.B7≠[]∧1≤s.steps:=by
 intro s;induction s with
 |done=>intro la tgt l lm hc _ h;cases h
 |op tk j s=>
  intro la tgt l lm hc hf _
  cases tk with
  |true=>cases hf
  |false=>
   simp only[BO,Acb,Bool.not_true,Agt,beq_iff_eq] at hc
   exact⟨fun i=>by rw[hc.1.1];rfl,by simp[SI.B7],by simp only[SI.steps];omega⟩
 |alt j s t=>
  intro la tgt l lm hc _ _
  simp only[BO,Acb,Bool.not_true,Agt,beq_iff_eq] at hc
  exact⟨fun i=>by rw[hc.1.1.1];rfl,by simp[SI.B7],by simp only[SI.steps];omega⟩
 |bar s=>intro la tgt l lm hc;cases hc
 |par xa xb a b s iha ihb ihs=>
  intro la tgt l lm hc hf h
  simp only[BO,Acb,Acv,beq_iff_eq] at hc
  obtain⟨⟨⟨⟨⟨⟨_,hap⟩,hin⟩,hmm⟩,hca⟩,hcb⟩,hcs⟩:=hc
  obtain⟨fa,fb,fs⟩:=PG hf
  by_cases h0:a.fin=true∧b.fin=true
  ·have e:=I4 (EL hap).2.2.1 (El a hca h0.1) (El b hcb h0.2)
   rw[←e] at hcs
   have hs:s.fin=false:=by simpa [SI.fin,h0.1,h0.2] using h
   obtain⟨h1,h2,h3⟩:=ihs hcs (fs h0) hs
   simp only[SI.B7,h0.1,h0.2,Bool.and_self,if_true,SI.steps]
   exact⟨h1,h2,by omega⟩
  ·have hh:(SI.par xa xb a b s).B7=a.B7++b.B7:=by
    simp only[SI.B7];rw[if_neg (by simpa using h0)]
   rw[hh]
   refine⟨fun i=>?_,?_,?_⟩
   ·rw[Ach]
    exact PH hap Z hmm (Fy a hca) (Fy b hcb) (fun e=>(iha hca fa e).1) (fun e=>(ihb hcb fb e).1) (El a hca) (El b hcb) (Ip a) (Ip b) h0 i
   ·cases ea:a.fin with
    |false=>have:=(iha hca fa ea).2.1;simp[this]
    |true=>cases eb:b.fin with
     |false=>have:=(ihb hcb fb eb).2.1;simp[this]
     |true=>exact absurd ⟨ea,eb⟩ h0
   ·simp only[SI.steps]
    cases ea:a.fin with
    |false=>have:=(iha hca fa ea).2.2;omega
    |true=>cases eb:b.fin with
     |false=>have:=(ihb hcb fb eb).2.2;omega
     |true=>exact absurd ⟨ea,eb⟩ h0
end
def HH{P:Program}{n:Nat}{ops:Array Oper}{Ls:List Ab}:∀(s:SI) {Qn:Env→AL}{g:GS}{ρ:Env}{d:Ab}{L:List Ab},s.fin=true→BV P n ops s=some g→
  gws P BS Qn g Ls ρ d L→∃d1 L1,Vs d (Ls++L) d1 L1∧Qn ρ d1 L1:=by
 intro s
 induction s with
 |done=>
  intro Qn g ρ d L _ hs h
  simp[BV] at hs;subst hs
  exact h
 |op tk j s=>intro Qn g ρ d L h;cases h
 |alt j s t=>intro Qn g ρ d L h;cases h
 |bar s=>intro Qn g ρ d L h;cases h
 |par xa xb a b s iha ihb ihs=>
  intro Qn g ρ d L hh hs h
  simp only[SI.fin,Acb] at hh
  simp only[BV] at hs
  split at hs<;>try cases hs
  rename_i a' b' s' ha hb hs'
  split at hs<;>try cases hs
  obtain⟨Ra,Rb,d1,L1,L2,hv,sa,sb,h1,h2,h3⟩:=h
  obtain⟨e1,N1,v1,M1,rfl,r1⟩:=iha hh.1.1 ha h1
  obtain⟨e2,N2,v2,M2,rfl,r2⟩:=ihb hh.1.2 hb h2
  have v3:=Vs.two v1 v2
  have h4:=h3 ρ (Gk.join e2 e1) M1 M2 v3.1 (fun _ _=>Z) (sa _ _ _ _ _ (fun _ _=>Z) (Le.AZ _ _) r1) (sb _ _ _ _ _ (fun _ _=>Z) (Le.Au _ _) r2)
  obtain⟨d3,L3,v4,q⟩:=ihs hh.2 hs' h4
  exact⟨d3,L3,((hv.front Ls).trans v3).trans v4,q⟩
def Sb(l l':Array Bool):Prop:=∀j,l'.getD j true=false→l.getD j true=false
theorem Sb.set{l l':Array Bool}(h:Sb l l')(i:Nat):Sb (l.setIfInBounds i true) (l'.setIfInBounds i true):=by
 intro j hj;have h0:=h j;rw[Ck] at hj h0⊢;rw[HD] at hj⊢;split at hj
 ·exfalso;cases e:l'[j]?<;>rw[e] at hj<;>simp at hj
 ·rename_i hne;rw[if_neg hne];exact Ck.1 (h0 hj)
theorem Sb.self(l:Array Bool)(i:Nat):Sb l (l.setIfInBounds i true):=by
 intro j hj;rw[Ck] at hj⊢;rw[HD] at hj;split at hj
 ·exfalso;cases e:l[j]?<;>rw[e] at hj<;>simp at hj
 ·exact hj
def Sb.trans{a b c}(h:Sb a b)(k:Sb b c):Sb a c:=fun j hj=>h j (k j hj)
theorem Ms{l lm lx:Array Bool}{la xa xb:List Nat}(hin:∀i∈xa++xb,i∈la)(hsb:Sb lm lx)(hcov:∀x∈la,l.getD x true=true→lx.getD x true=true)(el:l=Gk.marked (Gk.marked l xb) xa):Sb (Gk.marked (Gk.marked lm xb) xa) lx:=by
 have done:∀j,j∈xa++xb→l.getD j true=true:=by
  intro j hj;rw[el];cases e:(Gk.marked (Gk.marked l xb) xa).getD j true with
  |true=>rfl
  |false=>
   rw[Ck,BL,BL] at e
   rcases Ach.1 hj with h|h
   ·rw[if_pos h] at e
    split at e<;>cases e2:l[j]?<;>rw[e2] at e<;>simp at e
   ·rw[if_pos h] at e
    split at e<;>cases e2:l[j]?<;>rw[e2] at e<;>simp at e
 intro j hj;have h0:=hsb j hj;have hn:j∉xa++xb:=fun hm=>by rw[hcov j (hin j hm) (done j hm)] at hj;cases hj
 rw[Ach,not_or] at hn;rw[Ck] at h0⊢;rw[BL,if_neg hn.1,BL,if_neg hn.2];exact h0
def Sb.marked{l l':Array Bool}(h:Sb l l')(xs:List Nat):Sb (Gk.marked l xs) (Gk.marked l' xs):=by
 intro j hj;have h0:=h j;rw[Ck] at hj h0⊢;rw[BL] at hj⊢;split at hj
 ·exfalso;cases e:l'[j]?<;>rw[e] at hj<;>simp at hj
 ·rename_i hne;rw[if_neg hne];exact Ck.1 (h0 hj)
def Tb{ops l l'}(h:Sb l l'){i:Nat}(hf:Region.free .any ops l i=true):Region.free .any ops l' i=true:=by
 unfold Region.free at hf⊢;split at hf
 ·cases hf
 ·simp only[Acv] at hf⊢;intro j hj;have:=hf j hj;cases e:l'.getD j true with
  |true=>simp
  |false=>rw[h j e] at this;simpa using this
def CX{ops:Array Oper}{q:Nat→Bool}{bs:List Bool}:∀(s:SI) {la:List Nat}{tgt l lm lm':Array Bool}{top:Bool},Sb lm lm'→BO ops q bs la tgt top l lm s=true→BO ops q bs la tgt top l lm' s=true:=by
 intro s;induction s with
 |done=>intro la tgt l lm lm' top _ h;exact h
 |op tk j s ih=>
  intro la tgt l lm lm' top hs h
  cases tk with
  |true=>
   simp only[BO,Acb] at h⊢
   obtain⟨⟨⟨⟨⟨h1,h2⟩,h3⟩,h4⟩,h5⟩,h6⟩:=h
   exact⟨⟨⟨⟨⟨h1,h2⟩,Tb hs h3⟩,h4⟩,h5⟩,ih (hs.set j) h6⟩
  |false=>
   simp only[BO,Acb] at h⊢
   exact⟨h.1,ih (hs.set j) h.2⟩
 |alt j s t ih1 ih2=>
  intro la tgt l lm lm' top hs h
  simp only[BO,Acb] at h⊢
  exact⟨⟨h.1.1,ih1 (hs.set j) h.1.2⟩,ih2 hs h.2⟩
 |bar s ih=>intro la tgt l lm lm' top _ h;cases h
 |par xa xb a b s iha ihb ihs=>
  intro la tgt l lm lm' top hs h
  simp only[BO,Acb] at h⊢
  obtain⟨⟨⟨⟨⟨⟨h1,h2⟩,h3⟩,h4⟩,h5⟩,h6⟩,h7⟩:=h
  exact⟨⟨⟨⟨⟨⟨h1,h2⟩,h3⟩,h4⟩,iha hs h5⟩,ihb hs h6⟩,ihs ((hs.marked xb).marked xa) h7⟩
def Wc{P:Program}{ρ:Env}{d:Ab}{Ls L M:List Ab}{K K':Env→AL}{g:GOp}(hq:g.i.quiet=true)(hK:∀v,K (put ρ g.dst v) d L→K' (put ρ g.dst v) d (L++M))(h:gop P BS g ρ d Ls L K):gop P BS g ρ d Ls (L++M) K':=by
 obtain⟨dst,guard,i⟩:=g;have run:gi P BS ρ d Ls L (fun v d' L'=>K (put ρ dst v) d' L') i→gi P BS ρ d Ls (L++M) (fun v d' L'=>K' (put ρ dst v) d' L') i:=fun h=>by
  rw[DU hq] at h⊢;obtain⟨v,h1,h2⟩:=h;exact⟨v,h1,hK v h2⟩
 cases guard with
 |none=>exact run h
 |some p=>
  obtain⟨t,want⟩:=p
  rcases h with ⟨b,hb,h1,h2⟩|⟨hb,h2⟩
  ·exact .inl ⟨b,hb,fun e=>run (h1 e),fun e=>hK _ (h2 e)⟩
  ·exact .inr ⟨hb,hK _ h2⟩
def VN{P:Program}{ρ:Env}{d:Ab}{Ls L M:List Ab}{K K':Env→AL}{g:GOp}(hq:g.i.quiet=true)(hK:∀v,K (put ρ g.dst v) d L→K' (put ρ g.dst v) d (M++L))(h:gop P BS g ρ d Ls L K):gop P BS g ρ d Ls (M++L) K':=by
 obtain⟨dst,guard,i⟩:=g;have run:gi P BS ρ d Ls L (fun v d' L'=>K (put ρ dst v) d' L') i→gi P BS ρ d Ls (M++L) (fun v d' L'=>K' (put ρ dst v) d' L') i:=fun h=>by
  rw[DU hq] at h⊢;obtain⟨v,h1,h2⟩:=h;exact⟨v,h1,hK v h2⟩
 cases guard with
 |none=>exact run h
 |some p=>
  obtain⟨t,want⟩:=p
  rcases h with ⟨b,hb,h1,h2⟩|⟨hb,h2⟩
  ·exact .inl ⟨b,hb,fun e=>run (h1 e),fun e=>hK _ (h2 e)⟩
  ·exact .inr ⟨hb,hK _ h2⟩
def W4{P:Program}{n:Nat}{ops:Array Oper}{q:Nat→Bool}{bs:List Bool}{Ls:List Ab}:∀(s:SI) {la:List Nat}{tgt:Array Bool}{Qn:Env→AL}(top:Bool) (l lm lx:Array Bool) (g:GS) (ρ:Env) (d:Ab) (L:List Ab),Sb lm lx→(∀x∈la,l.getD x true=true→lx.getD x true=true)→s.front=none→BO ops q bs la tgt top l lm s=true→BV P n ops s=some g→g.plain=true→
  gws P BS Qn g Ls ρ d L→∀i∈s.B7,∃o op gs s',ops[i]?=some o∧G0 P n ops o=some op∧BV P n ops s'=some gs∧BO ops q bs la tgt true (l.setIfInBounds i true) (lx.setIfInBounds i true) s'=true∧s'.steps+1≤s.steps∧gs.plain=true∧(∀t∈gs.rds,t∈g.rds)∧(∀t∈gs.Bn,t∈g.Bn)∧
   (∀t,op.dst=some t→t∈g.Bn)∧∃d1 La M,Vs d (Ls++L) d1 (Ls++(La++M))∧gop P BS op ρ d1 (Ls++La) La (fun ρ' d' L'=>∃d2 L2,Vs d' (L'++M) d2 L2∧gws P BS Qn gs Ls ρ' d2 L2):=by
 intro s
 have one:∀{Qn:Env→AL}{op:GOp}{gs:GS}{ρ:Env}{d:Ab}{L:List Ab},(∃d1 L1,Vs d L d1 L1∧gop P (fun c d' L'=>BS c d' (Ls++L')) op ρ d1 (Ls++L1) L1 (fun ρ' d' L'=>∃d2 L2,Vs d' L' d2 L2∧gws P BS Qn gs Ls ρ' d2 L2))→
   ∃d1 La M,Vs d (Ls++L) d1 (Ls++(La++M))∧gop P BS op ρ d1 (Ls++La) La (fun ρ' d' L'=>∃d2 L2,Vs d' (L'++M) d2 L2∧gws P BS Qn gs Ls ρ' d2 L2):=by
  intro Qn op gs ρ d L ⟨d1,L1,hv,h⟩
  exact⟨d1,L1,[],by rw[Adm];exact hv.front Ls,Ik (fun ρ d L h=>by rw[Adm];exact h) h⟩
 induction s with
 |done=>intro la tgt Qn top l lm lx g ρ d L _ _ _ _ _ _ _ i hi;cases hi
 |op tk j s ih=>
  intro la tgt Qn top l lm lx g ρ d L hsb hcov hf hc hs hp h i hi
  simp only[SI.B7,Adh] at hi
  subst hi
  cases tk with
  |true=>cases hf
  |false=>
  simp only[BO,Acb] at hc
  obtain⟨⟨_,hla⟩,hc'⟩:=hc
  simp only[BV] at hs
  split at hs<;>try cases hs
  rename_i g' s' hg hs'
  rw[Adk] at hg
  obtain⟨o,ho,hd⟩:=hg
  simp only[GS.plain] at hp
  exact⟨o,g',s',s,ho,hd,hs',CX s (hsb.set i) hc',by simp[SI.steps],hp,fun t ht=>by simp[GS.rds,ht],fun t ht=>by simp[GS.Bn,ht],fun t ht=>by simp[GS.Bn,ht],one h⟩
 |alt j s t ih1 ih2=>
  intro la tgt Qn top l lm lx g ρ d L hsb hcov hf hc hs hp h i hi
  simp only[BO,Acb] at hc
  obtain⟨⟨⟨_,hla⟩,hc1⟩,hc2⟩:=hc
  simp only[BV] at hs
  split at hs<;>try cases hs
  rename_i g' s' t' hg hs' ht'
  rw[Adk] at hg
  obtain⟨o,ho,hd⟩:=hg
  simp only[GS.plain,Acb] at hp
  rcases Acw.1 hi with rfl|hi
  ·exact⟨o,g',s',s,ho,hd,hs',CX s (hsb.set i) hc1,by simp only[SI.steps];omega,hp.1,fun t ht=>by simp[GS.rds,ht],fun t ht=>by simp[GS.Bn,ht],fun t ht=>by simp[GS.Bn,ht],one h.1⟩
  ·obtain⟨o,op,gs,s'',q1,q2,q3,q4,q5,q6,q7,q8,q9,q10⟩:=ih2 false l lm lx t' ρ d L hsb hcov (VF hc2) hc2 ht' hp.2 h.2 i hi
   exact⟨o,op,gs,s'',q1,q2,q3,q4,by simp only[SI.steps];omega,q6,fun t ht=>by simp[GS.rds,q7 t ht],fun t ht=>by simp[GS.Bn,q8 t ht],fun t ht=>by simp[GS.Bn,q9 t ht],q10⟩
 |bar s ih=>intro la tgt Qn top l lm lx g ρ d L _ _ _ hc;cases hc
 |par xa xb a b s iha ihb ihs=>
  intro la tgt Qn top l lm lx g ρ d L hsb hcov hf hc hs hp h i hi
  have hcc:=hc
  simp only[BO,Acb,Acv,beq_iff_eq] at hc
  obtain⟨⟨⟨⟨⟨⟨htop,hap⟩,hin⟩,hmm⟩,hca⟩,hcb⟩,hcs⟩:=hc
  subst htop
  have hss:=hs
  simp only[BV] at hs
  split at hs<;>try cases hs
  rename_i a' b' s' ha hb hs'
  split at hs<;>try cases hs
  rename_i hsep
  simp only[Acb,Acv,Aes] at hsep
  obtain⟨⟨⟨hpa,hpb⟩,hs1⟩,hs2⟩:=hsep
  simp only[GS.plain,Acb] at hp
  have hs1':∀t∈a'.Bn,t∉b'.rds∧t∉b'.Bn:=fun t ht=>⟨fun hm=>by have:=(hs1 t ht).1;simp[hm] at this,fun hm=>by have:=(hs1 t ht).2;simp[hm] at this⟩
  have hs2':∀t∈b'.Bn,t∉a'.rds:=fun t ht hm=>by have:=hs2 t ht;simp[hm] at this
  obtain⟨hb1,hb2,hdis,hw1,hw2⟩:=EL hap
  obtain⟨ffa,ffb,ffs⟩:=PG hf
  have cov:∀(xs ys:List Nat),(∀x∈xs,x∈xa++xb)→(∀x∈xs,x∉ys)→∀x∈xs,(marked l ys).getD x true=true→lx.getD x true=true:=by
   intro xs ys h1 h2 x hx h3;refine hcov x (by simpa using hin x (h1 x hx)) ?_;cases e:l.getD x true with
   |true=>rfl
   |false=>
    rw[Ck] at e
    have:(marked l ys).getD x true=false:=by rw[Ck,BL,if_neg (h2 x hx)];exact e
    rw[this] at h3;cases h3
  have cova:=cov xa xb (fun x hx=>by simp[hx]) hdis
  have covb:=cov xb xa (fun x hx=>by simp[hx]) (fun x hx hm=>hdis x hm hx)
  by_cases h0:a.fin=true∧b.fin=true
  ·simp only[SI.B7,h0.1,h0.2,Bool.and_self,if_true] at hi
   obtain⟨Ra,Rb,d1,L1,L2,hv,sa,sb,h1,h2,h3⟩:=h
   obtain⟨e1,N1,v1,M1,rfl,r1⟩:=HH a h0.1 ha h1
   obtain⟨e2,N2,v2,M2,rfl,r2⟩:=HH b h0.2 hb h2
   have v3:=Vs.two v1 v2
   have h4:=h3 ρ (Gk.join e2 e1) M1 M2 v3.1 (fun _ _=>Z) (sa _ _ _ _ _ (fun _ _=>Z) (Le.AZ _ _) r1) (sb _ _ _ _ _ (fun _ _=>Z) (Le.Au _ _) r2)
   have el:=I4 hdis (El a hca h0.1) (El b hcb h0.2)
   have hcs:=CX s (Ms (fun x hx=>by simpa using hin x hx) hsb hcov el) hcs
   rw[←el] at hcs
   obtain⟨o,op,gs,s'',q1,q2,q3,q4,q5,q6,q7,q8,q9,d4,La,M,q10,q11⟩:=ihs true l lx lx s' ρ _ _ (fun _ h=>h) hcov (ffs h0) hcs hs' hp.2 h4 i hi
   exact⟨o,op,gs,s'',q1,q2,q3,q4,by simp only[SI.steps];omega,q6,fun t ht=>by simp[GS.rds,q7 t ht],fun t ht=>by simp[GS.Bn,q8 t ht],fun t ht=>by simp[GS.Bn,q9 t ht],d4,La,M,((hv.front Ls).trans v3).trans q10,q11⟩
  ·have hh:(SI.par xa xb a b s).B7=a.B7++b.B7:=by
    simp only[SI.B7];rw[if_neg (by simpa using h0)]
   rw[hh] at hi
   obtain⟨Ra,Rb,d1,L1,L2,hv,sa,sb,h1,h2,h3⟩:=h
   rcases Ach.1 hi with hi|hi
   ·have hix:=Fy a hca i hi
    obtain⟨o,op,gs,sn,q1,q2,q3,q4,q5,q6,q7,q8,q9,d4,La,M,q10,q11⟩:=iha true (marked l xb) lm lx a' ρ d1 L1 hsb cova ffa hca ha hp.1.1 h1 i hi
    have e1:marked (marked (l.setIfInBounds i true) xb) xa=marked (marked l xb) xa:=by rw[CQ,Dm hix]
    have e2:marked (l.setIfInBounds i true) xa=marked l xa:=Dm hix l
    refine⟨o,op,.par gs b' s',.par xa xb sn b s,q1,q2,?_,?_,by simp only[SI.steps];omega,?_,?_,?_,fun t ht=>by simp[GS.Bn,q9 t ht],d4,La,M++L2,?_,?_⟩
    ·simp only[BV,q3,hb,hs']
     rw[if_pos]
     simp only[Acb,Acv,Aes]
     exact⟨⟨⟨q6,hpb⟩,fun t ht=>hs1 t (q8 t ht)⟩,fun t ht=>by have:=hs2' t ht;simpa using fun hm=>this (q7 t hm)⟩
    ·simp only[BO,Acb,Acv,beq_iff_eq,Afm]
     rw[e1,e2,CQ]
     exact⟨⟨⟨⟨⟨hap,hin⟩,hmm⟩,q4⟩,CX b (hsb.trans (Sb.self lx i)) hcb⟩,CX s (((hsb.trans (Sb.self lx i)).marked xb).marked xa) hcs⟩
    ·simp only[GS.plain,Acb];exact⟨⟨q6,hpb⟩,hp.2⟩
    ·intro t ht
     simp only[GS.rds,Ach] at ht⊢
     exact ht.imp (q7 t) id
    ·intro t ht
     simp only[GS.Bn,Ach] at ht⊢
     exact ht.imp (q8 t) id
    ·have v1:Vs d (Ls++L) d1 (Ls++(L1++L2)):=hv.front Ls
     have v2:Vs d1 ((Ls++L1)++L2) d4 ((Ls++(La++M))++L2):=q10.behind L2
     have:=v1.trans (by rw[←Ace];exact v2)
     simpa [Ace] using this
    ·refine Ik ?_ (Lc q11)
     intro ρ' d' L' ⟨⟨v,hρ⟩,hle,d5,L5,hv5,h5⟩
     have hoff:Off a'.Bn ρ ρ':=by rw[hρ];exact Off.G8 (fun t ht=>q9 t ht) v
     have hle5:Le d1 d5:=q10.1.trans (hle.trans hv5.1)
     refine⟨d5,L5++L2,by rw[←Ace];exact hv5.behind L2,Ra,Rb,d5,L5,L2,Vs.refl _ _,sa,?_,h5,Hd (Es sb) b' hpb (fun t ht hm=>(hs1' t hm).1 ht) (fun t ht hm=>(hs1' t hm).2 ht) Ls ρ ρ' d1 d5 L2 hoff hle5 h2,?_⟩
     ·exact fun ρ ρ' d d' L ho hl hr=>sb ρ ρ' d d' L (fun t ht=>ho t fun hm=>ht (q8 t hm)) hl hr
     ·intro ρ2 d6 M1 M2 hl ho r1 r2
      refine h3 ρ2 d6 M1 M2 (hle5.trans hl) (fun t ht=>?_) r1 r2
      rw[Ach,not_or] at ht
      exact(ho t (by rw[Ach,not_or];exact⟨fun hm=>ht.1 (q8 t hm),ht.2⟩)).trans (hoff t ht.1)
   ·have hix:=Fy b hcb i hi
    obtain⟨o,op,gs,sn,q1,q2,q3,q4,q5,q6,q7,q8,q9,d4,La,M,q10,q11⟩:=ihb true (marked l xa) lm lx b' ρ d1 L2 hsb covb ffb hcb hb hp.1.2 h2 i hi
    have e1:marked (marked (l.setIfInBounds i true) xa) xb=marked (marked l xa) xb:=by rw[CQ,Dm hix]
    have e2:marked (l.setIfInBounds i true) xb=marked l xb:=Dm hix l
    have e3:marked (marked l xb) xa=marked (marked l xa) xb:=hmm
    refine⟨o,op,.par a' gs s',.par xa xb a sn s,q1,q2,?_,?_,by simp only[SI.steps];omega,?_,?_,?_,fun t ht=>by simp[GS.Bn,q9 t ht],d4,La,M++L1,?_,?_⟩
    ·simp only[BV,q3,ha,hs']
     rw[if_pos]
     simp only[Acb,Acv,Aes]
     exact⟨⟨⟨hpa,q6⟩,fun t ht=>⟨by have:=(hs1' t ht).1;simpa using fun hm=>this (q7 t hm),by have:=(hs1' t ht).2;simpa using fun hm=>this (q8 t hm)⟩⟩,fun t ht=>hs2 t (q8 t ht)⟩
    ·simp only[BO,Acb,Acv,beq_iff_eq,Afm]
     rw[e1,e2,CQ]
     exact⟨⟨⟨⟨⟨hap,hin⟩,hmm⟩,CX a (hsb.trans (Sb.self lx i)) hca⟩,q4⟩,CX s (((hsb.trans (Sb.self lx i)).marked xb).marked xa) hcs⟩
    ·simp only[GS.plain,Acb];exact⟨⟨hpa,q6⟩,hp.2⟩
    ·intro t ht
     simp only[GS.rds,Ach] at ht⊢
     exact ht.imp id (Or.imp (q7 t) id)
    ·intro t ht
     simp only[GS.Bn,Ach] at ht⊢
     exact ht.imp id (Or.imp (q8 t) id)
    ·have v1:Vs d (Ls++L) d1 (Ls++(L1++L2)):=hv.front Ls
     have v0:Vs d1 (Ls++(L1++L2)) d1 ((Ls++L2)++L1):=Vs.perm (by rw[Ace];exact(Acn).append_left Ls)
     have v2:Vs d1 ((Ls++L2)++L1) d4 ((Ls++(La++M))++L1):=q10.behind L1
     have:=(v1.trans v0).trans v2
     simpa [Ace] using this
    ·refine Ik ?_ (Lc q11)
     intro ρ' d' L' ⟨⟨v,hρ⟩,hle,d5,L5,hv5,h5⟩
     have hoff:Off b'.Bn ρ ρ':=by rw[hρ];exact Off.G8 (fun t ht=>q9 t ht) v
     have hle5:Le d1 d5:=q10.1.trans (hle.trans hv5.1)
     refine⟨d5,L1++L5,(by rw[←Ace];exact hv5.behind L1:Vs d' (L'++(M++L1)) d5 (L5++L1)).trans (Vs.perm Acn),Ra,Rb,d5,L1,L5,Vs.refl _ _,?_,sb,Hd (Es sa) a' hpa (fun t ht hm=>hs2' t hm ht) (fun t ht hm=>(hs1' t ht).2 hm) Ls ρ ρ' d1 d5 L1 hoff hle5 h1,h5,?_⟩
     ·exact fun ρ ρ' d d' L ho hl hr=>sa ρ ρ' d d' L (fun t ht=>ho t fun hm=>ht (q8 t hm)) hl hr
     ·intro ρ2 d6 M1 M2 hl ho r1 r2
      refine h3 ρ2 d6 M1 M2 (hle5.trans hl) (fun t ht=>?_) r1 r2
      rw[Ach,not_or] at ht
      exact(ho t (by rw[Ach,not_or];exact⟨ht.1,fun hm=>ht.2 (q8 t hm)⟩)).trans (hoff t ht.2)
def Mo{P:Program}{n:Nat}{ops:Array Oper}{q:Nat→Bool}{bs:List Bool}{Ls:List Ab}(hq:∀i o op,q i=true→ops[i]?=some o→G0 P n ops o=some op→op.i.quiet=true):
  ∀(s:SI) {la:List Nat}{tgt:Array Bool}{Qn:Env→AL}(l lm lx:Array Bool) (g:GS) (ρ:Env) (d:Ab) (L:List Ab) (i:Nat),Sb lm lx→(∀x∈la,l.getD x true=true→lx.getD x true=true)→s.front=some i→BO ops q bs la tgt true l lm s=true→BV P n ops s=some g→g.plain=true→
  gws P BS Qn g Ls ρ d L→q i=true∧Region.free .any ops lx i=true∧i∈Region.ready .any ops l∧i∈la∧∃o op gs s',ops[i]?=some o∧G0 P n ops o=some op∧BV P n ops s'=some gs∧BO ops q bs la tgt true (l.setIfInBounds i true) (lx.setIfInBounds i true) s'=true∧s'.steps+1≤s.steps∧gs.plain=true∧(∀t∈gs.rds,t∈g.rds)∧(∀t∈gs.Bn,t∈g.Bn)∧
   (∀t,op.dst=some t→t∈g.Bn)∧∃d1 L1,Vs d (Ls++L) d1 (Ls++L1)∧gop P BS op ρ d1 Ls L1 (fun ρ' d' L'=>gws P BS Qn gs Ls ρ' d' L'):=by
 intro s
 induction s with
 |done=>intro la tgt Qn l lm lx g ρ d L i _ _ h;cases h
 |alt j s t=>intro la tgt Qn l lm lx g ρ d L i _ _ h;cases h
 |bar s=>intro la tgt Qn l lm lx g ρ d L i _ _ h;cases h
 |op tk j s ih=>
  intro la tgt Qn l lm lx g ρ d L i hsb hcov hf hc hs hp h
  cases tk with
  |false=>cases hf
  |true=>
  simp only[SI.front,Option.some.injEq] at hf
  subst hf
  simp only[BO,Acb] at hc
  obtain⟨⟨⟨⟨⟨_,hqi⟩,hfr⟩,hrd⟩,hla⟩,hc'⟩:=hc
  simp only[BV] at hs
  split at hs<;>try cases hs
  rename_i g' s' hg hs'
  rw[Adk] at hg
  obtain⟨o,ho,hd⟩:=hg
  simp only[GS.plain] at hp
  exact⟨hqi,Tb hsb hfr,by simpa using hrd,by simpa using hla,o,g',s',s,ho,hd,hs',CX s (hsb.set j) hc',by simp[SI.steps],hp,fun t ht=>by simp[GS.rds,ht],fun t ht=>by simp[GS.Bn,ht],fun t ht=>by simp[GS.Bn,ht],d,L,Vs.refl _ _,h⟩
 |par xa xb a b s iha ihb ihs=>
  intro la tgt Qn l lm lx g ρ d L i hsb hcov hf hc hs hp h
  simp only[BO,Acb,Acv,beq_iff_eq] at hc
  obtain⟨⟨⟨⟨⟨⟨_,hap⟩,hin⟩,hmm⟩,hca⟩,hcb⟩,hcs⟩:=hc
  simp only[BV] at hs
  split at hs<;>try cases hs
  rename_i a' b' s' ha hb hs'
  split at hs<;>try cases hs
  rename_i hsep
  simp only[Acb,Acv,Aes] at hsep
  obtain⟨⟨⟨hpa,hpb⟩,hs1⟩,hs2⟩:=hsep
  simp only[GS.plain,Acb] at hp
  have hs1':∀t∈a'.Bn,t∉b'.rds∧t∉b'.Bn:=fun t ht=>⟨fun hm=>by have:=(hs1 t ht).1;simp[hm] at this,fun hm=>by have:=(hs1 t ht).2;simp[hm] at this⟩
  have hs2':∀t∈b'.Bn,t∉a'.rds:=fun t ht hm=>by have:=hs2 t ht;simp[hm] at this
  obtain⟨hb1,hb2,hdis,hw1,hw2⟩:=EL hap
  have cov:∀(xs ys:List Nat),(∀x∈xs,x∈xa++xb)→(∀x∈xs,x∉ys)→∀x∈xs,(marked l ys).getD x true=true→lx.getD x true=true:=by
   intro xs ys h1 h2 x hx h3;refine hcov x (by simpa using hin x (h1 x hx)) ?_;cases e:l.getD x true with
   |true=>rfl
   |false=>
    rw[Ck] at e
    have:(marked l ys).getD x true=false:=by rw[Ck,BL,if_neg (h2 x hx)];exact e
    rw[this] at h3;cases h3
  have cova:=cov xa xb (fun x hx=>by simp[hx]) hdis
  have covb:=cov xb xa (fun x hx=>by simp[hx]) (fun x hx hm=>hdis x hm hx)
  obtain⟨Ra,Rb,d1,L1,L2,hv,sa,sb,h1,h2,h3⟩:=h
  simp only[SI.front] at hf
  cases hfa:a.front with
  |some j=>
   rw[hfa] at hf
   simp only[Option.some.injEq] at hf
   subst hf
   obtain⟨r1,r2,r3,hix,o,op,gs,sn,q1,q2,q3,q4,q5,q6,q7,q8,q9,d4,L4,q10,q11⟩:=iha (marked l xb) lm lx a' ρ d1 L1 j hsb cova hfa hca ha hpa h1
   have e1:marked (marked (l.setIfInBounds j true) xb) xa=marked (marked l xb) xa:=by rw[CQ,Dm hix]
   have e2:marked (l.setIfInBounds j true) xa=marked l xa:=Dm hix l
   refine⟨r1,r2,FJ hdis hw1 hix r3,by simpa using hin j (by simp[hix]),o,op,.par gs b' s',.par xa xb sn b s,q1,q2,?_,?_,by simp only[SI.steps];omega,?_,?_,?_,fun t ht=>by simp[GS.Bn,q9 t ht],d4,L4++L2,?_,?_⟩
   ·simp only[BV,q3,hb,hs']
    rw[if_pos]
    simp only[Acb,Acv,Aes]
    exact⟨⟨⟨q6,hpb⟩,fun t ht=>hs1 t (q8 t ht)⟩,fun t ht=>by have:=hs2' t ht;simpa using fun hm=>this (q7 t hm)⟩
   ·simp only[BO,Acb,Acv,beq_iff_eq,Afm]
    rw[e1,e2,CQ]
    exact⟨⟨⟨⟨⟨hap,hin⟩,hmm⟩,q4⟩,CX b (hsb.trans (Sb.self lx j)) hcb⟩,CX s (((hsb.trans (Sb.self lx j)).marked xb).marked xa) hcs⟩
   ·simp only[GS.plain,Acb];exact⟨⟨q6,hpb⟩,hp.2⟩
   ·intro t ht
    simp only[GS.rds,Ach] at ht⊢
    exact ht.imp (q7 t) id
   ·intro t ht
    simp only[GS.Bn,Ach] at ht⊢
    exact ht.imp (q8 t) id
   ·have v1:Vs d (Ls++L) d1 (Ls++(L1++L2)):=hv.front Ls
    have v2:Vs d1 ((Ls++L1)++L2) d4 ((Ls++L4)++L2):=q10.behind L2
    have:=v1.trans (by rw[←Ace];exact v2)
    simpa [Ace] using this
   ·refine Wc (hq j o op r1 q1 q2) (fun v h5=>?_) q11
    have hoff:Off a'.Bn ρ (put ρ op.dst v):=Off.G8 (fun t ht=>q9 t ht) v
    refine⟨Ra,Rb,d4,L4,L2,Vs.refl _ _,sa,?_,h5,Hd (Es sb) b' hpb (fun t ht hm=>(hs1' t hm).1 ht) (fun t ht hm=>(hs1' t hm).2 ht) Ls ρ _ d1 d4 L2 hoff q10.1 h2,?_⟩
    ·exact fun ρ ρ' d d' L ho hl hr=>sb ρ ρ' d d' L (fun t ht=>ho t fun hm=>ht (q8 t hm)) hl hr
    ·intro ρ2 d6 M1 M2 hl ho r1 r2
     refine h3 ρ2 d6 M1 M2 (q10.1.trans hl) (fun t ht=>?_) r1 r2
     rw[Ach,not_or] at ht
     exact(ho t (by rw[Ach,not_or];exact⟨fun hm=>ht.1 (q8 t hm),ht.2⟩)).trans (hoff t ht.1)
  |none=>
  rw[hfa] at hf
  cases hfb:b.front with
  |some j=>
   rw[hfb] at hf
   simp only[Option.some.injEq] at hf
   subst hf
   obtain⟨r1,r2,r3,hix,o,op,gs,sn,q1,q2,q3,q4,q5,q6,q7,q8,q9,d4,L4,q10,q11⟩:=ihb (marked l xa) lm lx b' ρ d1 L2 j hsb covb hfb hcb hb hpb h2
   have e1:marked (marked (l.setIfInBounds j true) xa) xb=marked (marked l xa) xb:=by rw[CQ,Dm hix]
   have e2:marked (l.setIfInBounds j true) xb=marked l xb:=Dm hix l
   have e3:marked (marked l xb) xa=marked (marked l xa) xb:=hmm
   refine⟨r1,r2,FJ (fun i hi hm=>hdis i hm hi) hw2 hix r3,by simpa using hin j (by simp[hix]),o,op,.par a' gs s',.par xa xb a sn s,q1,q2,?_,?_,by simp only[SI.steps];omega,?_,?_,?_,fun t ht=>by simp[GS.Bn,q9 t ht],d4,L1++L4,?_,?_⟩
   ·simp only[BV,q3,ha,hs']
    rw[if_pos]
    simp only[Acb,Acv,Aes]
    exact⟨⟨⟨hpa,q6⟩,fun t ht=>⟨by have:=(hs1' t ht).1;simpa using fun hm=>this (q7 t hm),by have:=(hs1' t ht).2;simpa using fun hm=>this (q8 t hm)⟩⟩,fun t ht=>hs2 t (q8 t ht)⟩
   ·simp only[BO,Acb,Acv,beq_iff_eq,Afm]
    rw[e1,e2,CQ]
    exact⟨⟨⟨⟨⟨hap,hin⟩,hmm⟩,CX a (hsb.trans (Sb.self lx j)) hca⟩,q4⟩,CX s (((hsb.trans (Sb.self lx j)).marked xb).marked xa) hcs⟩
   ·simp only[GS.plain,Acb];exact⟨⟨hpa,q6⟩,hp.2⟩
   ·intro t ht
    simp only[GS.rds,Ach] at ht⊢
    exact ht.imp id (Or.imp (q7 t) id)
   ·intro t ht
    simp only[GS.Bn,Ach] at ht⊢
    exact ht.imp id (Or.imp (q8 t) id)
   ·have v1:Vs d (Ls++L) d1 (Ls++(L1++L2)):=hv.front Ls
    have v0:Vs d1 (Ls++(L1++L2)) d1 ((Ls++L2)++L1):=Vs.perm (by rw[Ace];exact(Acn).append_left Ls)
    have v2:Vs d1 ((Ls++L2)++L1) d4 ((Ls++L4)++L1):=q10.behind L1
    have v3:Vs d4 ((Ls++L4)++L1) d4 (Ls++(L1++L4)):=Vs.perm (by rw[Ace];exact(Acn).append_left Ls)
    exact((v1.trans v0).trans v2).trans v3
   ·refine VN (hq j o op r1 q1 q2) (fun v h5=>?_) q11
    have hoff:Off b'.Bn ρ (put ρ op.dst v):=Off.G8 (fun t ht=>q9 t ht) v
    refine⟨Ra,Rb,d4,L1,L4,Vs.refl _ _,?_,sb,Hd (Es sa) a' hpa (fun t ht hm=>hs2' t hm ht) (fun t ht hm=>(hs1' t ht).2 hm) Ls ρ _ d1 d4 L1 hoff q10.1 h1,h5,?_⟩
    ·exact fun ρ ρ' d d' L ho hl hr=>sa ρ ρ' d d' L (fun t ht=>ho t fun hm=>ht (q8 t hm)) hl hr
    ·intro ρ2 d6 M1 M2 hl ho r1 r2
     refine h3 ρ2 d6 M1 M2 (q10.1.trans hl) (fun t ht=>?_) r1 r2
     rw[Ach,not_or] at ht
     exact(ho t (by rw[Ach,not_or];exact⟨ht.1,fun hm=>ht.2 (q8 t hm)⟩)).trans (hoff t ht.2)
  |none=>
  rw[hfb] at hf
  simp only at hf
  split at hf
  ·rename_i h0
   simp only[Acb] at h0
   obtain⟨e1,N1,v1,M1,rfl,r1⟩:=HH a h0.1 ha h1
   obtain⟨e2,N2,v2,M2,rfl,r2⟩:=HH b h0.2 hb h2
   have v3:=Vs.two v1 v2
   have h4:=h3 ρ (Gk.join e2 e1) M1 M2 v3.1 (fun _ _=>Z) (sa _ _ _ _ _ (fun _ _=>Z) (Le.AZ _ _) r1) (sb _ _ _ _ _ (fun _ _=>Z) (Le.Au _ _) r2)
   have el:=I4 hdis (El a hca h0.1) (El b hcb h0.2)
   have hcs:=CX s (Ms (fun x hx=>by simpa using hin x hx) hsb hcov el) hcs
   rw[←el] at hcs
   obtain⟨r1,r2,r3,hix,o,op,gs,s'',q1,q2,q3,q4,q5,q6,q7,q8,q9,d4,L4,q10,q11⟩:=ihs l lx lx s' ρ _ _ i (fun _ h=>h) hcov hf hcs hs' hp.2 h4
   exact⟨r1,r2,r3,hix,o,op,gs,s'',q1,q2,q3,q4,by simp only[SI.steps];omega,q6,fun t ht=>by simp[GS.rds,q7 t ht],fun t ht=>by simp[GS.Bn,q8 t ht],fun t ht=>by simp[GS.Bn,q9 t ht],d4,L4,((hv.front Ls).trans v3).trans q10,q11⟩
  ·cases hf
def WV{ops:Array Oper}{q:Nat→Bool}{bs:List Bool}:∀(s:SI) {la:List Nat}{tgt l lm:Array Bool},BO ops q bs la tgt true l lm s=true→s.steps=0→s.fin=true:=by
 intro s;induction s with
 |done=>intro la tgt l lm _ _;rfl
 |op tk i s ih=>intro la tgt l lm _ h;simp only[SI.steps] at h;omega
 |alt i s t ih1 ih2=>intro la tgt l lm _ h;simp only[SI.steps] at h;omega
 |bar s ih=>intro la tgt l lm h;cases h
 |par xa xb a b s iha ihb ihs=>
  intro la tgt l lm hc h
  simp only[BO,Acb] at hc
  simp only[SI.steps] at h
  simp only[SI.fin,Acb]
  exact⟨⟨iha hc.1.1.2 (by omega),ihb hc.1.2 (by omega)⟩,ihs hc.2 (by omega)⟩
def V6{P:Program}{n:Nat}{ds:List Deferred}{ops:Array Oper}{Q:BK}{F:List Ab}{W0:World}{d0:Ab}{q:Nat→Bool}{bs:List Bool}{la lb:List Nat}{tgt l0 l1:Array Bool}{Ra Rb:Env→AL}{Ls:List Ab}{ρ0:Env}{dd:Ab}{DA DB:List Nat}{m:Nat}
  (hsel:Region.noSelect ops=true) (hlast:H9 ops bs=true) (hq:∀i o op,q i=true→ops[i]?=some o→G0 P n ops o=some op→op.i.quiet=true) (hap:HE ops bs la lb=true) (ht1:tgt=marked l0 la) (ht2:tgt=marked l1 lb) (sa:Nb DB Ra) (sb:Nb DA Rb)
  (Hs:∀(k:Nat) ρ' d' M1 M2 W',m≤k→Ra ρ' d' M1→Rb ρ' d' M2→Off (DA++DB) ρ0 ρ'→Le dd d'→Ok (d'::((M1++M2)++(Ls++F))) W'→Le d0 d'→AG W0 W'→Cd P ops (lift n ds F W0 d0 Q) (St false d' Ls F) bs k tgt (act n ρ' ds) W'):
  ∀(N:Nat) (a b:SI) (ga gb:GS) (l:Array Bool) (ρ:Env) (d:Ab) (L1 L2:List Ab) (k:Nat) (W:World),a.steps+b.steps≤N→BO ops q bs la tgt true (marked l lb) l a=true→BO ops q bs lb tgt true (marked l la) l b=true→
   BV P n ops a=some ga→BV P n ops b=some gb→ga.plain=true→gb.plain=true→(∀t∈ga.Bn,t∈DA)→(∀t∈gb.Bn,t∈DB)→(∀t∈ga.rds,t∉DB)→(∀t∈gb.rds,t∉DA)→(∀t∈DA,t∉DB)→
   gws P BS (FX Ls Ra) ga Ls ρ d L1→gws P BS (FX Ls Rb) gb Ls ρ d L2→Ok (d::((L1++L2)++(Ls++F))) W→Le d0 d→Le dd d→AG W0 W→Off (DA++DB) ρ0 ρ→a.steps+b.steps+m≤k→
   Cd P ops (lift n ds F W0 d0 Q) (St false d Ls F) bs k l (act n ρ ds) W:=by
 obtain⟨hb1,hb2,hdis,hw1,hw2⟩:=EL hap
 have okS:∀{d:Ab}{L Ls F:List Ab}{W:World}{b:Bool},Ok (d::(L++(Ls++F))) W→St false d Ls F b W:=by
  intro d L Ls F W b x;have x1:Ok (d::(Ls++F)) W:=x.sub (Aey d (Adi L _));exact⟨x1.sub (Aey d (Adi Ls F)),fun hb=>⟨Z,x1⟩⟩
 have fin:∀(a b:SI) (ga gb:GS) (l:Array Bool) (ρ:Env) (d:Ab) (L1 L2:List Ab) (k:Nat) (W:World),a.fin=true→b.fin=true→BO ops q bs la tgt true (marked l lb) l a=true→BO ops q bs lb tgt true (marked l la) l b=true→
   BV P n ops a=some ga→BV P n ops b=some gb→gws P BS (FX Ls Ra) ga Ls ρ d L1→gws P BS (FX Ls Rb) gb Ls ρ d L2→Ok (d::((L1++L2)++(Ls++F))) W→Le d0 d→Le dd d→AG W0 W→Off (DA++DB) ρ0 ρ→m≤k→
   Cd P ops (lift n ds F W0 d0 Q) (St false d Ls F) bs k l (act n ρ ds) W:=by
  intro a b ga gb l ρ d L1 L2 k W ha hb hca hcb hga hgb h1 h2 hOk hle hld hk ho hm
  obtain⟨d1,N1,hv1,M1,rfl,hr1⟩:=HH a ha hga h1
  obtain⟨d2,N2,hv2,M2,rfl,hr2⟩:=HH b hb hgb h2
  rw[I4 hdis (El a hca ha) (El b hcb hb)]
  have x1:Ok (d::((Ls++(L1++L2))++F)) W:=hOk.perm (Acr d (by
   rw[Ace Ls];exact DH (L1++L2) Ls F))
  have v3:=Vs.two hv1 hv2
  have x5:Ok (join d2 d1::((M1++M2)++(Ls++F))) W:=(v3.2 F W x1).perm (Acr _ (by
   rw[Ace Ls];exact DH Ls (M1++M2) F))
  exact Cd.mono (fun b w hw=>hw.le v3.1) _ _ _ _ (Hs k ρ _ M1 M2 W hm (sa _ _ _ _ _ (fun _ _=>Z) (Le.AZ d2 d1) hr1) (sb _ _ _ _ _ (fun _ _=>Z) (Le.Au d2 d1) hr2) ho (hld.trans v3.1) x5 (hle.trans v3.1) hk)
 have cov:∀(xs ys:List Nat) (l:Array Bool),(∀x∈xs,x∉ys)→∀x∈xs,(marked l ys).getD x true=true→l.getD x true=true:=by
  intro xs ys l h2 x hx h3;cases e:l.getD x true with
  |true=>rfl
  |false=>
   rw[Ck] at e
   have:(marked l ys).getD x true=false:=by rw[Ck,BL,if_neg (h2 x hx)];exact e
   rw[this] at h3;cases h3
 have hdis':∀i∈lb,i∉la:=fun i hi hm=>hdis i hm hi
 have look:∀{d:Ab}{w:World}{b:Bool},b=false→St false d Ls F b w→∀a v,HC d Ls a v→w.cell? a=some v:=by
  intro d w b hb hw a v hc;subst hb;exact hc.cell hw.1.head (fun q hq=>(hw.2 Z).2.2 q (by simp[hq]))
 have taken:∀{i:Nat}{o:Oper}{op:GOp}{ρ:Env}{d:Ab}{M:List Ab}{l:Array Bool}{W:World}{k:Nat}{K:Env→AL},q i=true→bs.getD i false=false→ops[i]?=some o→G0 P n ops o=some op→Region.free .any ops l i=true→i∈Region.ready .any ops l→St false d Ls F false W→
   gop P BS op ρ d Ls M K→(∀v,K (put ρ op.dst v) d M→Cd P ops (lift n ds F W0 d0 Q) (St false d Ls F) bs k (l.setIfInBounds i true) (act n (put ρ op.dst v) ds) W)→
   Cd P ops (lift n ds F W0 d0 Q) (St false d Ls F) bs (k+1) l (act n ρ ds) W:=by
  intro i o op ρ d M l W k K hqi hbi ho hd hf hr hS hop hK
  have hquiet:=hq i o op hqi ho hd
  obtain⟨hopn,hdst,_,hdi,hgd,hgu⟩:=GF hd
  have goOn:∀v,YieldsIf P ops (St false d Ls F (bs.getD i false)) o v (act n ρ ds)→K (put ρ op.dst v) d M→Cd P ops (lift n ds F W0 d0 Q) (St false d Ls F) bs (k+1) l (act n ρ ds) W:=by
   intro v hy hw;refine Cd.first ho (Region.noSelect_spec hsel) (fun c a w hh=>?_) hlast (fun w hw=>⟨hw.1,fun e=>by cases e⟩) k l _ W (Region.free_spec ho hf) hr hy (by rw[hbi];exact hS) ?_
   ·obtain⟨h1,h2⟩:=hh;refine⟨?_,h2⟩
    cases hdd:o.dst with
    |none=>rw[hdd] at h1;exact h1
    |some t=>rw[hdd] at h1;exact h1
   ·rw[Fa hdst,←hgd];exact hK v hw
  rcases hgu with ⟨hgn,hg'⟩|⟨j,want,t,hgn,ht2,htn,hg'⟩
  ·simp only[gop,hg'] at hop
   rw[DU hquiet] at hop
   obtain⟨v,hv,hK'⟩:=hop
   refine goOn v (.inl ⟨by simp[Region.wanted,hgn],fun w hw=>?_⟩) hK'
   exact Gj hdi hquiet hv (fun x hx=>A2 (hopn x hx)) (look hbi hw)
  ·simp only[gop,hg'] at hop
   rcases hop with ⟨b,hb,h1,h2⟩|⟨hb,h2⟩
   case inr=>exact goOn undef (.inr ⟨HV hgn ht2 htn hb,Z⟩) h2
   by_cases e:b=want
   ·have h1:=h1 e
    rw[DU hquiet] at h1
    obtain⟨v,hv,hK'⟩:=h1
    refine goOn v (.inl ⟨by rw[Gx hgn ht2 htn hb];simp[e],fun w hw=>?_⟩) hK'
    exact Gj hdi hquiet hv (fun x hx=>A2 (hopn x hx)) (look hbi hw)
   ·exact goOn undef (.inr ⟨by rw[Gx hgn ht2 htn hb];simpa using e,Z⟩) (h2 (by cases b<;>cases want<;>simp_all))
 intro N
 induction N with
 |zero=>
  intro a b ga gb l ρ d L1 L2 k W hN hca hcb hga hgb hpa hpb hda hdb hra hrb hdd h1 h2 hOk hle hld hk ho hkk
  have ha:a.fin=true:=WV a hca (by omega)
  have hb:b.fin=true:=WV b hcb (by omega)
  exact fin a b ga gb l ρ d L1 L2 k W ha hb hca hcb hga hgb h1 h2 hOk hle hld hk ho (by omega)
 |succ N ih=>
  intro a b ga gb l ρ d L1 L2 k W hN hca hcb hga hgb hpa hpb hda hdb hra hrb hdd h1 h2 hOk hle hld hk ho hkk
  by_cases hab:a.fin=true∧b.fin=true
  ·exact fin a b ga gb l ρ d L1 L2 k W hab.1 hab.2 hca hcb hga hgb h1 h2 hOk hle hld hk ho (by omega)
  have okA0:Ok (d::((Ls++L1)++(L2++F))) W:=hOk.perm (Acr d (by
   rw[Ace,Ace];exact((DH L2 Ls F).append_left L1).trans (DH L1 Ls _)))
  cases hfa:a.front with
  |some i=>
   obtain⟨r1,r2,r3,hil,o,op,gs,s',ho',hdec,hgs,hck,hst,hpl,hrd,hds,hdst,d1,L1',hv,hop⟩:=Mo hq a (marked l lb) l l ga ρ d L1 i (fun _ h=>h) (cov la lb l hdis) hfa hca hga hpa h1
   obtain⟨k,rfl⟩:∃k',k=k'+1:=⟨k - 1,by omega⟩
   have x1:=hv.2 (L2++F) W okA0
   have x2:Ok (d1::((L1'++L2)++(Ls++F))) W:=x1.perm (Acr d1 (by
    rw[Ace,Ace];exact(DH Ls L1' _).trans ((DH Ls L2 F).append_left L1')))
   refine Cd.mono (fun b w hw=>hw.le hv.1) _ _ _ _ (taken (d:=d1) r1 (hb1 i hil) ho' hdec r2 (FJ hdis hw1 hil r3) (okS x2) hop fun v h4=>?_)
   have hoff:Off DA ρ (put ρ op.dst v):=Off.G8 (fun t ht=>hda t (hdst t ht)) v
   exact ih s' b gs gb (l.setIfInBounds i true) _ d1 L1' L2 k W (by omega) (by rw[CQ];exact hck) (by rw[Dm hil];exact CX b (Sb.self l i) hcb) hgs hgb hpl hpb (fun t ht=>hda t (hds t ht)) hdb
     (fun t ht=>hra t (hrd t ht)) hrb hdd h4 (Hd (Es sb) gb hpb hrb (fun t ht hm=>hdd t hm (hdb t ht)) Ls ρ _ d d1 L2 hoff hv.1 h2) x2 (hle.trans hv.1) (hld.trans hv.1) hk (ho.trans fun t ht=>hoff t fun hm=>ht (by simp[hm])) (by omega)
  |none=>
  cases hfb:b.front with
  |some i=>
   obtain⟨r1,r2,r3,hil,o,op,gs,s',ho',hdec,hgs,hck,hst,hpl,hrd,hds,hdst,d1,L2',hv,hop⟩:=Mo hq b (marked l la) l l gb ρ d L2 i (fun _ h=>h) (cov lb la l hdis') hfb hcb hgb hpb h2
   obtain⟨k,rfl⟩:∃k',k=k'+1:=⟨k - 1,by omega⟩
   have okB0:Ok (d::((Ls++L2)++(L1++F))) W:=okA0.perm (Acr d (by
    rw[Ace,Ace];exact(DH L1 L2 F).append_left Ls))
   have x1:=hv.2 (L1++F) W okB0
   have x2:Ok (d1::((L1++L2')++(Ls++F))) W:=x1.perm (Acr d1 (by
    rw[Ace,Ace];exact((DH L2' L1 F).append_left Ls).trans ((DH Ls L1 _).trans ((DH Ls L2' F).append_left L1))))
   refine Cd.mono (fun b w hw=>hw.le hv.1) _ _ _ _ (taken (d:=d1) r1 (hb2 i hil) ho' hdec r2 (FJ hdis' hw2 hil r3) (okS x2) hop fun v h4=>?_)
   have hoff:Off DB ρ (put ρ op.dst v):=Off.G8 (fun t ht=>hdb t (hdst t ht)) v
   exact ih a s' ga gs (l.setIfInBounds i true) _ d1 L1 L2' k W (by omega) (by rw[Dm hil];exact CX a (Sb.self l i) hca) (by rw[CQ];exact hck) hga hgs hpa hpl hda (fun t ht=>hdb t (hds t ht))
     hra (fun t ht=>hrb t (hrd t ht)) hdd (Hd (Es sa) ga hpa hra (fun t ht hm=>hdd t (hda t ht) hm) Ls ρ _ d d1 L1 hoff hv.1 h1) h4 x2 (hle.trans hv.1) (hld.trans hv.1) hk (ho.trans fun t ht=>hoff t fun hm=>ht (by simp[hm])) (by omega)
  |none=>
  have hsteps:1≤a.steps+b.steps:=by
   cases ea:a.fin with
   |false=>have:=(Fc a hca hfa ea).2.2;omega
   |true=>cases eb:b.fin with
    |false=>have:=(Fc b hcb hfb eb).2.2;omega
    |true=>exact absurd ⟨ea,eb⟩ hab
  obtain⟨k,rfl⟩:∃k',k=k'+1:=⟨k - 1,by omega⟩
  have okA:Ok (d::((Ls++L1)++(L2++F))) W:=hOk.perm (Acr d (by
   rw[Ace,Ace];exact((DH L2 Ls F).append_left L1).trans (DH L1 Ls _)))
  have okB:Ok (d::((Ls++L2)++(L1++F))) W:=okA.perm (Acr d (by
   rw[Ace,Ace];exact(DH L1 L2 F).append_left Ls))
  have outA:∀{e:Ab}{X M Y:List Ab}{W':World},Ok (e::((Ls++(X++M))++(Y++F))) W'→Ok (e::(X++(M++(Y++(Ls++F))))) W':=by
   intro e X M Y W' x;refine x.perm (Acr e ?_);rw[Ace,Ace];exact(DH Ls X _).trans (((DH Ls M _).trans ((DH Ls Y F).append_left M)).append_left X)
  have stepA:∀i∈a.B7,wpOp P ops (lift n ds F W0 d0 Q) i (fun a' w'=>St false d Ls F (bs.getD i false) w'∧Cd P ops (lift n ds F W0 d0 Q) (St false d Ls F) bs k (l.setIfInBounds i true) a' w') (act n ρ ds) W:=by
   intro i hi;have hil:=Fy a hca i hi;obtain⟨o,op,gs,s',ho',hdec,hgs,hck,hst,hpl,hrd,hds,hdst,d1,La,M,hv,hop⟩:=W4 a true (marked l lb) l l ga ρ d L1 (fun _ h=>h) (cov la lb l hdis) hfa hca hga hpa h1 i hi;have hOk1:=outA (hv.2 (L2++F) W okA);refine He (F:=M++(L2++(Ls++F))) ho' hdec hOk1 (fun q hq=>hOk1.2 q (by simp at hq;rcases hq with hq|hq<;>simp[hq])) (fun B hB=>⟨M++(L2++F),by rw[←Afv hB];exact((Aeh _ _ _).append_left _).trans (Aeh _ _ _)⟩) (Lc hop) ?_ ?_
   ·intro ρ' d' L' W' g1 g2 g3 ⟨⟨v,hρ⟩,_,d2,L2',hv2,h4⟩;have h5:=hv2.2 (L2++(Ls++F)) W' (by rw[Ace];exact g1);have hle2:Le d d2:=hv.1.trans (g2.trans hv2.1);have hoff:Off DA ρ ρ':=by rw[hρ];exact Off.G8 (fun t ht=>hda t (hdst t ht)) v
    have g1':Ok (d'::((L'++(M++L2))++(Ls++F))) W':=by simpa [Ace] using g1
    have h5':Ok (d2::((L2'++L2)++(Ls++F))) W':=by rw[Ace];exact h5
    refine⟨(okS g1').le (hv.1.trans g2),Cd.mono (fun b w hw=>hw.le hle2) _ _ _ _ (ih s' b gs gb (l.setIfInBounds i true) ρ' d2 L2' L2 k W' (by omega) (by rw[CQ];exact hck) (by rw[Dm hil];exact CX b (Sb.self l i) hcb) hgs hgb hpl hpb (fun t ht=>hda t (hds t ht)) hdb
     (fun t ht=>hra t (hrd t ht)) hrb hdd h4 (Hd (Es sb) gb hpb hrb (fun t ht hm=>hdd t hm (hdb t ht)) Ls ρ ρ' d d2 L2 hoff hle2 h2) h5' (hle.trans hle2) (hld.trans hle2) (hk.trans g3) (ho.trans fun t ht=>hoff t fun hm=>ht (by simp[hm])) (by omega))⟩
   ·intro c d' L' W' _ _ _ h;exact h.elim
  have stepB:∀i∈b.B7,wpOp P ops (lift n ds F W0 d0 Q) i (fun a' w'=>St false d Ls F (bs.getD i false) w'∧Cd P ops (lift n ds F W0 d0 Q) (St false d Ls F) bs k (l.setIfInBounds i true) a' w') (act n ρ ds) W:=by
   intro i hi;have hil:=Fy b hcb i hi;obtain⟨o,op,gs,s',ho',hdec,hgs,hck,hst,hpl,hrd,hds,hdst,d1,La,M,hv,hop⟩:=W4 b true (marked l la) l l gb ρ d L2 (fun _ h=>h) (cov lb la l hdis') hfb hcb hgb hpb h2 i hi;have hOk1:=outA (hv.2 (L1++F) W okB);refine He (F:=M++(L1++(Ls++F))) ho' hdec hOk1 (fun q hq=>hOk1.2 q (by simp at hq;rcases hq with hq|hq<;>simp[hq])) (fun B hB=>⟨M++(L1++F),by rw[←Afv hB];exact((Aeh _ _ _).append_left _).trans (Aeh _ _ _)⟩) (Lc hop) ?_ ?_
   ·intro ρ' d' L' W' g1 g2 g3 ⟨⟨v,hρ⟩,_,d2,L2',hv2,h4⟩;have h5:=hv2.2 (L1++(Ls++F)) W' (by rw[Ace];exact g1);have hle2:Le d d2:=hv.1.trans (g2.trans hv2.1);have hoff:Off DB ρ ρ':=by rw[hρ];exact Off.G8 (fun t ht=>hdb t (hdst t ht)) v
    have g1':Ok (d'::((L'++(M++L1))++(Ls++F))) W':=by simpa [Ace] using g1
    have h5':Ok (d2::((L1++L2')++(Ls++F))) W':=by rw[Ace];exact h5.perm (Acr d2 (DH L2' L1 _))
    refine⟨(okS g1').le (hv.1.trans g2),Cd.mono (fun b w hw=>hw.le hle2) _ _ _ _ (ih a s' ga gs (l.setIfInBounds i true) ρ' d2 L1 L2' k W' (by omega) (by rw[Dm hil];exact CX a (Sb.self l i) hca) (by rw[CQ];exact hck) hga hgs hpa hpl hda (fun t ht=>hdb t (hds t ht))
     hra (fun t ht=>hrb t (hrd t ht)) hdd (Hd (Es sa) ga hpa hra (fun t ht hm=>hdd t (hda t ht) hm) Ls ρ ρ' d d2 L1 hoff hle2 h1) h4 h5' (hle.trans hle2) (hld.trans hle2) (hk.trans g3) (ho.trans fun t ht=>hoff t fun hm=>ht (by simp[hm])) (by omega))⟩
   ·intro c d' L' W' _ _ _ h;exact h.elim
  have hr:=PH (l:=l) hap ht1 ht2 (Fy a hca) (Fy b hcb) (fun e=>(Fc a hca hfa e).1) (fun e=>(Fc b hcb hfb e).1) (El a hca) (El b hcb) (Ip a) (Ip b) hab
  refine fun _=>⟨fun h0=>?_,fun i hi=>?_⟩
  ·exfalso
   have none:∀i,¬(i∈a.B7∨i∈b.B7):=fun i h=>by have:=(hr i).2 h;rw[h0] at this;cases this
   cases ea:a.fin with
   |false=>exact(Fc a hca hfa ea).2.1 (List.eq_nil_iff_forall_not_mem.2 fun i h=>none i (.inl h))
   |true=>cases eb:b.fin with
    |false=>exact(Fc b hcb hfb eb).2.1 (List.eq_nil_iff_forall_not_mem.2 fun i h=>none i (.inr h))
    |true=>exact hab ⟨ea,eb⟩
  ·rcases (hr i).1 hi with h|h
   ·exact stepA i h
   ·exact stepB i h
def PF{P:Program}{n:Nat}{ds:List Deferred}{ops:Array Oper}{Q:BK}{F:List Ab}{W0:World}{d0:Ab}{bs:List Bool}(hsel:Region.noSelect ops=true)(hlast:H9 ops bs=true):
  ∀(si:SI) (top past:Bool) (listed:Array Bool) (s:GS) (ρ:Env) (d:Ab) (L Ls:List Ab) (k:Nat) (W:World),chk ops (quietAt P ops) bs top past listed si=true→BV P n ops si=some s→(past=true→Ls=[])→
   gws P Q.pan Q.n s Ls ρ d L→Ok (d::(L++(Ls++F))) W→Le d0 d→AG W0 W→si.steps≤k→
   (top=true→Cd P ops (lift n ds F W0 d0 Q) (St past d Ls F) bs k listed (act n ρ ds) W)∧
   (top=false→∀i∈si.B7,wpOp P ops (lift n ds F W0 d0 Q) i (fun a' w'=>St past d Ls F (bs.getD i false) w'∧Cd P ops (lift n ds F W0 d0 Q) (St past d Ls F) bs (k - 1) (listed.setIfInBounds i true) a' w') (act n ρ ds) W):=by
 have okS:∀{past:Bool}{d:Ab}{L Ls F:List Ab}{W:World}{b:Bool},Ok (d::(L++(Ls++F))) W→past=b→St past d Ls F b W:=by
  intro past d L Ls F W b x e;have x1:Ok (d::(Ls++F)) W:=x.sub (Aey d (Adi L _));exact⟨x1.sub (Aey d (Adi Ls F)),fun hb=>⟨e.trans hb,x1⟩⟩
 have front:∀{d:Ab}{L Ls F:List Ab}{W:World},Ok (d::(L++(Ls++F))) W→Ok (d::((Ls++L)++F)) W:=by
  intro d L Ls F W x;exact x.perm (Acr d (by rw[←Ace];exact(Acn).append_right F))
 intro si
 induction si with
 |done=>
  intro top past listed s ρ d L Ls k W hc hs hp h hOk hle hk hst
  simp only[chk,Acb,beq_iff_eq] at hc
  simp[BV] at hs;subst hs
  obtain⟨d1,L1,hv,hq⟩:=h
  exact⟨fun _=>Cd.done hc.2 ⟨ρ,d1,L1,Z,hv.2 F W (front hOk),hle.trans hv.1,hk,hq⟩ k,fun ht=>by rw[ht] at hc;simp at hc⟩
 |op tk i si ih=>
  intro top past listed s ρ d L Ls k W hc hs hp h hOk hle hk hst
  simp only[BV] at hs
  split at hs<;>try cases hs
  rename_i g s' hg hs'
  rw[Adk] at hg
  obtain⟨o,ho,hd⟩:=hg
  obtain⟨hop,hdst,_,hdi,hgd,hgu⟩:=GF hd
  simp only[SI.steps] at hst
  obtain⟨k,rfl⟩:∃k',k=k'+1:=⟨k - 1,by omega⟩
  cases tk with
  |true=>
   simp only[chk,Acb,beq_iff_eq] at hc
   obtain⟨⟨⟨⟨⟨ht,hqi⟩,hpb⟩,hf⟩,hr⟩,hc'⟩:=hc
   have hquiet:g.i.quiet=true:=by
    simp only[quietAt,ho,Aeu,hdi,Option.any_some] at hqi;exact hqi
   refine⟨fun _=>?_,fun ht'=>by rw[ht'] at ht;cases ht⟩
   have goOn:∀v,YieldsIf P ops (St past d Ls F (bs.getD i false)) o v (act n ρ ds)→gws P Q.pan Q.n s' Ls (put ρ g.dst v) d L→
     Cd P ops (lift n ds F W0 d0 Q) (St past d Ls F) bs (k+1) listed (act n ρ ds) W:=by
    intro v hy hw
    refine Cd.first ho (Region.noSelect_spec hsel) (fun c a w hh=>?_) hlast (fun w hw=>⟨hw.1,fun e=>by cases e⟩) k listed _ W (Region.free_spec ho hf) (by simpa using hr) hy (okS hOk hpb) ?_
    ·obtain⟨h1,h2⟩:=hh
     refine⟨?_,h2⟩
     cases hdd:o.dst with
     |none=>rw[hdd] at h1;exact h1
     |some t=>rw[hdd] at h1;exact h1
    ·rw[Fa hdst,←hgd]
     exact((ih true past _ s' _ d L Ls k W hc' hs' hp hw hOk hle hk (by omega)).1 Z)
   have look:∀w,St past d Ls F (bs.getD i false) w→∀a v,HC d Ls a v→w.cell? a=some v:=by
    intro w hw a v hc;refine hc.cell hw.1.head (fun q hq=>?_);cases hbi:bs.getD i false with
    |true=>rw[hbi] at hpb;rw[hp hpb] at hq;cases hq
    |false=>exact(hw.2 hbi).2.2 q (by simp[hq])
   rcases hgu with ⟨hgn,hg'⟩|⟨j,want,t,hgn,ht2,htn,hg'⟩
   ·simp only[gws,gop,hg'] at h
    rw[DU hquiet] at h
    obtain⟨v,hv,hK⟩:=h
    refine goOn v (.inl ⟨by simp[Region.wanted,hgn],fun w hw=>?_⟩) hK
    exact Gj hdi hquiet hv (fun x hx=>A2 (hop x hx)) (look w hw)
   ·simp only[gws,gop,hg'] at h
    rcases h with ⟨b,hb,h1,h2⟩|⟨hb,h2⟩
    case inr=>exact goOn undef (.inr ⟨HV hgn ht2 htn hb,Z⟩) h2
    by_cases e:b=want
    ·have h1:=h1 e
     rw[DU hquiet] at h1
     obtain⟨v,hv,hK⟩:=h1
     refine goOn v (.inl ⟨by rw[Gx hgn ht2 htn hb];simp[e],fun w hw=>?_⟩) hK
     exact Gj hdi hquiet hv (fun x hx=>A2 (hop x hx)) (look w hw)
    ·refine goOn undef (.inr ⟨by rw[Gx hgn ht2 htn hb];simpa using e,Z⟩) (h2 (by cases b<;>cases want<;>simp_all))
  |false=>
   simp only[chk,Acb,beq_iff_eq] at hc
   obtain⟨⟨hr,hpb⟩,hc'⟩:=hc
   obtain⟨d1,L1,hv,h⟩:=h
   have hOk1:=hv.2 (Ls++F) W hOk
   have step:wpOp P ops (lift n ds F W0 d0 Q) i (fun a' w'=>St past d Ls F (bs.getD i false) w'∧Cd P ops (lift n ds F W0 d0 Q) (St past d Ls F) bs k (listed.setIfInBounds i true) a' w') (act n ρ ds) W:=by
    refine He ho hd hOk1 (fun q hq=>hOk1.2 q (by simp at hq;rcases hq with hq|hq<;>simp[hq])) (fun B hB=>⟨F,by rw[←Afv hB]⟩) h ?_ ?_
    ·intro ρ' d' L' W' h1 h2 h3 ⟨d2,L2,hv2,h4⟩;have hdd:=hv.1.trans h2;refine⟨(okS h1 hpb).le hdd,?_⟩
     exact Cd.mono (fun b w hw=>hw.le (hdd.trans hv2.1)) _ _ _ _ ((ih true past _ s' ρ' d2 L2 Ls k W' hc' hs' hp h4 (hv2.2 _ W' h1) (hle.trans (hdd.trans hv2.1)) (hk.trans h3) (by omega)).1 Z)
    ·intro c d' L' W' h1 h2 h3 h4;exact⟨Z,d',Ls++L',front h1,hle.trans (hv.1.trans h2),hk.trans h3,h4⟩
   refine⟨fun ht=>?_,fun _ j hj=>?_⟩
   ·rw[ht] at hr
    simp only[Bool.not_true,Agt,beq_iff_eq] at hr
    refine fun _=>⟨fun h0=>by rw[h0] at hr;simp at hr,fun j hj=>?_⟩
    rw[hr] at hj
    simp at hj;subst hj
    exact step
   ·simp only[SI.B7,Adh] at hj
    subst hj
    exact step
 |alt i si ti ih1 ih2=>
  intro top past listed s ρ d L Ls k W hc hs hp h hOk hle hk hst
  simp only[BV] at hs
  split at hs<;>try cases hs
  rename_i g s' t' hg hs' ht'
  rw[Adk] at hg
  obtain⟨o,ho,hd⟩:=hg
  simp only[SI.steps] at hst
  obtain⟨k,rfl⟩:∃k',k=k'+1:=⟨k - 1,by omega⟩
  simp only[chk,Acb,beq_iff_eq] at hc
  obtain⟨⟨⟨hr,hpb⟩,hc1⟩,hc2⟩:=hc
  obtain⟨⟨d1,L1,hv,h⟩,hrest⟩:=h
  have hOk1:=hv.2 (Ls++F) W hOk
  have step:wpOp P ops (lift n ds F W0 d0 Q) i (fun a' w'=>St past d Ls F (bs.getD i false) w'∧Cd P ops (lift n ds F W0 d0 Q) (St past d Ls F) bs k (listed.setIfInBounds i true) a' w') (act n ρ ds) W:=by
   refine He ho hd hOk1 (fun q hq=>hOk1.2 q (by simp at hq;rcases hq with hq|hq<;>simp[hq])) (fun B hB=>⟨F,by rw[←Afv hB]⟩) h ?_ ?_
   ·intro ρ' d' L' W' h1 h2 h3 ⟨d2,L2,hv2,h4⟩;have hdd:=hv.1.trans h2;refine⟨(okS h1 hpb).le hdd,?_⟩
    exact Cd.mono (fun b w hw=>hw.le (hdd.trans hv2.1)) _ _ _ _ ((ih1 true past _ s' ρ' d2 L2 Ls k W' hc1 hs' hp h4 (hv2.2 _ W' h1) (hle.trans (hdd.trans hv2.1)) (hk.trans h3) (by omega)).1 Z)
   ·intro c d' L' W' h1 h2 h3 h4;exact⟨Z,d',Ls++L',front h1,hle.trans (hv.1.trans h2),hk.trans h3,h4⟩
  have others:=(ih2 false past listed t' ρ d L Ls (k+1) W hc2 ht' hp hrest hOk hle hk (by omega)).2 Z
  have all:∀j∈i::ti.B7,wpOp P ops (lift n ds F W0 d0 Q) j (fun a' w'=>St past d Ls F (bs.getD j false) w'∧Cd P ops (lift n ds F W0 d0 Q) (St past d Ls F) bs k (listed.setIfInBounds j true) a' w') (act n ρ ds) W:=by
   intro j hj;rcases Acw.1 hj with rfl|hj
   ·exact step
   ·exact others j hj
  refine⟨fun ht=>?_,fun _ j hj=>all j hj⟩
  rw[ht] at hr
  simp only[Bool.not_true,Agt,beq_iff_eq] at hr
  refine fun _=>⟨fun h0=>by rw[h0] at hr;simp at hr,fun j hj=>?_⟩
  rw[hr] at hj
  exact all j hj
 |bar si ih=>
  intro top past listed s ρ d L Ls k W hc hs hp h hOk hle hk hst
  simp only[chk,Acb,Aes] at hc
  obtain⟨⟨ht,hpf⟩,hc'⟩:=hc
  simp only[BV,Ado] at hs
  obtain⟨s',hs',rfl⟩:=hs
  simp only[gws] at h
  refine⟨fun _=>?_,fun ht'=>by rw[ht'] at ht;cases ht⟩
  have:=(ih true true listed s' ρ d (Ls++L) [] k W hc' hs' (fun _=>Z) h (by simpa using front hOk) hle hk hst).1 Z
  exact Cd.mono (fun b w hw=>⟨hw.1,fun e=>by have:=(hw.2 e).1;cases this⟩) _ _ _ _ this
 |par la lb a b si iha ihb ih=>
  intro top past listed s ρ d L Ls k W hc hs hp h hOk hle hk hst
  simp only[chk,Acb,Aes,beq_iff_eq] at hc
  obtain⟨⟨⟨⟨⟨⟨ht,hpf⟩,hap⟩,hmm⟩,hca⟩,hcb⟩,hc'⟩:=hc
  subst hpf
  rw[←hmm] at hcb
  simp only[BV] at hs
  split at hs<;>try cases hs
  rename_i a' b' s' ha hb hs'
  split at hs<;>try cases hs
  rename_i hsep
  simp only[Acb,Acv,Aes] at hsep
  obtain⟨⟨⟨hpa,hpb⟩,hs1⟩,hs2⟩:=hsep
  refine⟨fun _=>?_,fun ht'=>by rw[ht'] at ht;cases ht⟩
  obtain⟨Ra,Rb,d1,L1,L2,hv,sa,sb,h1,h2,hrest⟩:=h
  simp only[SI.steps] at hst
  have:=V6 (m:=si.steps) (q:=quietAt P ops) (Q:=Q) (F:=F) (W0:=W0) (d0:=d0) (ds:=ds) (P:=P) (n:=n) (ρ0:=ρ) (dd:=d1) (l0:=marked listed lb) (l1:=marked listed la) hsel hlast (fun i o op h1 h2 h3=>by
    obtain⟨_,_,_,hdi,_,_⟩:=GF h3;simp only[quietAt,h2,Aeu,hdi,Option.any_some] at h1;exact h1) hap Z hmm sa sb
   (fun k ρ' d' M1 M2 W' hkm hr1 hr2 ho hl hok hle' hk'=>(ih true false _ s' ρ' d' (M1++M2) Ls k W' hc' hs' hp (hrest ρ' d' M1 M2 hl ho hr1 hr2) hok hle' hk' hkm).1 Z)
   (a.steps+b.steps) a b a' b' listed ρ d1 L1 L2 k W (Acj _) hca hcb ha hb hpa hpb (fun _ h=>h) (fun _ h=>h)
   (fun t ht hm=>by have:=hs2 t hm;simp[ht] at this) (fun t ht hm=>by have:=(hs1 t hm).1;simp[ht] at this) (fun t ht hm=>by have:=(hs1 t ht).2;simp[hm] at this) h1 h2 (hv.2 _ W hOk) (hle.trans hv.1) (Le.refl d1) hk (fun _ _=>Z) hst
  exact Cd.mono (fun b w hw=>hw.le hv.1) _ _ _ _ this
def TK(ops:Array Oper):Closed ops (Array.replicate ops.size false):=by
 intro j oj _ hl;rcases Nat.lt_or_ge j ops.size with h|h
 ·simp[h] at hl
 ·simp[Nat.not_lt.2 h] at hl
def Rm{pr:Bool}{P}{n:Nat}{ds ops}{Q:BK}{F W0 d0}{id:Nat}(hm:P.follows .mixedOrders=true)
  {s}(hs:KH pr P n ops true=some s) {ρ d L Ls W}(h:gws P Q.pan Q.n s Ls ρ d L) (hOk:Ok (d::(L++(Ls++F))) W) (hle:Le d0 d) (hk:AG W0 W):
  (Code.region id ops true).wp P (lift n ds F W0 d0 Q) (act n ρ ds) W:=by
 simp only[KH] at hs
 split at hs
 ·rename_i hc
  simp only[Acb,decide_eq_true_eq] at hc
  obtain⟨⟨⟨h1,h2⟩,h3⟩,h4⟩:=hc
  refine wp_region_any hm (Cd.any _ _ _ _ (TK ops) ((PF h1 h2 _ true false _ s ρ d L Ls ops.size _ h4 hs (fun e=>by cases e) h hOk.drew hle ?_ h3).1 Z))
  exact hk.trans ⟨Z,Z,Z,Acj _⟩
 ·cases hs
def Ha{pr:Bool}{P}{n:Nat}{ds F W0 d0}(hm:P.follows .mixedOrders=true):
  ∀(c:Code) (Q:BK) (ρ:Env) (d:Ab) (L:List Ab) (W:World),gwp P (Ej pr P n c) Q ρ d L→Ok (d::(L++F)) W→Le d0 d→AG W0 W→c.wp P (lift n ds F W0 d0 Q) (act n ρ ds) W:=by
 intro c
 induction c with
 |skip=>
  intro Q ρ d L W h hOk hle hk
  exact wp_skip ⟨ρ,d,L,Z,hOk,hle,hk,h⟩
 |region id ops drawn=>
  intro Q ρ d L W h hOk hle hk
  simp only[Ej] at h
  cases hs:KH pr P n ops drawn with
  |none=>rw[hs] at h;exact h.elim
  |some s=>
  rw[hs] at h
  cases drawn with
  |false=>
   simp only[KH] at hs
   exact wp_region (D4 _ s hs ρ d L W h hOk hle hk)
  |true=>
   obtain⟨d1,Ls,L1,hv,h⟩:=h
   have hOk1:=hv.2 F W hOk
   refine Rm hm hs h (hOk1.perm (Acr d1 ?_)) (hle.trans hv.1) hk
   rw[←Ace]
   exact(Acn).append_right F
 |seq a b iha ihb=>
  intro Q ρ d L W h hOk hle hk
  refine wp_seq (wp_mono (iha _ ρ d L W h hOk hle hk) ?_)
  intro e a w hq
  cases e with
  |normal=>
   obtain⟨ρ',d',L',rfl,h1,h2,h3,h4⟩:=hq
   exact ihb Q ρ' d' L' w h4 h1 h2 h3
  |_=>exact hq
 |cond c a b iha ihb=>
  intro Q ρ d L W h hOk hle hk
  simp only[Ej] at h
  split at h
  ·rename_i hc
   obtain⟨t,ht,h1,h2⟩:=h
   exact wp_cond_split (by rw[A2 hc];exact ht) (fun e=>iha Q ρ d L W (h1 e) hOk hle hk) (fun e=>ihb Q ρ d L W (h2 e) hOk hle hk)
  ·exact h.elim
 |block id a iha=>
  intro Q ρ d L W h hOk hle hk
  refine wp_block (wp_mono (iha _ ρ d L W h hOk hle hk) ?_)
  intro e a w hq
  cases e with
  |exit i=>
   obtain⟨ρ',d',L',rfl,h1,h2,h3,h4⟩:=hq
   simp only[Exit.inBlock]
   by_cases e:i=id
   ·simp only[e,if_true] at h4⊢
    exact⟨ρ',d',L',Z,h1,h2,h3,h4⟩
   ·simp only[if_neg e] at h4⊢
    exact⟨ρ',d',L',Z,h1,h2,h3,h4⟩
  |_=>exact hq
 |loop a iha=>
  intro Q ρ d L W h hOk hle hk
  obtain⟨I,⟨m,hI⟩,round⟩:=h
  refine wp_loop_ghost (fun m a w=>∃ρ d L,a=act n ρ ds∧Ok (d::(L++F)) w∧Le d0 d∧AG W0 w∧I m ρ d L) m ⟨ρ,d,L,Z,hOk,hle,hk,hI⟩ ?_
  rintro m a w ⟨ρ',d',L',rfl,h1,h2,h3,h4⟩
  refine wp_mono (iha _ ρ' d' L' w (round m ρ' d' L' h4) h1 h2 h3) ?_
  intro e a w hq
  cases e with
  |normal=>
   obtain⟨ρ'',d'',L'',rfl,k1,k2,k3,m',k4,k5⟩:=hq
   exact⟨m',k4,ρ'',d'',L'',Z,k1,k2,k3,k5⟩
  |_=>exact hq
 |exit id=>
  intro Q ρ d L W h hOk hle hk
  exact wp_exit ⟨ρ,d,L,Z,hOk,hle,hk,h⟩
 |ret=>
  intro Q ρ d L W h hOk hle hk
  exact wp_ret ⟨ρ,d,L,Z,hOk,hle,hk,h⟩
 |_=>intro Q ρ d L W h;exact h.elim
def KY(ρ:Env)(C:Addr→Value→Prop):F1→Value→Prop
 |.tmp t,v=>v=ρ t
 |.cell t n,v=>evq ρ C (.ld n (.tmp t)) v
def Gq(ρ:Env)(C:Addr→Value→Prop):List F1→List Value→Prop
 |[],[]=>True
 |r::rs,v::vs=>KY ρ C r v∧Gq ρ C rs vs
 |_,_=>False
def J1:List Value→Value
 |[v]=>v
 |vs=>.tuple vs.toArray
def Ct(res:List F1)(R:Ending→Ab→List Ab→Prop)(ρ:Env)(d:Ab)(L:List Ab):Prop:=
 ∃vs,Gq ρ (HC d L) res vs∧∃d' L',Vs d L d' L'∧R (.returned (J1 vs)) d' L'
def mkPost(res:List F1)(R:Ending→Ab→List Ab→Prop):BK:=
 {n:=Ct res R,ex:=fun _ _ _ _=>False,ret:=Ct res R,pan:=fun c d L=>∃d' L',Vs d L d' L'∧R (.panicked c) d' L'}
def GW(args:List Value):Env:=fun i=>args.getD i undef
def O3(tmps:Array Value):ResultVar→Sem Value
 |.tmp t=>pure (tmps.getD t undef)
 |.cell a t=>do loadVar t (←asAddr (tmps.getD a undef))
def Ht(fn:Func)(tmps:Array Value):results fn tmps=(do let vs←fn.results.mapM (O3 tmps);pure (if h:vs.size=1 then vs[0] else .tuple vs)):=Z
def GY{P:Program}{n:Nat}{ρ:Env}{ds:List Deferred}{d:Ab}{L:List Ab}{W:World}(hl:∀a v,HC d L a v→W.cell? a=some v):
  ∀(rs:List ResultVar) (gs:List F1) (vs:List Value),rs.mapM (HT P n)=some gs→Gq ρ (HC d L) gs vs→
   (rs.mapM (O3 (act n ρ ds).tmps)).run P W=.ok vs W
 |[],gs,vs,hg,h=>by
  simp at hg;subst hg;cases vs with
  |nil=>simp
  |cons=>simp[Gq] at h
 |r::rs,gs,vs,hg,h=>by
  simp only[Ahg,Option.bind_eq_bind,Adk,Option.pure_def,Option.some.injEq] at hg;obtain⟨g,hr,gs',hgs,rfl⟩:=hg;cases vs with
  |nil=>simp[Gq] at h
  |cons v vs=>
   obtain⟨h1,h2⟩:=h
   have ih:=GY (ds:=ds) hl rs gs' vs hgs h2
   have get:∀t,t<n→(act n ρ ds).tmps.getD t undef=ρ t:=by
    intro t ht;simp[act,ht,Array.getD]
   simp only[Ahg,Sem.run_bind]
   have one:(O3 (act n ρ ds).tmps r).run P W=.ok v W:=by
    cases r with
    |tmp t=>
     simp only[HT] at hr
     split at hr<;>try cases hr
     rename_i ht
     simp only[KY] at h1;subst h1
     simp only[O3,get t ht,Sem.run_pure]
    |cell t ty=>
     simp only[HT] at hr
     split at hr<;>try cases hr
     rename_i ht
     simp only[Ado] at hr
     obtain⟨m,hm,rfl⟩:=hr
     simp only[KY] at h1
     have ldv:∀a,(loadVar ty a).run P W=(Instr.loadAt ty (.pointer (some a))).run P W:=by intro a;simp[Instr.loadAt,Instr.sureAddr]
     cases m with
     |none=>
      obtain⟨b,o,e1,e2⟩:=h1
      have e1:ρ t=.pointer (some ⟨b,o,none⟩):=e1
      simp only[O3,Sem.run_bind,get t ht,e1,asAddr,Sem.run_pure,Result.andThen,ldv,S0 hm _ _ W (hl _ _ e2)]
     |some m=>
      obtain⟨b,o,cs,e1,e2,e3,rfl⟩:=h1
      have e1:ρ t=.pointer (some ⟨b,o,none⟩):=e1
      simp only[O3,Sem.run_bind,get t ht,e1,asAddr,Sem.run_pure,Result.andThen,ldv,Tv hm b o cs e2 W (fun i u hu=>hl _ _ (e3 i u hu))]
   rw[one]
   simp only[Result.andThen,ih,Sem.run_pure]
def AK{pr:Bool}{P f}{g:A3}(hd:K8 pr P f=some g){args}(ha:args.length≤g.n){L R}
  (h:gwp P g.code (mkPost g.res R) (GW args) d L):AB P f args d L R:=by
 simp only[K8] at hd
 split at hd<;>try cases hd
 rename_i fn hf
 split at hd<;>try cases hd
 rename_i hn
 split at hd<;>try cases hd
 rename_i c hb
 rw[Ado] at hd
 obtain⟨rs,hr,rfl⟩:=hd
 simp only[Adu,not_or,Afg,Agx] at hn
 refine⟨⟨fn,hf,by rw[hb];rfl,hn.1⟩,fun F W hOk=>?_⟩
 refine calls_of_wp hf hb ?_
 have hinit:({tmps:=args.toArray++Array.replicate (fn.ntmps - args.toArray.size) undef,defers:=[]}:Act)=act fn.ntmps (GW args) []:=by
  simp only[act,Act.mk.injEq,and_true];apply Array.ext
  ·simp at ha⊢;omega
  ·intro i h1 h2;simp only[Array.getElem_ofFn,GW];by_cases hi:i<args.length
   ·rw[Array.getElem_append_left (by simpa using hi)];simp[hi]
   ·rw[Array.getElem_append_right (by simpa using hi)];simp[Aga,Adx (Agh hi)]
 rw[hinit]
 have hs:=Ha (ds:=[]) (F:=F) (W0:=W) (d0:=d) (by simpa using hn.2) c _ _ d L W h hOk (Le.refl d) (AG.refl W)
 refine wp_mono hs ?_
 have fin:∀a w,(∃ρ d' L',a=act fn.ntmps ρ []∧Ok (d'::(L'++F)) w∧Le d d'∧AG W w∧Ct rs R ρ d' L')→
   a.defers=[]∧∃v,(results fn a.tmps).run P w=.ok v w∧(∃d' L',Ok (d'::(L'++F)) w∧Le d d'∧AG W w∧R (.returned v) d' L'):=by
  rintro a w ⟨ρ,d',L',rfl,h1,h2,h3,vs,h4,d'',L'',h5,h6⟩
  refine⟨Z,J1 vs,?_,d'',L'',h5.2 F w h1,h2.trans h5.1,h3,h6⟩
  have hl:∀a v,HC d' L' a v→w.cell? a=some v:=fun a v hc=>hc.cell h1.head (fun q hq=>h1.2 q (by simp[hq]))
  have:=GY (P:=P) (n:=fn.ntmps) (ρ:=ρ) (ds:=[]) hl fn.results.toList rs vs hr h4
  rw[Ht,Array.mapM_eq_mapM_toList]
  simp only[Sem.run_bind,Sem.run_map,this,Result.andThen,Sem.run_pure]
  cases vs with
  |nil=>rfl
  |cons v vs=>cases vs with
   |nil=>rfl
   |cons v' vs=>rfl
 intro e a w hq
 cases e with
 |normal=>exact fin a w hq
 |ret=>exact fin a w hq
 |panic c=>
  obtain⟨h1,d',L',h2,h3,h4,d'',L'',h5,h6⟩:=hq
  exact⟨h1,d'',L'',h5.2 F w h2,h3.trans h5.1,h4,h6⟩
 |exit i=>obtain⟨_,_,_,_,_,_,_,hh⟩:=hq;exact hh.elim
 |goto l=>exact hq.elim
 |outgrown=>exact hq.elim
end
section
def lk(tk:Bool)(Ls L:List Ab):List Ab:=match tk with|true=>Ls|false=>Ls++L
def DC(d:Ab)(b o:Nat)(v:Value):Prop:=∃c T fr,d b (.cells c T fr)∧c[o]?=some v
def DCs(d:Ab)(b o:Nat)(vs:List Value):Prop:=∃c T fr,d b (.cells c T fr)∧∀i u,vs[i]?=some u→c[o+i]?=some u
def DCs.at{d}{b o:Nat}{vs}(h:DCs d b o vs){i:Nat}{u}(hi:vs[i]?=some u):DC d b (o+i) u:=
 let ⟨c,T,fr,h1,h2⟩:=h
 ⟨c,T,fr,h1,h2 i u hi⟩
def DC.mono{d d'}{b o:Nat}(h:DC d b o v)(hl:Le d d'):DC d' b o v:=
 let ⟨c,T,fr,h1,h2⟩:=h
 ⟨c,T,fr,hl _ _ h1,h2⟩
def DCs.mono{d d'}{b o:Nat}{vs}(h:DCs d b o vs)(hl:Le d d'):DCs d' b o vs:=
 let ⟨c,T,fr,h1,h2⟩:=h
 ⟨c,T,fr,hl _ _ h1,h2⟩
def DC.cells{d}{b o:Nat}(h:DC d b o v):DCs d b o [v]:=
 let ⟨c,T,fr,h1,h2⟩:=h
 ⟨c,T,fr,h1,fun i u hi=>by
  cases i with
  |zero=>simp at hi;subst hi;exact h2
  |succ i=>simp at hi⟩
def DCs.one{d}{b o:Nat}(h:DCs d b o [v]):DC d b o v:=h.at (i:=0) Z
def BH{d Lk}{b o:Nat}(h:DC d b o v):HC d Lk ⟨b,o,none⟩ v:=
 let ⟨c,T,fr,h1,h2⟩:=h
 ⟨Z,d,.inl Z,c,T,fr,h1,h2⟩
def Bf{d Lk}{b o:Nat}{vs}{i:Nat}(h:DCs d b o vs)(hi:vs[i]?=some v):HC d Lk ⟨b,o+i,none⟩ v:=BH (h.at hi)
def Bp{d Lk}{b o:Nat}{vs}(h:DCs d b o vs)(hi:vs[0]?=some v):HC d Lk ⟨b,o,none⟩ v:=BH (h.at hi)
def Aq{d Lk}{b o:Nat}{l}(i:Nat)(h:Lk[i]?=some (bx b T l))(ho:l[o]?=some v):HC d Lk ⟨b,o,none⟩ v:=
 ⟨Z,bx b T l,.inr (Aen h),l.toArray,T,(0,0),B2 _ _,by simpa using ho⟩
section
variable {P:Program}{pan:List PanicEntry→AL}{Qn:Env→AL}{Ls L:List Ab}{ρ:Env}{d:Ab}{tk:Bool}{s:GS}{t:Nat}
def BA{g:GOp}(d1:Ab)(L1:List Ab)(hv:Vs d L d1 L1):gws P pan Qn (.op false g s) Ls ρ d1 L1→gws P pan Qn (.op false g s) Ls ρ d L
 |⟨d2,L2,h1,h2⟩=>⟨d2,L2,hv.trans h1,h2⟩
def Um(d1:Ab)(L1:List Ab)(hv:Vs d L d1 L1)(h:Qn ρ d1 L1):gws P pan Qn .done [] ρ d L:=⟨d1,L1,hv,h⟩
def Qj{g:GOp}{h}(k:∀d',Le d d'→Le h d'→gws P pan Qn (.op false g s) Ls ρ d' L):gws P pan Qn (.op false g s) Ls ρ d (h::L):=
 BA (join d h) L Vs.freeze (k _ (Le.Au d h) (Le.AZ d h))
def w_q{q:GI}(hq:q.quiet=true)(hv:evq ρ (HC d (lk tk Ls L)) q v)(h:gws P pan Qn s Ls (upd ρ t v) d L):
  gws P pan Qn (.op tk ⟨some t,none,q⟩ s) Ls ρ d L:=by
 cases tk with
 |true=>simp only[gws,gop];rw[DU hq];exact⟨v,hv,h⟩
 |false=>exact⟨d,L,Vs.refl d L,by simp only[gop];rw[DU hq];exact⟨v,hv,d,L,Vs.refl d L,h⟩⟩
def AQ(h:gws P pan Qn s Ls (upd ρ t (ev ρ x)) d L):gws P pan Qn (.op tk ⟨some t,none,.mv x⟩ s) Ls ρ d L:=w_q Z Z h
def Ac(e:ev ρ x=.int k a)(h:gws P pan Qn s Ls (upd ρ t (.int k a)) d L):gws P pan Qn (.op tk ⟨some t,none,.mv x⟩ s) Ls ρ d L:=w_q Z e.symm h
def Af{a:Bool}(e:ev ρ x=.bool a)(h:gws P pan Qn s Ls (upd ρ t (.bool a)) d L):gws P pan Qn (.op tk ⟨some t,none,.mv x⟩ s) Ls ρ d L:=w_q Z e.symm h
def Ak{a}{n c:Nat}(e:ev ρ x=.slice a n c)(h:gws P pan Qn s Ls (upd ρ t (.slice a n c)) d L):gws P pan Qn (.op tk ⟨some t,none,.mv x⟩ s) Ls ρ d L:=w_q Z e.symm h
def Ah{a}(e:ev ρ x=.pointer a)(h:gws P pan Qn s Ls (upd ρ t (.pointer a)) d L):gws P pan Qn (.op tk ⟨some t,none,.mv x⟩ s) Ls ρ d L:=w_q Z e.symm h
def AU{l:Array Value}(e:ev ρ x=.tuple l)(h:gws P pan Qn s Ls (upd ρ t (.tuple l)) d L):gws P pan Qn (.op tk ⟨some t,none,.mv x⟩ s) Ls ρ d L:=w_q Z e.symm h
def Gv{f:Fn}{a b:Array Value}(e:ev ρ x=.func f a b)(h:gws P pan Qn s Ls (upd ρ t (.func f a b)) d L):gws P pan Qn (.op tk ⟨some t,none,.mv x⟩ s) Ls ρ d L:=w_q Z e.symm h
def ZT{a b}(e:ev ρ c=.bool true)(ea:ev ρ a=v)(h:gws P pan Qn s Ls (upd ρ t v) d L):gws P pan Qn (.op tk ⟨some t,none,.pick c a b⟩ s) Ls ρ d L:=
 w_q Z ⟨true,e,by simp[ea]⟩ h
def Aad{a b}(e:ev ρ c=.bool false)(eb:ev ρ b=v)(h:gws P pan Qn s Ls (upd ρ t v) d L):gws P pan Qn (.op tk ⟨some t,none,.pick c a b⟩ s) Ls ρ d L:=
 w_q Z ⟨false,e,by simp[eb]⟩ h
def Ay{a b}{v:Bool}(e:ev ρ c=.bool true)(ea:ev ρ a=.bool v)(h:gws P pan Qn s Ls (upd ρ t (.bool v)) d L):gws P pan Qn (.op tk ⟨some t,none,.pick c a b⟩ s) Ls ρ d L:=ZT e ea h
def Av{a b}{v:Bool}(e:ev ρ c=.bool false)(eb:ev ρ b=.bool v)(h:gws P pan Qn s Ls (upd ρ t (.bool v)) d L):gws P pan Qn (.op tk ⟨some t,none,.pick c a b⟩ s) Ls ρ d L:=Aad e eb h
def Aj{off b o:Nat}(e:ev ρ x=.pointer (some ⟨b,o,none⟩))(h:gws P pan Qn s Ls (upd ρ t (.pointer (some ⟨b,o+off,none⟩))) d L):
  gws P pan Qn (.op tk ⟨some t,none,.fld off x⟩ s) Ls ρ d L:=w_q Z ⟨b,o,e,Z⟩ h
def Ai{b o:Nat}(e:ev ρ x=.pointer (some ⟨b,o,none⟩))(hc:HC d (lk tk Ls L) ⟨b,o,none⟩ v)(h:gws P pan Qn s Ls (upd ρ t v) d L):
  gws P pan Qn (.op tk ⟨some t,none,.ld none x⟩ s) Ls ρ d L:=w_q Z ⟨b,o,e,hc⟩ h
def Cg{n b:Nat}{l}(i:Nat)(e:ev ρ x=pZ b)(hi:(lk tk Ls L)[i]?=some (bx b T l))(hn:l.length=n)
  (h:gws P pan Qn s Ls (upd ρ t (.agg l.toArray)) d L):gws P pan Qn (.op tk ⟨some t,none,.ld (some n) x⟩ s) Ls ρ d L:=
 w_q Z ⟨b,0,l,e,hn,fun j u hu=>by rw[Aee];exact Aq i hi hu,Z⟩ h
def TR{n b o:Nat}{l}(e:ev ρ x=.pointer (some ⟨b,o,none⟩))(hd:DCs d b o l)(hn:l.length=n)
  (h:gws P pan Qn s Ls (upd ρ t (.agg l.toArray)) d L):gws P pan Qn (.op tk ⟨some t,none,.ld (some n) x⟩ s) Ls ρ d L:=
 w_q Z ⟨b,o,l,e,hn,fun _ _ hu=>Bf hd hu,Z⟩ h
def C3{op:BinOp}(e:CL op (ev ρ x) (ev ρ y)=some v)(h:gws P pan Qn s Ls (upd ρ t v) d L):
  gws P pan Qn (.op tk ⟨some t,none,.bin op x y⟩ s) Ls ρ d L:=w_q Z e h
def CM(h1: -9223372036854775808≤a)(h2:a≤9223372036854775807):IntKind.i64.wrap a=a:=by
 simp[IntKind.wrap,IntKind.signed,IntKind.bits];omega
def AY(ex:ev ρ x=vZ a)(ey:ev ρ y=vZ b)(h1: -9223372036854775808≤a+b)(h2:a+b≤9223372036854775807)
  (h:gws P pan Qn s Ls (upd ρ t (vZ (a+b))) d L):gws P pan Qn (.op tk ⟨some t,none,.bin .add x y⟩ s) Ls ρ d L:=
 C3 (by rw[ex,ey];simp[CL,CM h1 h2]) h
def CP(ex:ev ρ x=vZ a)(ey:ev ρ y=vZ b)(h1: -9223372036854775808≤a - b)(h2:a - b≤9223372036854775807)
  (h:gws P pan Qn s Ls (upd ρ t (vZ (a - b))) d L):gws P pan Qn (.op tk ⟨some t,none,.bin .sub x y⟩ s) Ls ρ d L:=
 C3 (by rw[ex,ey];simp[CL,CM h1 h2]) h
def UQ(ex:ev ρ x=vZ a)(ey:ev ρ y=vZ b)(h1: -9223372036854775808≤a*b)(h2:a*b≤9223372036854775807)
  (h:gws P pan Qn s Ls (upd ρ t (vZ (a*b))) d L):gws P pan Qn (.op tk ⟨some t,none,.bin .mul x y⟩ s) Ls ρ d L:=
 C3 (by rw[ex,ey];simp[CL,CM h1 h2]) h
def Y5(ex:ev ρ x=vZ a)(ey:ev ρ y=vZ b)(h1:0≤a)(h2:0<b)(h3:a≤9223372036854775807)
  (h:gws P pan Qn s Ls (upd ρ t (vZ (a / b))) d L):gws P pan Qn (.op tk ⟨some t,none,.bin .quo x y⟩ s) Ls ρ d L:=by
 refine C3 ?_ h
 have h4:¬b=0:=by omega
 have h5:a.tdiv b=a / b:=Int.tdiv_eq_ediv_of_nonneg h1
 have h6:0≤a / b:=Int.ediv_nonneg h1 (by omega)
 have h7:a / b≤a:=Int.ediv_le_self b h1
 rw[ex,ey];simp[CL,h4,h5];exact CM (by omega) (by omega)
def Va(ex:ev ρ x=.int k a)(ey:ev ρ y=.int k b)(h1:0≤a)(h2:0<b)
  (h:gws P pan Qn s Ls (upd ρ t (.int k (a % b))) d L):gws P pan Qn (.op tk ⟨some t,none,.bin .rem x y⟩ s) Ls ρ d L:=by
 refine C3 ?_ h
 have h4:¬b=0:=by omega
 have h5:a.tmod b=a % b:=Int.tmod_eq_emod_of_nonneg h1
 rw[ex,ey];simp[CL,h4,h5]
def AA(ex:ev ρ x=.int k a)(ey:ev ρ y=.int k b)(h:gws P pan Qn s Ls (upd ρ t (.bool (decide (a<b)))) d L):
  gws P pan Qn (.op tk ⟨some t,none,.bin .lss x y⟩ s) Ls ρ d L:=C3 (by rw[ex,ey];simp[CL]) h
def Gt(ex:ev ρ x=.int k a)(ey:ev ρ y=.int k b)(h:gws P pan Qn s Ls (upd ρ t (.bool (decide (a≤b)))) d L):
  gws P pan Qn (.op tk ⟨some t,none,.bin .leq x y⟩ s) Ls ρ d L:=C3 (by rw[ex,ey];simp[CL]) h
def Bb(ex:ev ρ x=.int k a)(ey:ev ρ y=.int k b)(h:gws P pan Qn s Ls (upd ρ t (.bool (decide (b<a)))) d L):
  gws P pan Qn (.op tk ⟨some t,none,.bin .gtr x y⟩ s) Ls ρ d L:=C3 (by rw[ex,ey];simp[CL]) h
def Ds(ex:ev ρ x=.int k a)(ey:ev ρ y=.int k b)(h:gws P pan Qn s Ls (upd ρ t (.bool (decide (b≤a)))) d L):
  gws P pan Qn (.op tk ⟨some t,none,.bin .geq x y⟩ s) Ls ρ d L:=C3 (by rw[ex,ey];simp[CL]) h
def AT(ex:ev ρ x=.int k a)(ey:ev ρ y=.int k b)(h:gws P pan Qn s Ls (upd ρ t (.bool (decide (a=b)))) d L):
  gws P pan Qn (.op tk ⟨some t,none,.bin .eql x y⟩ s) Ls ρ d L:=C3 (by rw[ex,ey];simp[CL];rfl) h
def AW(ex:ev ρ x=.int k a)(ey:ev ρ y=.int k b)(h:gws P pan Qn s Ls (upd ρ t (.bool (decide (a≠b)))) d L):
  gws P pan Qn (.op tk ⟨some t,none,.bin .neq x y⟩ s) Ls ρ d L:=C3 (by rw[ex,ey];simp[CL];by_cases e:a=b<;>simp[e]) h
def YF{a b}(ex:ev ρ x=BC a)(ey:ev ρ y=BC b)(h:gws P pan Qn s Ls (upd ρ t (.bool (decide (a=b)))) d L):
  gws P pan Qn (.op tk ⟨some t,none,.bin .eql x y⟩ s) Ls ρ d L:=C3 (by rw[ex,ey];simp[CL,BC];by_cases e:a=b<;>simp[e]) h
def Li{a b}(ex:ev ρ x=BC a)(ey:ev ρ y=BC b)(h:gws P pan Qn s Ls (upd ρ t (.bool (decide (a≠b)))) d L):
  gws P pan Qn (.op tk ⟨some t,none,.bin .neq x y⟩ s) Ls ρ d L:=C3 (by rw[ex,ey];simp[CL,BC];by_cases e:a=b<;>simp[e]) h
def YP{a b}(ex:ev ρ x=BC a)(ey:ev ρ y=BC b)(h:gws P pan Qn s Ls (upd ρ t (.bool (!Op.bytesLess a b))) d L):
  gws P pan Qn (.op tk ⟨some t,none,.bin .geq x y⟩ s) Ls ρ d L:=C3 (by rw[ex,ey];simp[CL,BC]) h
def Bd{b:Bool}(ex:ev ρ x=.bool b)(h:gws P pan Qn s Ls (upd ρ t (.bool (!b))) d L):gws P pan Qn (.op tk ⟨some t,none,.un .not x⟩ s) Ls ρ d L:=
 w_q Z (by simp[evq,unV,ex]) h
def YS(ex:ev ρ x=vZ a)(h1: -9223372036854775807≤a)(h2:a≤9223372036854775807)(h:gws P pan Qn s Ls (upd ρ t (vZ (-a))) d L):
  gws P pan Qn (.op tk ⟨some t,none,.un .neg x⟩ s) Ls ρ d L:=
 w_q Z (by have:=CM (a:= -a) (by omega) (by omega);simp[evq,unV,ex,this]) h
def U0{j}(ex:ev ρ x=.int j a)(h:gws P pan Qn s Ls (upd ρ t (.int k (k.wrap a))) d L):gws P pan Qn (.op tk ⟨some t,none,.cvi k x⟩ s) Ls ρ d L:=
 w_q Z ⟨j,a,ex,Z⟩ h
def DR{j}(ex:ev ρ x=.int j a)(h1: -9223372036854775808≤a)(h2:a≤9223372036854775807)(h:gws P pan Qn s Ls (upd ρ t (vZ a)) d L):
  gws P pan Qn (.op tk ⟨some t,none,.cvi .i64 x⟩ s) Ls ρ d L:=U0 ex (by rw[CM h1 h2];exact h)
def AO{a}{n c:Nat}(ex:ev ρ x=.slice a n c)(h:gws P pan Qn s Ls (upd ρ t (vZ n)) d L):gws P pan Qn (.op tk ⟨some t,none,.len x⟩ s) Ls ρ d L:=
 w_q Z ⟨a,n,c,ex,Z⟩ h
def E6{l}(ex:ev ρ x=BC l)(h:gws P pan Qn s Ls (upd ρ t (vZ l.length)) d L):gws P pan Qn (.op tk ⟨some t,none,.lens x⟩ s) Ls ρ d L:=
 w_q Z ⟨l,ex,Z⟩ h
def Abu(ex:ev ρ x=.int k a)(ey:ev ρ y=.int k b)(h:gws P pan Qn s Ls (upd ρ t (.int k (max a b))) d L):
  gws P pan Qn (.op tk ⟨some t,none,.mx2 x y⟩ s) Ls ρ d L:=w_q Z ⟨k,a,b,ex,ey,by congr 1;split<;>omega⟩ h
def Abg(ex:ev ρ x=.int k a)(ey:ev ρ y=.int k b)(h:gws P pan Qn s Ls (upd ρ t (.int k (min a b))) d L):
  gws P pan Qn (.op tk ⟨some t,none,.mn2 x y⟩ s) Ls ρ d L:=w_q Z ⟨k,a,b,ex,ey,by congr 1;split<;>omega⟩ h
def Ap{i:Nat}{vs:Array Value}(ex:ev ρ x=.tuple vs)(e:vs[i]?=some v)(h:gws P pan Qn s Ls (upd ρ t v) d L):
  gws P pan Qn (.op tk ⟨some t,none,.ext x i⟩ s) Ls ρ d L:=w_q Z ⟨vs,ex,e⟩ h
def SAd(a:Option Addr)(n b o:Nat):Prop:=n≠0→a=some ⟨b,o,none⟩
def SAd.some(n b o:Nat):SAd (some ⟨b,o,none⟩) n b o:=fun _=>Z
def Cc{i}{sz b o n c:Nat}{a}{j:Int}(m:Nat)(ex:ev ρ x=.slice a n c)(ei:ev ρ i=.int k j)(hm:j=(m:Int))(hl:m<n)(hA:SAd a n b o)
  (h:gws P pan Qn s Ls (upd ρ t (.pointer (some ⟨b,o+m*sz,none⟩))) d L):gws P pan Qn (.op tk ⟨some t,none,.idx sz x i⟩ s) Ls ρ d L:=by
 subst hm
 rw[hA (by omega)] at ex
 exact w_q Z ⟨b,o,n,c,k,m,ex,ei,by omega,by omega,Z⟩ h
def Ub{fn:Fn}{first cap}(h:gws P pan Qn s Ls (upd ρ t (.func fn (first.map (ev ρ)).toArray (cap.map (ev ρ)).toArray)) d L):
  gws P pan Qn (.op tk ⟨some t,none,.mkf fn first cap⟩ s) Ls ρ d L:=w_q Z Z h
def Abi(h:gws P pan Qn s Ls (upd ρ t (.iface T (ev ρ x))) d L):gws P pan Qn (.op tk ⟨some t,none,.mki T x⟩ s) Ls ρ d L:=w_q Z Z h
def Ch{pl:List (Nat×Nat)}{z:List Value}{ps:List (Nat×Operand)}{cs:List Value}(e:Instr.fill (pl[·]?) z.toArray (ps.map fun p=>(p.1,ev ρ p.2))=some cs.toArray)
  (h:gws P pan Qn s Ls (upd ρ t (.agg cs.toArray)) d L):gws P pan Qn (.op tk ⟨some t,none,.bld pl z ps⟩ s) Ls ρ d L:=w_q Z ⟨cs.toArray,e,Z⟩ h
def AbH{a}{n c b o:Nat}{l}(ex:ev ρ x=.slice a n c)(hn:n=l.length)(hA:SAd a n b o)
  (hc:∀i u,l[i]?=some u→HC d (lk tk Ls L) ⟨b,o+i,none⟩ (As u)) (h:gws P pan Qn s Ls (upd ρ t (BC l)) d L):gws P pan Qn (.op tk ⟨some t,none,.b2s x⟩ s) Ls ρ d L:=by
 subst hn
 refine w_q Z ⟨a,l,c,ex,?_,?_,Z⟩ h
 ·intro e
  cases l with
  |nil=>rfl
  |cons u l=>have:=hA (by simp);rw[e] at this;cases this
 ·intro a' e i u hu
  have hl:l.length≠0:=by
   intro h0;have:=List.length_eq_zero_iff.1 h0;subst this;simp at hu
  have:=hA hl
  rw[e] at this;cases this
  rw[Addr.add_lit]
  exact hc i u hu
def AaU{l m}(hx:Ff (HC d (lk tk Ls L)) (ev ρ x) l)(hy:Ff (HC d (lk tk Ls L)) (ev ρ y) m)(h:gws P pan Qn s Ls (upd ρ t (vZ (Lib.compareBytes l m))) d L):
  gws P pan Qn (.op tk ⟨some t,none,.bcmp x y⟩ s) Ls ρ d L:=w_q Z ⟨l,m,hx,hy,Z⟩ h
def AJ{a:Addr}(ex:ev ρ x=.pointer (some a))(h:gws P pan Qn s Ls (upd ρ t (.pointer (some a))) d L):gws P pan Qn (.op tk ⟨some t,none,.nilc x⟩ s) Ls ρ d L:=
 w_q Z ⟨⟨a,ex⟩,ex.symm⟩ h
def KT{neg:Bool}(ex:ev ρ x=.pointer none)(ey:ev ρ y=.pointer none)(h:gws P pan Qn s Ls (upd ρ t (.bool (!neg))) d L):
  gws P pan Qn (.op tk ⟨some t,none,.eqp neg x y⟩ s) Ls ρ d L:=w_q Z ⟨none,none,ex,ey,.inl Z,by cases neg<;>rfl⟩ h
def BZ{neg:Bool}{a:Addr}(ex:ev ρ x=.pointer (some a))(ey:ev ρ y=.pointer none)(h:gws P pan Qn s Ls (upd ρ t (.bool neg)) d L):
  gws P pan Qn (.op tk ⟨some t,none,.eqp neg x y⟩ s) Ls ρ d L:=w_q Z ⟨some a,none,ex,ey,.inr (.inl Z),by cases neg<;>rfl⟩ h
def NT{neg:Bool}{n c n' c':Nat}(ex:ev ρ x=.slice none n c)(ey:ev ρ y=.slice none n' c')(h:gws P pan Qn s Ls (upd ρ t (.bool (!neg))) d L):
  gws P pan Qn (.op tk ⟨some t,none,.eqs neg x y⟩ s) Ls ρ d L:=w_q Z ⟨none,n,c,ex,⟨n',c',ey⟩,by cases neg<;>rfl⟩ h
def Kk{neg:Bool}{a:Addr}{n c n' c':Nat}(ex:ev ρ x=.slice (some a) n c)(ey:ev ρ y=.slice none n' c')(h:gws P pan Qn s Ls (upd ρ t (.bool neg)) d L):
  gws P pan Qn (.op tk ⟨some t,none,.eqs neg x y⟩ s) Ls ρ d L:=w_q Z ⟨some a,n,c,ex,⟨n',c',ey⟩,by cases neg<;>rfl⟩ h
def Oq{neg:Bool}{a b:Bool}(ex:ev ρ x=.bool a)(ey:ev ρ y=.bool b)(h:gws P pan Qn s Ls (upd ρ t (.bool (neg ^^(a==b)))) d L):
  gws P pan Qn (.op tk ⟨some t,none,.eqb neg x y⟩ s) Ls ρ d L:=w_q Z ⟨a,b,ex,ey,Z⟩ h
def Ae{g:Nat}{want:Bool}{dst:Option Nat}(e:ρ g=.bool want)(h:gws P pan Qn (.op tk ⟨dst,none,i⟩ s) Ls ρ d L):gws P pan Qn (.op tk ⟨dst,some (g,want),i⟩ s) Ls ρ d L:=by
 cases tk with
 |true=>simp only[gws,gop] at h⊢;exact .inl ⟨want,e,fun _=>h,fun e=>by cases want<;>cases e⟩
 |false=>obtain⟨d1,L1,h1,h2⟩:=h;exact⟨d1,L1,h1,by simp only[gop] at h2⊢;exact .inl ⟨want,e,fun _=>h2,fun e=>by cases want<;>cases e⟩⟩
def Abm{g:Nat}{want:Bool}{dst:Option Nat}(e:ρ g=.bool (!want))(h:gws P pan Qn s Ls (put ρ dst undef) d L):gws P pan Qn (.op tk ⟨dst,some (g,want),i⟩ s) Ls ρ d L:=by
 cases tk with
 |true=>simp only[gws,gop] at h⊢;exact .inl ⟨!want,e,(fun e=>by cases want<;>cases e),fun _=>h⟩
 |false=>exact⟨d,L,Vs.refl d L,by simp only[gop];exact .inl ⟨!want,e,(fun e=>by cases want<;>cases e),fun _=>⟨d,L,Vs.refl d L,h⟩⟩⟩
def AbL{g:Nat}{want:Bool}{dst:Option Nat}(e:ρ g=undef)(h:gws P pan Qn s Ls (put ρ dst undef) d L):gws P pan Qn (.op tk ⟨dst,some (g,want),i⟩ s) Ls ρ d L:=by
 cases tk with
 |true=>simp only[gws,gop] at h⊢;exact .inr ⟨e,h⟩
 |false=>exact⟨d,L,Vs.refl d L,by simp only[gop];exact .inr ⟨e,d,L,Vs.refl d L,h⟩⟩
def Bo{g t:Nat}{want:Bool}(e:ρ g=undef)(h:gws P pan Qn s Ls (upd ρ t undef) d L):gws P pan Qn (.op tk ⟨some t,some (g,want),i⟩ s) Ls ρ d L:=AbL e h
def Am{g t:Nat}{want:Bool}(e:ρ g=.bool (!want))(h:gws P pan Qn s Ls (upd ρ t undef) d L):gws P pan Qn (.op tk ⟨some t,some (g,want),i⟩ s) Ls ρ d L:=Abm e h
def Q4{g:Nat}(e:ρ g=v):upd ρ g v=ρ:=by
 funext i;simp only[upd];cases h:Nat.beq i g with
 |false=>rfl
 |true=>have:=Agz h;subst this;exact e.symm
def Gf{g:Nat}(e:ρ g=v)(h:gws P pan Qn s Ls (upd ρ g v) d L):gws P pan Qn s Ls ρ d L:=by rwa [Q4 e] at h
def Xi{g:Nat}{want b:Bool}{dst:Option Nat}(e:ρ g=.bool b)(h1:b=true→gws P pan Qn (.op tk ⟨dst,some (g,want),i⟩ s) Ls (upd ρ g (.bool true)) d L)
  (h2:b=false→gws P pan Qn (.op tk ⟨dst,some (g,want),i⟩ s) Ls (upd ρ g (.bool false)) d L):gws P pan Qn (.op tk ⟨dst,some (g,want),i⟩ s) Ls ρ d L:=by
 cases b with
 |true=>exact Gf e (h1 Z)
 |false=>exact Gf e (h2 Z)
def YY{g:Nat}{want:Bool}{dst:Option Nat}[Decidable p](e:ρ g=.bool (decide p))(h1:p→gws P pan Qn (.op tk ⟨dst,some (g,want),i⟩ s) Ls (upd ρ g (.bool true)) d L)
  (h2:¬p→gws P pan Qn (.op tk ⟨dst,some (g,want),i⟩ s) Ls (upd ρ g (.bool false)) d L):gws P pan Qn (.op tk ⟨dst,some (g,want),i⟩ s) Ls ρ d L:=
 Xi e (fun h=>h1 (of_decide_eq_true h)) (fun h=>h2 (of_decide_eq_false h))
def A4{g:Nat}{want:Bool}{dst:Option Nat}[Decidable p](e:ρ g=.bool (decide p))(hp:p)(h:gws P pan Qn (.op tk ⟨dst,some (g,want),i⟩ s) Ls (upd ρ g (.bool true)) d L):
  gws P pan Qn (.op tk ⟨dst,some (g,want),i⟩ s) Ls ρ d L:=Gf (by rw[e];simp[hp]) h
def A1{g:Nat}{want:Bool}{dst:Option Nat}[Decidable p](e:ρ g=.bool (decide p))(hp:¬p)(h:gws P pan Qn (.op tk ⟨dst,some (g,want),i⟩ s) Ls (upd ρ g (.bool false)) d L):
  gws P pan Qn (.op tk ⟨dst,some (g,want),i⟩ s) Ls ρ d L:=Gf (by rw[e];simp[hp]) h
def Aa(h:Qn ρ d L):gws P pan Qn .done [] ρ d L:=⟨d,L,Vs.refl _ _,h⟩
def By(h:Qn ρ d (Ls++L)):gws P pan Qn .done Ls ρ d L:=⟨d,Ls++L,Vs.refl _ _,h⟩
def Du(h:gws P pan Qn s [] ρ d (Ls++L)):gws P pan Qn (.bar s) Ls ρ d L:=h
def GJ(ex:ev ρ x=v)(h:∀b T,gws P pan Qn s Ls (upd ρ t (pZ b)) d (bx b T v.cells.toList::L)):
  gws P pan Qn (.op false ⟨some t,none,.box x⟩ s) Ls ρ d L:=⟨d,L,Vs.refl d L,fun b T=>⟨_,_,Vs.refl _ _,by subst ex;exact h b T⟩⟩
def CC{l}(ex:ev ρ x=.agg l.toArray)(h:∀b T,gws P pan Qn s Ls (upd ρ t (pZ b)) d (bx b T l::L)):
  gws P pan Qn (.op false ⟨some t,none,.box x⟩ s) Ls ρ d L:=GJ ex h
def Dj{z}(h:∀b T,gws P pan Qn s Ls (upd ρ t (pZ b)) d (bx b T z.cells.toList::L)):
  gws P pan Qn (.op false ⟨some t,none,.alo z⟩ s) Ls ρ d L:=⟨d,L,Vs.refl d L,fun b T=>⟨_,_,Vs.refl _ _,h b T⟩⟩
def EW{n:Nat}{b o:Nat}{l}(i:Nat)(hi:L[i]?=some (bx b T l))(ex:ev ρ x=.pointer (some ⟨b,o,none⟩))(ey:ev ρ y=v)
  (hn:v.cells.size=n) (hl:o+n≤l.length) (h1:(v.cells.toList.all (·.oneCell'))=true) (h:gws P pan Qn s Ls ρ d (L.set i (bx b T (patch l o v.cells.toList)))):
  gws P pan Qn (.op false ⟨none,none,.st n x y⟩ s) Ls ρ d L:=⟨d,L,Vs.refl d L,i,b,o,T,l,hi,ex,by rw[ey];exact hn,hl,by rw[ey];exact h1,_,_,Vs.refl _ _,by rw[ey];exact h⟩
def De{n sz:Nat}{z}{ps:List (Nat×Operand)}{cs}(hn:n*sz≤16777216)(e:Instr.fill (fun i=>some (i*sz,sz)) (Bm z (n*sz)).toArray (ps.map fun p=>(p.1,ev ρ p.2))=some cs.toArray)
  (h:∀b T,gws P pan Qn s Ls (upd ρ t (.slice (some ⟨b,0,none⟩) n n)) d (bx b T cs::L)):gws P pan Qn (.op false ⟨some t,none,.bsl n sz z ps⟩ s) Ls ρ d L:=
 ⟨d,L,Vs.refl d L,hn,cs.toArray,e,fun b T=>⟨_,_,Vs.refl _ _,h b T⟩⟩
def JO{sz by_:Nat}{z k'}{n c:Nat}(ex:ev ρ x=.int k (n:Nat))(ey:ev ρ y=.int k' (c:Nat))(h1:n≤c)(h2:c≤9223372036854775807)(h3:by_*c≤281474976710656)
  (h:∀b T,gws P pan Qn s Ls (upd ρ t (.slice (some ⟨b,0,none⟩) n c)) d (bx b T (Bm z (c*sz))::L)):gws P pan Qn (.op false ⟨some t,none,.mks sz by_ z x y⟩ s) Ls ρ d L:=
 ⟨d,L,Vs.refl d L,k,k',n,c,ex,ey,h1,h2,h3,fun b T=>⟨_,_,Vs.refl _ _,h b T⟩⟩
def CF{f args R vs}(ea:args.map (ev ρ)=vs)(hc:AB P f vs d [] (Ret R))
  (h:∀v d' L',Le d d'→R v d' L'→gws P pan Qn s Ls (upd ρ t v) d' (L'++L)):gws P pan Qn (.op false ⟨some t,none,.call f args⟩ s) Ls ρ d L:=
 ⟨d,L,Vs.refl d L,.inl ⟨[],L,Ret R,Z,by rw[ea];exact hc,fun e d' L' hl hr=>by
  cases e with
  |returned v=>exact⟨_,_,Vs.refl _ _,h v d' L' hl hr⟩
  |panicked c=>exact hr.elim
  |outgrown=>exact hr⟩⟩
def Fb(n:Nat){f args R vs}(ea:args.map (ev ρ)=vs)(hc:AB P f vs d (L.take n) (Ret R))
  (h:∀v d' L',Le d d'→R v d' L'→gws P pan Qn s Ls (upd ρ t v) d' (L'++L.drop n)):gws P pan Qn (.op false ⟨some t,none,.call f args⟩ s) Ls ρ d L:=
 ⟨d,L,Vs.refl d L,.inl ⟨L.take n,L.drop n,Ret R,by simp,by rw[ea];exact hc,fun e d' L' hl hr=>by
  cases e with
  |returned v=>exact⟨_,_,Vs.refl _ _,h v d' L' hl hr⟩
  |panicked c=>exact hr.elim
  |outgrown=>exact hr⟩⟩
def O5(n:Nat){f g}{first cap:Array Value}{args R vs}(ef:ev ρ f=.func (.func g) first cap)
  (ea:first.toList++args.map (ev ρ)++cap.toList=vs) (hc:AB P g vs d (L.take n) (Ret R))
  (h:∀v d' L',Le d d'→R v d' L'→gws P pan Qn s Ls (upd ρ t v) d' (L'++L.drop n)):gws P pan Qn (.op false ⟨some t,none,.callv f args⟩ s) Ls ρ d L:=
 ⟨d,L,Vs.refl d L,g,first,cap,L.take n,L.drop n,Ret R,ef,by simp,by rw[ea];exact hc,fun e d' L' hl hr=>by
  cases e with
  |returned v=>exact⟨_,_,Vs.refl _ _,h v d' L' hl hr⟩
  |panicked c=>exact hr.elim
  |outgrown=>exact hr⟩
end
def Nj{P}{pan:List PanicEntry→AL}{g:GOp}{ρ d Lk L}{K K':Env→AL}(hk:∀ρ d L,K ρ d L→K' ρ d L)(h:gop P pan g ρ d Lk L K):gop P pan g ρ d Lk L K':=Ik hk h
def CW{P}{pan:List PanicEntry→AL}{Qn Qn':Env→AL}(hq:∀ρ d L,Qn ρ d L→Qn' ρ d L):∀(s:GS) {Ls ρ d L},gws P pan Qn s Ls ρ d L→gws P pan Qn' s Ls ρ d L
 |.done,_,_,_,_,⟨d1,L1,h1,h2⟩=>⟨d1,L1,h1,hq _ _ _ h2⟩
 |.op true _ s,_,_,_,_,h=>Nj (fun _ _ _ h=>CW hq s h) h
 |.op false _ s,_,_,_,_,⟨d1,L1,h1,h2⟩=>⟨d1,L1,h1,Nj (fun _ _ _ ⟨d3,L3,h3,h⟩=>⟨d3,L3,h3,CW hq s h⟩) h2⟩
 |.alt _ s t,_,_,_,_,⟨⟨d1,L1,h1,h2⟩,h3⟩=>⟨⟨d1,L1,h1,Nj (fun _ _ _ ⟨d3,L3,h3,h⟩=>⟨d3,L3,h3,CW hq s h⟩) h2⟩,CW hq t h3⟩
 |.bar s,_,_,_,_,h=>CW hq s h
 |.par _ _ s,_,_,_,_,⟨Ra,Rb,d1,L1,L2,hv,sa,sb,h1,h2,h3⟩=>⟨Ra,Rb,d1,L1,L2,hv,sa,sb,h1,h2,fun ρ' d' M1 M2 hl ho r1 r2=>CW hq s (h3 ρ' d' M1 M2 hl ho r1 r2)⟩
def Eo{P}:∀(c:BT) {Q Q':BK}{ρ d L},gwp P c Q ρ d L→(∀ρ d L,Q.n ρ d L→Q'.n ρ d L)→(∀i ρ d L,Q.ex i ρ d L→Q'.ex i ρ d L)→
  (∀ρ d L,Q.ret ρ d L→Q'.ret ρ d L)→Q.pan=Q'.pan→gwp P c Q' ρ d L
 |.skip,_,_,_,_,_,h,h1,_,_,_=>h1 _ _ _ h
 |.reg false s,_,_,_,_,_,h,h1,_,_,h4=>by simp only[gwp] at h⊢;rw[←h4];exact CW h1 s h
 |.reg true s,_,_,_,_,_,h,h1,_,_,h4=>by
  simp only[gwp] at h⊢;obtain⟨d1,Ls,L1,hv,h⟩:=h;exact⟨d1,Ls,L1,hv,by rw[←h4];exact CW h1 s h⟩
 |.seq a b,_,_,_,_,_,h,h1,h2,h3,h4=>by
  simp only[gwp] at h⊢;exact Eo a h (fun ρ d L h=>Eo b h h1 h2 h3 h4) h2 h3 h4
 |.cond c a b,_,_,_,_,_,h,h1,h2,h3,h4=>by
  simp only[gwp] at h⊢;obtain⟨t,ht,ha,hb⟩:=h;exact⟨t,ht,fun e=>Eo a (ha e) h1 h2 h3 h4,fun e=>Eo b (hb e) h1 h2 h3 h4⟩
 |.block id a,_,_,_,_,_,h,h1,h2,h3,h4=>by
  simp only[gwp] at h⊢;refine Eo a h h1 (fun i ρ d L h=>?_) h3 h4;simp only at h⊢;split
  ·rename_i e;rw[if_pos e] at h;exact h1 _ _ _ h
  ·rename_i e;rw[if_neg e] at h;exact h2 _ _ _ _ h
 |.loop a,_,_,_,_,_,h,_,h2,h3,h4=>by
  simp only[gwp] at h⊢;obtain⟨I,hI,round⟩:=h;exact⟨I,hI,fun m ρ d L hm=>Eo a (round m ρ d L hm) (fun _ _ _ h=>h) h2 h3 h4⟩
 |.exit i,_,_,_,_,_,h,_,h2,_,_=>h2 i _ _ _ h
 |.ret,_,_,_,_,_,h,_,_,h3,_=>h3 _ _ _ h
 |.bad,_,_,_,_,_,h,_,_,_,_=>h.elim
def MA{P}{c:BT}{Q:BK}{N N':Env→AL}(hn:∀ρ d L,N ρ d L→N' ρ d L){ρ d L}(h:gwp P c {Q with n:=N} ρ d L):gwp P c {Q with n:=N'} ρ d L:=
 Eo c h hn (fun _ _ _ _ h=>h) (fun _ _ _ h=>h) Z
def K0{d}{b:Nat}{l}(h:Le (bx b T l) d):DCs d b 0 l:=
 ⟨l.toArray,T,(0,0),h _ _ (B2 _ _),fun i u hu=>by simpa using hu⟩
section
variable {P:Program}{Q:BK}{ρ:Env}{d:Ab}{L:List Ab}
def AI{s}(h:gws P Q.pan Q.n s [] ρ d L):gwp P (.reg false s) Q ρ d L:=h
def C1{s}(h:gws P Q.pan Q.n s L ρ d []):gwp P (.reg true s) Q ρ d L:=⟨d,L,[],by rw[Adm];exact Vs.refl d L,h⟩
def MS{s}(is js:List Nat)(hp:(is++js).isPerm (Adg L.length)=true)(h:gws P Q.pan Q.n s (pick L is) ρ d (pick L js)):gwp P (.reg true s) Q ρ d L:=
 ⟨d,pick L is,pick L js,by have:=Vs.pick (d:=d) (L:=L) (is++js) hp;simpa [pick] using this,h⟩
def Ag{a b:BT}(h:gwp P a {Q with n:=gwp P b Q} ρ d L):gwp P (.seq a b) Q ρ d L:=h
def Al(h:Q.n ρ d L):gwp P .skip Q ρ d L:=h
def Ao(h:Q.ret ρ d L):gwp P .ret Q ρ d L:=h
def Ba{i:Nat}(h:Q.ex i ρ d L):gwp P (.exit i) Q ρ d L:=h
def Az{i:Nat}{a:BT}(h:gwp P a {Q with ex:=fun j=>if j=i then Q.n else Q.ex j} ρ d L):gwp P (.block i a) Q ρ d L:=h
def Vd{a b:BT}{t:Bool}(e:ev ρ c=.bool t)(h1:t=true→gwp P a Q ρ d L)(h2:t=false→gwp P b Q ρ d L):gwp P (.cond c a b) Q ρ d L:=⟨t,e,h1,h2⟩
def Qb{a b:BT}[Decidable p](e:ev ρ c=.bool (decide p))(h1:p→gwp P a Q ρ d L)(h2:¬p→gwp P b Q ρ d L):gwp P (.cond c a b) Q ρ d L:=
 ⟨decide p,e,fun h=>h1 (of_decide_eq_true h),fun h=>h2 (of_decide_eq_false h)⟩
def A8{a b:BT}(e:ev ρ c=.bool true)(h:gwp P a Q ρ d L):gwp P (.cond c a b) Q ρ d L:=⟨true,e,fun _=>h,fun e=>by cases e⟩
def AS{a b:BT}(e:ev ρ c=.bool false)(h:gwp P b Q ρ d L):gwp P (.cond c a b) Q ρ d L:=⟨false,e,(fun e=>by cases e),fun _=>h⟩
def AF{a b:BT}[Decidable p](e:ev ρ c=.bool (decide p))(hp:p)(h:gwp P a Q ρ d L):gwp P (.cond c a b) Q ρ d L:=A8 (by rw[e];simp[hp]) h
def Aw{a b:BT}[Decidable p](e:ev ρ c=.bool (decide p))(hp:¬p)(h:gwp P b Q ρ d L):gwp P (.cond c a b) Q ρ d L:=AS (by rw[e];simp[hp]) h
def Rk{a b:BT}{t:Bool}(e:ev ρ c=.bool t)(hp:t=true)(h:gwp P a Q ρ d L):gwp P (.cond c a b) Q ρ d L:=A8 (by rw[e,hp]) h
def Rq{a b:BT}{t:Bool}(e:ev ρ c=.bool t)(hp:t=false)(h:gwp P b Q ρ d L):gwp P (.cond c a b) Q ρ d L:=AS (by rw[e,hp]) h
def Aa5{a:BT}(I:Nat→Env→AL)(m:Nat)(h0:I m ρ d L)(round:∀m ρ d L,I m ρ d L→gwp P a {Q with n:=fun ρ d L=>∃m',m'<m∧I m' ρ d L} ρ d L):gwp P (.loop a) Q ρ d L:=
 ⟨I,⟨m,h0⟩,round⟩
def Bk(ρ:Env):List (Nat×Value)→Prop
 |[]=>True
 |p::l=>ρ p.1=p.2∧Bk ρ l
def Jj(ρ:Env):List (Nat×Value)→Env
 |[]=>ρ
 |p::l=>upd (Jj ρ l) p.1 p.2
def Iq{ρ}:∀{l:List (Nat×Value)},Bk ρ l→Jj ρ l=ρ
 |[],_=>rfl
 |p::l,⟨h1,h2⟩=>by simp only[Jj];rw[Iq h2];exact Q4 h1
def CY{c:BT}(l:List (Nat×Value))(e:Bk ρ l)(h:gwp P c Q (Jj ρ l) d L):gwp P c Q ρ d L:=by rwa [Iq e] at h
def Bk.app{ρ}:∀{l m:List (Nat×Value)},Bk ρ l→Bk ρ m→Bk ρ (l++m)
 |[],_,_,h=>h
 |_::_,_,⟨h1,h2⟩,h=>⟨h1,h2.app h⟩
def Bk.off{X:List Nat}{ρ ρ'}(ho:Off X ρ ρ'):∀{l:List (Nat×Value)},(l.all fun p=> !X.contains p.1)=true→Bk ρ l→Bk ρ' l
 |[],_,_=>trivial
 |p::l,h,⟨h1,h2⟩=>by
  simp only[List.all_cons,Acb] at h;exact⟨(ho p.1 (fun hm=>by have:=h.1;simp[hm] at this)).trans h1,Bk.off ho h.2 h2⟩
def Hp{Qn:Env→AL}{pan:List PanicEntry→AL}{Ls β a b s}(keep:List (Nat×Value))(sa:α→List (Nat×Value))(Ia:α→AL)(sb:β→List (Nat×Value))(Ib:β→AL)(L1 L2:List Ab)(hv:L=L1++L2)
  (ma:∀x d d' M,Le d d'→Ia x d M→Ia x d' M) (mb:∀x d d' M,Le d d'→Ib x d M→Ib x d' M) (ka:∀x,((sa x).all fun p=> !b.Bn.contains p.1)=true) (kb:∀x,((sb x).all fun p=> !a.Bn.contains p.1)=true)
  (kk:(keep.all fun p=> !(a.Bn++b.Bn).contains p.1)=true) (hk:Bk ρ keep)
  (h1:gws P BS (FX Ls fun ρ d M=>∃x,Bk ρ (sa x)∧Ia x d M) a Ls ρ d L1) (h2:gws P BS (FX Ls fun ρ d M=>∃x,Bk ρ (sb x)∧Ib x d M) b Ls ρ d L2)
  (h3:∀x y ρ d' M1 M2,Le d d'→Ia x d' M1→Ib y d' M2→gws P pan Qn s Ls (Jj ρ (sa x++(sb y++keep))) d' (M1++M2)):gws P pan Qn (.par a b s) Ls ρ d L:=by
 refine⟨_,_,d,L1,L2,hv▸Vs.refl d L,?_,?_,h1,h2,fun ρ' d' M1 M2 hl ho ⟨x,hx,ix⟩ ⟨y,hy,iy⟩=>?_⟩
 ·rintro ρ ρ' d d' M ho hl ⟨x,hx,ix⟩
  exact⟨x,hx.off ho (ka x),ma x d d' M hl ix⟩
 ·rintro ρ ρ' d d' M ho hl ⟨x,hx,ix⟩
  exact⟨x,hx.off ho (kb x),mb x d d' M hl ix⟩
 ·have:=h3 x y ρ' d' M1 M2 hl ix iy
  rwa [Iq (hx.app (hy.app (hk.off ho kk)))] at this
def BM{a:BT}(slots:α→List (Nat×Value))(inv:α→Ab→List Ab→Prop)(meas:α→Nat)(x0:α)(h0:Bk ρ (slots x0))(i0:inv x0 d L)
  (round:∀x ρ d L,inv x d L→gwp P a {Q with n:=fun ρ d L=>∃x',meas x'<meas x∧Bk ρ (slots x')∧inv x' d L} (Jj ρ (slots x)) d L):gwp P (.loop a) Q ρ d L:=by
 refine Aa5 (fun m ρ d L=>∃x,meas x=m∧Bk ρ (slots x)∧inv x d L) (meas x0) ⟨x0,Z,h0,i0⟩ ?_
 rintro m ρ d L ⟨x,rfl,h1,h2⟩
 refine CY _ h1 (MA (fun ρ' d' L' ⟨x',k1,k2,k3⟩=>⟨meas x',k1,x',Z,k2,k3⟩) (round x ρ d L h2))
def DO{a:BT}(slots:α→List (Nat×Value))(Lx:α→List Ab)(ok:α→Prop)(meas:α→Nat)(x0:α)(h0:Bk ρ (slots x0))(hL:L=Lx x0)(hok:ok x0)
  (round:∀x ρ,ok x→gwp P a {Q with n:=fun ρ d' L'=>∃x',meas x'<meas x∧Bk ρ (slots x')∧d'=d∧L'=Lx x'∧ok x'} (Jj ρ (slots x)) d (Lx x)):gwp P (.loop a) Q ρ d L:=
 BM slots (fun x d' L'=>d'=d∧L'=Lx x∧ok x) meas x0 h0 ⟨Z,hL,hok⟩ (fun x ρ d' L' ⟨h1,h2,h3⟩=>by subst h1;subst h2;exact round x ρ h3)
def NX{a b:BT}(M:Env→AL)(h1:gwp P a {Q with n:=M} ρ d L)(h2:∀ρ d L,M ρ d L→gwp P b Q ρ d L):gwp P (.seq a b) Q ρ d L:=
 Ag (MA h2 h1)
def Vs.Gp(d:Ab):∀L:List Ab,∃d',Vs d L d' []∧Le d d'∧∀h∈L,Le h d'
 |[]=>⟨d,Vs.refl d [],Le.refl d,fun _ h=>by cases h⟩
 |h::L=>by
  obtain⟨d',h1,h2,h3⟩:=Vs.Gp (Gk.join d h) L;refine⟨d',Vs.freeze.trans h1,(Le.Au d h).trans h2,fun k hk=>?_⟩
  rcases Acw.1 hk with rfl|hk
  ·exact(Le.AZ d k).trans h2
  ·exact h3 k hk
def Abj{R}{t:Nat}(e:ρ t=v)(h:∀d',Le d d'→(∀k∈L,Le k d')→R (.returned v) d' []):Ct [.tmp t] R ρ d L:=
 let ⟨d',h1,h2,h3⟩:=Vs.Gp d L
 ⟨[v],⟨e.symm,trivial⟩,d',[],h1,h d' h2 h3⟩
def Ci{R}{t:Nat}{L'}(e:ρ t=v)(hs:L'.Sublist L)(h:R (.returned v) d L'):Ct [.tmp t] R ρ d L:=
 ⟨[v],⟨e.symm,trivial⟩,d,L',Vs.drop hs,h⟩
def Lh{R}{t:Nat}(e:ρ t=v)(h:R (.returned v) d []):Ct [.tmp t] R ρ d L:=Ci e (Adj L) h
def Cw{R}{t u:Nat}{w L'}(e:ρ t=v)(e':ρ u=w)(hs:L'.Sublist L)(h:R (.returned (.tuple #[v,w])) d L'):Ct [.tmp t,.tmp u] R ρ d L:=
 ⟨[v,w],⟨e.symm,e'.symm,trivial⟩,d,L',Vs.drop hs,h⟩
def Qt{R}{t u:Nat}{w}(e:ρ t=v)(e':ρ u=w)(h:R (.returned (.tuple #[v,w])) d []):Ct [.tmp t,.tmp u] R ρ d L:=Cw e e' (Adj L) h
end
end
def Ad{P}{Q:BK}{ρ L s}{b:BT}(h:gws P Q.pan (gwp P b Q) s [] ρ d L):gwp P (.seq (.reg false s) b) Q ρ d L:=h
section
def Cy(P:Program)(f:FuncId)(args:List Value)(d:Ab)(v:Value):Prop:=AB P f args d [] (Ret fun r d' L'=>r=v∧d'=d∧L'=[])
section
variable {P:Program}{pan:List PanicEntry→AL}{Qn:Env→AL}{Ls L:List Ab}{ρ:Env}{d:Ab}{tk:Bool}{s:GS}{t:Nat}
def Br{f args vs}(ea:args.map (ev ρ)=vs)(hc:Cy P f vs d v)
  (h:gws P pan Qn s Ls (upd ρ t v) d L):gws P pan Qn (.op false ⟨some t,none,.call f args⟩ s) Ls ρ d L:=
 CF ea hc (fun r d' L' _ ⟨h1,h2,h3⟩=>by subst h1;subst h2;subst h3;exact h)
end
section
variable {P:Program}{pan:List PanicEntry→AL}{Qn:Env→AL}{Ls L:List Ab}{ρ:Env}{d:Ab}{tk:Bool}{s:GS}{t:Nat}
def SS{f g}{first cap:Array Value}{args vs}(ef:ev ρ f=.func (.func g) first cap)(ea:first.toList++args.map (ev ρ)++cap.toList=vs)(hc:Cy P g vs d v)
  (h:gws P pan Qn s Ls (upd ρ t v) d L):gws P pan Qn (.op false ⟨some t,none,.callv f args⟩ s) Ls ρ d L:=
 O5 0 ef ea hc (fun r d' L' _ ⟨h1,h2,h3⟩=>by subst h1;subst h2;subst h3;exact h)
end
def int_eq(h:a=b):Value.int k a=Value.int k b:=by rw[h]
def Hx{ρ d L}{t:Nat}(e:ρ t=.int k a)(h:a=b):Ct [.tmp t] (Ret fun r d' L'=>r=.int k b∧d'=d∧L'=[]) ρ d L:=
 Lh e ⟨by rw[h],Z,Z⟩
def Ee{ρ d L}{t:Nat}{a b:Bool}(e:ρ t=.bool a)(h:a=b):Ct [.tmp t] (Ret fun r d' L'=>r=.bool b∧d'=d∧L'=[]) ρ d L:=
 Lh e ⟨by rw[h],Z,Z⟩
def Qu{ρ d L}{t u:Nat}{a':Int}{p q:Bool}(e:ρ t=.int k a)(e':ρ u=.bool p)(h:a=a')(h':p=q):
  Ct [.tmp t,.tmp u] (Ret fun r d' L'=>r=.tuple #[.int k a',.bool q]∧d'=d∧L'=[]) ρ d L:=Qt e e' ⟨by rw[h,h'],Z,Z⟩
def RSl{α}(sz:Nat)(R:Ab→List Value→α→Prop)(d:Ab)(v:Value)(xs:List α):Prop:=
 ∃a c b o,v=.slice a xs.length c∧SAd a xs.length b o∧(c≠0→∀a',a=some a'→a'.spot=none)∧(a=none→c=0)∧xs.length≤c∧c≤9223372036854775807∧xs.length≤140737488355328∧
  ∀i (h:i<xs.length),∃cs,cs.length=sz∧DCs d b (o+i*sz) cs∧R d cs xs[i]
def RSl.mono{sz:Nat}{R}(hR:∀{d d' cs x},Le d d'→R d cs x→R d' cs x){d d'}{xs:List α}(h:RSl sz R d v xs)(hl:Le d d'):RSl sz R d' v xs:=
 let ⟨a,c,b,o,h1,h2,h3,h4,h5,h6,h7,h8⟩:=h
 ⟨a,c,b,o,h1,h2,h3,h4,h5,h6,h7,fun i hi=>let ⟨cs,k1,k2,k3⟩:=h8 i hi;⟨cs,k1,k2.mono hl,hR hl k3⟩⟩
def RSl.nil{sz:Nat}{R d}:RSl sz R d nV ([]:List α):=
 ⟨none,0,0,0,Z,fun h=>absurd Z h,fun _ _ h=>(nomatch h),fun _=>Z,Acj _,by omega,Adf _,fun i h=>absurd h (Nat.not_lt_zero i)⟩
def RSl.Bt{sz:Nat}{R d}{xs:List α}(h:RSl sz R d v xs):xs.length≤140737488355328:=
 let ⟨_,_,_,_,_,_,_,_,_,_,h7,_⟩:=h
 h7
def AE(_:Ab)(cs:List Value)(x:UInt8):Prop:=cs=[As x]
def A7(_:Ab)(cs:List Value)(x:Int):Prop:=cs=[vZ x]∧ -9223372036854775808≤x∧x≤9223372036854775807
def KW(_:Ab)(cs:List Value)(x:List UInt8):Prop:=cs=[BC x]∧x.length≤140737488355328
def AH(d:Ab)(v:Value)(l:List UInt8):Prop:=RSl 1 AE d v l
def Dt(d:Ab)(v:Value)(l:List Int):Prop:=RSl 1 A7 d v l
def ND(d:Ab)(v:Value)(l:List (List UInt8)):Prop:=RSl 1 KW d v l
def RBs(d:Ab)(cs:List Value)(l:List UInt8):Prop:=∃u,cs=[u]∧AH d u l
def Dp(d:Ab)(v:Value)(l:List (List UInt8)):Prop:=RSl 1 RBs d v l
def AH.Bt{d l}(h:AH d v l):l.length≤140737488355328:=RSl.Bt h
def AH.mono{d d' l}(h:AH d v l)(hl:Le d d'):AH d' v l:=RSl.mono (fun _ h=>h) h hl
def Dt.mono{d d'}{l:List Int}(h:Dt d v l)(hl:Le d d'):Dt d' v l:=RSl.mono (fun _ h=>h) h hl
def ND.mono{d d' l}(h:ND d v l)(hl:Le d d'):ND d' v l:=RSl.mono (fun _ h=>h) h hl
def Dp.mono{d d' l}(h:Dp d v l)(hl:Le d d'):Dp d' v l:=RSl.mono (fun hl ⟨u,h1,h2⟩=>⟨u,h1,h2.mono hl⟩) h hl
section
variable {P:Program}{pan:List PanicEntry→AL}{Qn:Env→AL}{Ls L:List Ab}{ρ:Env}{d:Ab}{tk:Bool}{s:GS}{t:Nat}
def Bv{sz:Nat}{R}{xs:List α}(ex:ev ρ x=v)(hr:RSl sz R d v xs)(h:gws P pan Qn s Ls (upd ρ t (vZ xs.length)) d L):
  gws P pan Qn (.op tk ⟨some t,none,.len x⟩ s) Ls ρ d L:=by
 obtain⟨a,c,b,o,rfl,_⟩:=hr
 exact AO ex h
def FU{l}(ex:ev ρ x=v)(hr:AH d v l)(h:gws P pan Qn s Ls (upd ρ t (BC l)) d L):gws P pan Qn (.op tk ⟨some t,none,.b2s x⟩ s) Ls ρ d L:=by
 obtain⟨a,c,b,o,rfl,h2,h3,h4,h5,h6,h7,h8⟩:=hr;refine AbH (b:=b) (o:=o) ex Z h2 (fun i u hu=>?_) h;obtain⟨hi,rfl⟩:=Adc.1 hu;obtain⟨cs,k1,k2,k3⟩:=h8 i hi;have k3:cs=[As l[i]]:=k3;subst k3;rw[Afd] at k2;exact BH k2.one
def Py{C:Addr→Value→Prop}{l}(hr:AH d v l)(hC:∀b o u,DC d b o u→C ⟨b,o,none⟩ u):Ff C v l:=by
 obtain⟨a,c,b,o,rfl,h2,h3,h4,h5,h6,h7,h8⟩:=hr;refine .inr ⟨a,c,Z,fun e=>?_,fun a' ha i u hu=>?_⟩
 ·cases l with
  |nil=>rfl
  |cons u us=>have:=h2 (by simp);rw[e] at this;cases this
 ·obtain⟨hi,rfl⟩:=Adc.1 hu;have e:=h2 (by omega);rw[ha] at e;cases e;obtain⟨cs,k1,k2,k3⟩:=h8 i hi;have k3:cs=[As l[i]]:=k3;subst k3;rw[Afd] at k2;rw[Addr.add_lit];exact hC _ _ _ k2.one
def Zm{w l m}(ex:ev ρ x=v)(ey:ev ρ y=w)(hr:AH d v l)(hr':AH d w m)(h:gws P pan Qn s Ls (upd ρ t (vZ (Lib.compareBytes l m))) d L):
  gws P pan Qn (.op tk ⟨some t,none,.bcmp x y⟩ s) Ls ρ d L:=by
 subst ex;subst ey
 exact AaU (Py hr fun _ _ _ h=>BH h) (Py hr' fun _ _ _ h=>BH h) h
end
def Ev:∀a:List UInt8,Op.bytesLess a a=false
 |[]=>rfl
 |a::l=>by simp[Op.bytesLess,Ev l]
def Jv:∀{a b c},Op.bytesLess a b=true→Op.bytesLess b c=true→Op.bytesLess a c=true
 |_,[],_,h,_=>by cases ‹List UInt8›<;>simp[Op.bytesLess] at h
 |_,_::_,[],_,h=>by simp[Op.bytesLess] at h
 |[],_::_,_::_,_,_=>by simp[Op.bytesLess]
 |a::l,b::m,c::n,h1,h2=>by
  simp only[Op.bytesLess,Adu,Acb,decide_eq_true_eq,beq_iff_eq,UInt8.lt_iff_toNat_lt] at h1 h2⊢;rcases h1 with h1|⟨rfl,h1⟩
  ·rcases h2 with h2|⟨rfl,h2⟩
   ·exact .inl (by omega)
   ·exact .inl h1
  ·rcases h2 with h2|⟨rfl,h2⟩
   ·exact .inl h2
   ·exact .inr ⟨Z,Jv h1 h2⟩
def JB:∀a b:List UInt8,Op.bytesLess a b=true∨a=b∨Op.bytesLess b a=true
 |[],[]=>.inr (.inl Z)
 |[],_::_=>.inl Z
 |_::_,[]=>.inr (.inr Z)
 |a::l,b::m=>by
  simp only[Op.bytesLess,Adu,Acb,decide_eq_true_eq,beq_iff_eq,UInt8.lt_iff_toNat_lt,List.cons.injEq];rcases Nat.lt_trichotomy a.toNat b.toNat with h|h|h
  ·exact .inl (.inl h)
  ·have h:a=b:=UInt8.toNat_inj.1 h;subst h;rcases JB l m with h|h|h
   ·exact .inl (.inr ⟨Z,h⟩)
   ·exact .inr (.inl ⟨Z,h⟩)
   ·exact .inr (.inr (.inr ⟨Z,h⟩))
  ·exact .inr (.inr (.inl h))
def Xj{a b}(h:Op.bytesLess a b=true):Op.bytesLess b a=false:=by
 cases e:Op.bytesLess b a with
 |false=>rfl
 |true=>have:=Jv h e;rw[Ev] at this;cases this
def EN:∀a b:List UInt8,Lib.compareBytes a b<0↔Op.bytesLess a b=true
 |[],[]=>by simp[Lib.compareBytes,Op.bytesLess]
 |[],_::_=>by simp[Lib.compareBytes,Op.bytesLess]
 |_::_,[]=>by simp[Lib.compareBytes,Op.bytesLess]
 |a::l,b::m=>by
  have ih:=EN l m;simp only[Lib.compareBytes,Op.bytesLess,Adu,Acb,decide_eq_true_eq,beq_iff_eq,UInt8.lt_iff_toNat_lt];split
  ·simp_all
  ·split
   ·rename_i h1 h2;constructor
    ·intro h;omega
    ·rintro(h|⟨rfl,_⟩)<;>omega
   ·rename_i h1 h2;have:a=b:=UInt8.toNat_inj.1 (by omega);subst this;rw[ih];simp
end
end Go.Gk
end
section
namespace Go.Gk
open Go Go.ChangeShapes Go.WideShapes Go.ChangeAt Go.RowKit
variable{W W':World}{apart fresh handsOn again:Bool}
section
def hw(W:World):Ab:=fun b o=>W.heap[b]?=some o
def Ok.hw(W:World):Ok [Gk.hw W] W:=⟨by simp,by simp;exact fun b o h=>h⟩
def Qk(hs:Sub (hw W) W'){b:Nat}(hb:b<W.heap.size):W'.heap[b]?=W.heap[b]?:=by
 rw[hs b _ (Array.getElem?_eq_getElem hb),Array.getElem?_eq_getElem hb]
def TW(hs:Sub (hw W) W')(hk:AG W W')(may:MemPlace→Prop):W.keptBut W' may:=by
 refine⟨hk.os,hk.output,fun i hi=>?_⟩
 rw[Qk hs hi];exact(World.keptBut_refl W may).2.2 i hi
def WW(hs:Sub (hw W) W'):∀(p:MemPlace),p.block<W.heap.size→W.sameAt W' p
 |.cell b o,h=>by
  have:=Qk hs (b:=b) h;simp only[World.sameAt,World.cell?,this]
 |.map b,h=>Qk hs h
def WZ(hs:Sub (hw W) W'){a:Addr}(h:a.block<W.heap.size):W'.frozen? a=W.frozen? a:=by
 simp only[World.frozen?,Qk hs h]
section
variable {H:Type}{enc:TypeId×Value→H}{P:Program}
def PB(hl:laidOutB P=true){sp:Nat→Bool}:∀{ts:List TypeId}{vs}{ds:List (DataW H)}{ps:List MemPlace},(ts.all fun t=>P.readableRec t && decide (t<P.types.size))=true→
  DataW.TrodAll enc P W 0 (fun _=>true) true ts vs ds ps→(∀p∈ps,W.sameAt W' p)→(∀p∈ps,sp p.block=true)→DataW.TrodAll enc P W' 0 sp true ts vs ds ps
 |[],[],[],_,_,h,_,_=>h
 |t::ts,_::_,_::_,_,hr,⟨p,q,h1,h2,e⟩,hsame,hsp=>by
  simp only[List.all_cons,Acb,decide_eq_true_eq] at hr;exact⟨p,q,WideElems.Trod_stays hl hr.1.1 hr.1.2 h1 (fun x hx=>hsame x (by rw[e];exact Ada _ hx)) (fun x hx=>hsp x (by rw[e];exact Ada _ hx)),
   PB hl hr.2 h2 (fun x hx=>hsame x (by rw[e];exact Acy _ hx)) (fun x hx=>hsp x (by rw[e];exact Acy _ hx)),e⟩
def VH{fn:Func}{s:ChangeSpec}{args:Array Value}{ds gs:List (DataW H)}{before:List MemPlace}
  (hl:laidOutB P=true) (hp:(fn.params.toList.all fun t=>P.readableRec t && decide (t<P.types.size))=true)
  (hW:DataW.Whole enc P fn.params.toList s.vars apart W args.toList ds gs before) (hv:s.vars=[])
  (hs:s.fn H (ds++gs)={results:=[.lit (.bool true)],args:=ds}) {tb}(ht:fn.resultTypes= #[tb]) (hb:P.underlying tb=some .bool)
  (hsub:Sub (hw W) W') (hk:AG W W'):s.post enc P fn apart fresh handsOn again W args (.bool true) W':=by
 have hlt:=hW.lt
 have hres:∀(b:Nat) (sp:Nat→Bool) (hd:Bool),DataW.TrodAll enc P W' b sp hd fn.resultTypes.toList ((Value.bool true).resultList fn.resultTypes.size) (s.fn H (ds++gs)).results []:=by
  intro b sp hd;rw[hs,ht];exact trodAll_cons_mk (shut_bool hb true) trodAll_mk0
 have hW':=hW
 obtain⟨p,q,hA,hV,rfl,hz,hn⟩:=hW'
 rw[hv] at hV
 obtain⟨hg0,rfl⟩:=trodVars_none hV
 have hargs:∀sp:Nat→Bool,(∀x∈p++[],sp x.block=true)→DataW.TrodAll enc P W' 0 sp true fn.params.toList args.toList (s.fn H (ds++gs)).args p:=by
  intro sp h;rw[hs];exact PB hl hp hA (fun x hx=>WW hsub x (hlt x (by simpa using hx))) (fun x hx=>h x (by simpa using hx))
 have hvars:∀sp:Nat→Bool,DataW.TrodVars enc P W' sp s.vars (s.fn H (ds++gs)).vars []:=by
  intro sp;rw[hs,hv];rfl
 have hok:∀(j:Nat) (t:TypeId) (r:Value),fn.resultTypes[j]?=some t→((Value.bool true).resultList fn.resultTypes.size)[j]?=some r→Value.okWide P W' .any 0 t r:=
  ok_one ht Z (okWide_bool_mk hb true)
 refine⟨ds,gs,p++[],[],p,[],hW,hres _ _ _,hargs _ (fun x hx=>by simpa using hlt x hx),hvars _,TW hsub hk _,fun _=>?_⟩
 refine⟨hok,_,_,([]++p)++[],⟨[]++p,[],trodAll_append (hargs _ (fun _ _=>Z)) (hres _ _ _),hvars _,Z,?_,?_⟩,?_⟩
 ·intro b off hp
  rw[WZ hsub (by have:=hlt _ (by simpa using hp);exact this)]
  exact hz b off (by simpa using hp)
 ·intro ha
  simpa using hn ha
 ·intro x hx _
  simpa using hx
def UY{f}{fn:Func}{s:ChangeSpec}{args:Array Value}{ds gs:List (DataW H)}{before:List MemPlace}
  (hl:laidOutB P=true) (hp:(fn.params.toList.all fun t=>P.readableRec t && decide (t<P.types.size))=true)
  (hW:DataW.Whole enc P fn.params.toList s.vars apart W args.toList ds gs before) (hv:s.vars=[])
  (hs:s.fn H (ds++gs)={results:=[.lit (.bool true)],args:=ds}) {tb}(ht:fn.resultTypes= #[tb]) (hb:P.underlying tb=some .bool)
  (hc:AB P f args.toList (hw W) [] (Ret fun v _ _=>v=.bool true)):
  Calls P f args W fun e W'=>∃v,e=.returned v∧s.post enc P fn apart fresh handsOn again W args v W':=by
 have:=hc.2 [] W (by simpa using Ok.hw W)
 rw[show args.toList.toArray=args from by simp] at this
 refine this.mono fun e W' ⟨d',L',h1,h2,h3,h4⟩=>?_
 cases e with
 |returned v=>
  have hv':v=.bool true:=h4
  subst hv'
  exact⟨_,Z,VH hl hp hW hv hs ht hb (h1.head.le h2) h3⟩
 |panicked c=>exact h4.elim
 |outgrown=>exact h4.elim
end
end
end Go.Gk
end
section
namespace Go.Gk
open Go
variable{v:Value}
section
def Bu(sz:Nat)(v:Value)(n:Nat)(xs:List Value)(h:Ab):Prop:=
 xs.length=n*sz∧n≤140737488355328∧((v=nV∧n=0∧h=emp)∨
  ∃b T l c,v=.slice (some ⟨b,0,none⟩) n c∧h=bx b T l∧n≤c∧c≤9223372036854775807∧c*sz≤l.length∧l.take xs.length=xs)
def Bu.nil(sz:Nat):Bu sz nV 0 [] emp:=⟨by simp,by omega,.inl ⟨Z,Z,Z⟩⟩
def Bu.mk{sz n c b:Nat}{T l xs}(h1:xs.length=n*sz)(h2:n≤140737488355328)(h3:n≤c)(h4:c≤9223372036854775807)(h5:c*sz≤l.length)(h6:l.take xs.length=xs):
  Bu sz (.slice (some ⟨b,0,none⟩) n c) n xs (bx b T l):=⟨h1,h2,.inr ⟨b,T,l,c,Z,Z,h3,h4,h5,h6⟩⟩
def Bu.lit{sz n b:Nat}{T l}(h1:l.length=n*sz)(h2:n≤140737488355328):Bu sz (.slice (some ⟨b,0,none⟩) n n) n l (bx b T l):=
 Bu.mk h1 h2 (Acj n) (by omega) (by rw[h1];exact Acj _) (by simp)
def Bu.slice{sz n:Nat}{xs h}(o:Bu sz v n xs h):∃a b c,v=.slice a n c∧SAd a n b 0∧n≤c∧(c≠0→∀a',a=some a'→a'.spot=none)∧(a=none→c=0)∧c≤9223372036854775807∧
  ∀i u,xs[i]?=some u→∀d Lk,h∈Lk→HC d Lk ⟨b,i,none⟩ u:=by
 obtain⟨h1,h2,⟨rfl,rfl,rfl⟩|⟨b,T,l,c,rfl,rfl,h3,h4,h5,h6⟩⟩:=o
 ·refine⟨none,0,0,Z,fun h=>absurd Z h,Acj 0,(fun _ _ h=>nomatch h),fun _=>Z,by omega,fun i u hu=>?_⟩
  have:xs=[]:=Acl (by simpa using h1)
  subst this;simp at hu
 ·refine⟨_,b,c,Z,SAd.some n b 0,h3,(fun _ _ h=>by cases h;rfl),(fun h=>nomatch h),h4,fun i u hu d Lk hk=>⟨Z,bx b T l,.inr hk,l.toArray,T,(0,0),B2 _ _,?_⟩⟩
  have hi:i<xs.length:=(Adc.1 hu).1
  rw[←h6] at hu
  rw[Adt (by omega)] at hu
  simpa using hu
def Vs.put{d h h' L}{i:Nat}(hi:L[i]?=some h):Vs d (h'::L) d (L.set i h'):=by
 obtain⟨A,B,rfl,e2⟩:=EM hi h';rw[e2];refine(Vs.perm (L':=h::(A++h'::B)) ?_).trans (Vs.drop (Ade _ _));refine(Acr h' Agg).trans ((Adb h h' _).trans (Acr h List.perm_middle.symm))
def RdX(d:Ab)(Lk:List Ab)(v:Value)(m sz:Nat)(news:List Value):Prop:=
 ∃a c,v=.slice a m c∧news.length=m*sz∧(a=none→news=[])∧∀a',a=some a'→∀i u,news[i]?=some u→HC d Lk (a'.add i) u
def RdX.lit{d Lk}{b n c sz:Nat}{T l}(i:Nat)(hi:Lk[i]?=some (bx b T l))(hl:l.length=n*sz):RdX d Lk (.slice (some ⟨b,0,none⟩) n c) n sz l:=
 ⟨_,c,Z,hl,(fun h=>nomatch h),fun a' h j u hu=>by cases h;rw[Addr.add_lit,Aee];exact Aq i hi hu⟩
def Bu.rdx{sz n:Nat}{xs h d Lk}(o:Bu sz v n xs h)(hk:h∈Lk):RdX d Lk v n sz xs:=by
 have hl:=o.1;obtain⟨a,b,c,rfl,h2,h3,h4,h5,h6,h7⟩:=o.slice;refine⟨a,c,Z,hl,?_,?_⟩
 ·intro e;cases xs with
  |nil=>rfl
  |cons u us=>
   have:n≠0:=by rintro rfl;simp at hl
   rw[h2 this] at e;cases e
 ·intro a' ha i u hu;have:n≠0:=by
   rintro rfl;have:xs=[]:=Acl (by simpa using hl);subst this;simp at hu
  have e:=h2 this;rw[ha] at e;cases e;rw[Addr.add_lit,Aee];exact h7 i u hu d Lk hk
section
variable {P:Program}{pan:List PanicEntry→AL}{Qn:Env→AL}{Ls L:List Ab}{ρ:Env}{d:Ab}{s:GS}{t:Nat}
def NS{sz by_:Nat}{z x y}(i:Nat){n m:Nat}{xs news h}(ex:ev ρ x=v)(hi:L[i]?=some h)(ho:Bu sz v n xs h)
  {w}(ey:ev ρ y=w) (hx:RdX d (Ls++L++L) w m sz news) (h1:(news.all (·.oneCell'))=true) (_hsz:0<sz) (hm:n+m≤140737488355328) (hb:(n+m)*by_≤140737488355328)
  (k:∀v' h',Bu sz v' (n+m) (xs++news) h'→∃d2 L2,Vs d (L.set i h') d2 L2∧gws P pan Qn s Ls (upd ρ t v') d2 L2):gws P pan Qn (.op false ⟨some t,none,.app sz by_ z x y⟩ s) Ls ρ d L:=by
 obtain⟨xa,xc,rfl,hl,hx0,hxc⟩:=hx
 have hxl:=ho.1
 have hlen:(xs++news).length=(n+m)*sz:=by rw[Aci,hxl,hl,Aeg]
 refine⟨d,L,Vs.refl d L,?_⟩
 simp only[gop,gi,maxLen]
 obtain⟨h2,h3,⟨rfl,rfl,rfl⟩|⟨b,T,l,c,rfl,rfl,h4,h5,h6,h7⟩⟩:=ho
 ·have hxs:xs=[]:=Acl (by simpa using hxl)
  subst hxs
  refine⟨none,0,0,xa,m,xc,news,ex,ey,hl,h1,hx0,hxc,by omega,by omega,fun hle=>.inl ?_,fun hlt=>⟨by simpa using hb,[],by simp,fun _=>Z,(fun _ h=>nomatch h),fun b T c' hc1 hc2=>?_⟩⟩
  ·have hm0:m=0:=by omega
   subst hm0
   have hn:news=[]:=Acl (by simpa using hl)
   subst hn
   obtain⟨d2,L2,hv,hg⟩:=k nV emp (by simpa using Bu.nil sz)
   have e:L.set i emp=L:=by
    obtain⟨hlt,he⟩:=Adc.1 hi;rw[←he];simp
   rw[e] at hv
   exact⟨Z,d2,L2,hv,by simpa [put] using hg⟩
  ·have o:Bu sz (.slice (some ⟨b,0,none⟩) (0+m) c') (0+m) ([]++news) (bx b T (news++Bm z ((c' - (0+m))*sz))):=by
    refine Bu.mk hlen hm (by omega) hc2 ?_ ?_
    ·simp only[Aci,hl,Bm,Adq,List.length_range];rw[←Aeg];exact Nat.le_of_eq (by congr 1;omega)
    ·simp
   obtain⟨d2,L2,hv,hg⟩:=k _ _ o
   exact⟨d2,L2,(Vs.put hi).trans hv,by simpa [put] using hg⟩
 ·refine⟨_,n,c,xa,m,xc,news,ex,ey,hl,h1,hx0,hxc,by omega,h5,fun hle=>.inr ⟨i,b,0,T,l,Z,hi,?_,?_⟩,fun hlt=>⟨hb,xs,hxl,(fun h=>nomatch h),fun a' ha j u hu=>?_,fun b' T' c' hc1 hc2=>?_⟩⟩
  ·rw[Aee];exact Aeq (Adp sz hle) h6
  ·have h8:(n+m)*sz≤l.length:=Aeq (Adp sz hle) h6
   rw[Aeg] at h8
   refine k (.slice (some ⟨b,0,none⟩) (n+m) c) (bx b T (patch l (0+n*sz) news)) (Bu.mk hlen hm hle h5 ?_ ?_)
   ·simp only[patch,Aci,Acs,Ads]
    have:=hl
    omega
   ·rw[hlen,Aeg]
    have e1:l.take (n*sz)=xs:=by rw[←hxl];exact h7
    simp only[patch,Aee,e1]
    rw[←hl,←hxl,←Aci]
    exact Agc
  ·cases ha
   rw[Addr.add_lit,Aee]
   refine⟨Z,bx b T l,.inr (Acy _ (Aen hi)),l.toArray,T,(0,0),B2 _ _,?_⟩
   have hj:j<xs.length:=(Adc.1 hu).1
   rw[←h7] at hu
   rw[Adt (by omega)] at hu
   simpa using hu
  ·have o:Bu sz (.slice (some ⟨b',0,none⟩) (n+m) c') (n+m) (xs++news) (bx b' T' (xs++news++Bm z ((c' - (n+m))*sz))):=by
    refine Bu.mk hlen hm hc1 hc2 ?_ ?_
    ·simp only[Aci,hxl,hl,Bm,Adq,List.length_range];rw[←Aeg,←Aeg];exact Nat.le_of_eq (by congr 1;omega)
    ·exact Agc
   obtain⟨d2,L2,hv,hg⟩:=k _ _ o
   exact⟨d2,L2,(Vs.put hi).trans hv,by simpa [put] using hg⟩
def AbK{sz by_:Nat}{z x y}(i:Nat){n m:Nat}{xs news h}(ex:ev ρ x=v)(hi:L[i]?=some h)(ho:Bu sz v n xs h)
  {w}(ey:ev ρ y=w) (hx:RdX d (Ls++L++L) w m sz news) (h1:(news.all (·.oneCell'))=true) (hsz:0<sz) (hm:n+m≤140737488355328) (hb:(n+m)*by_≤140737488355328)
  (k:∀v' h',Bu sz v' (n+m) (xs++news) h'→gws P pan Qn s Ls (upd ρ t v') d (L.set i h')):gws P pan Qn (.op false ⟨some t,none,.app sz by_ z x y⟩ s) Ls ρ d L:=
 NS i ex hi ho ey hx h1 hsz hm hb (fun v' h' o=>⟨d,_,Vs.refl _ _,k v' h' o⟩)
end
def Bu.dcs{sz n:Nat}{xs h d}(o:Bu sz v n xs h)(hl:Le h d):∃a b c,v=.slice a n c∧SAd a n b 0∧n≤c∧(c≠0→∀a',a=some a'→a'.spot=none)∧(a=none→c=0)∧c≤9223372036854775807∧
  (xs≠[]→∃(l:Array Value) (T:TypeId) (fr:Nat×Nat),d b (.cells l T fr)∧∀(i:Nat) (u:Value),xs[i]?=some u→l[i]?=some u):=by
 obtain⟨h1,h2,⟨rfl,rfl,rfl⟩|⟨b,T,l,c,rfl,rfl,h3,h4,h5,h6⟩⟩:=o
 ·have:xs=[]:=Acl (by simpa using h1)
  subst this
  exact⟨none,0,0,Z,fun h=>absurd Z h,Acj 0,(fun _ _ h=>nomatch h),fun _=>Z,by omega,fun h=>absurd Z h⟩
 ·refine⟨_,b,c,Z,SAd.some n b 0,h3,(fun _ _ h=>by cases h;rfl),(fun h=>nomatch h),h4,fun _=>⟨l.toArray,T,(0,0),hl _ _ (B2 _ _),fun i u hu=>?_⟩⟩
  have hi:i<xs.length:=(Adc.1 hu).1
  rw[←h6] at hu
  rw[Adt (by omega)] at hu
  simpa using hu
def Bu.rsl{α}{sz n:Nat}{R cs}{xs:List α}{h d}(o:Bu sz v n cs h)(hl:Le h d)(hn:n=xs.length)(hsz:0<sz)
  (hR:∀i (hi:i<xs.length),R d ((cs.drop (i*sz)).take sz) xs[i]):RSl sz R d v xs:=by
 have h1:=o.1
 have h2:=o.2.1
 obtain⟨a,b,c,rfl,k1,k2,k3,k4,k5,k6⟩:=o.dcs hl
 subst hn
 refine⟨a,c,b,0,Z,k1,k3,k4,k2,k5,h2,fun i hi=>⟨(cs.drop (i*sz)).take sz,?_,?_,hR i hi⟩⟩
 ·have:(i+1)*sz≤xs.length*sz:=Adp sz hi
  rw[Aeg] at this
  simp only[Acs,Ads,h1]
  omega
 ·have:cs≠[]:=by
   rintro rfl;have h3:(i+1)*sz≤xs.length*sz:=Adp sz hi;have h4:xs.length*sz=0:=by rw[←h1];rfl
   rw[Aeg,Nat.one_mul] at h3;omega
  obtain⟨l,T,fr,e1,e2⟩:=k6 this
  refine⟨l,T,fr,e1,fun j u hu=>?_⟩
  rw[List.getElem?_take] at hu
  split at hu
  ·rw[List.getElem?_drop] at hu
   rw[Aee]
   exact e2 _ _ hu
  ·cases hu
def Bu.AaB{α}{n:Nat}{R cs}{xs:List α}{h d}(o:Bu 1 v n cs h)(hl:Le h d)(hn:n=xs.length)
  (hR:∀i (hi:i<xs.length),∃u,cs[i]?=some u∧R d [u] xs[i]):RSl 1 R d v xs:=by
 refine o.rsl hl hn (by omega) (fun i hi=>?_)
 obtain⟨u,hu,hr⟩:=hR i hi
 have:(cs.drop (i*1)).take 1=[u]:=by
  rw[Afd];obtain⟨hlt,he⟩:=Adc.1 hu;rw[Acu hlt,he];rfl
 rw[this];exact hr
def Bu.bytes{n:Nat}{xs h d}(o:Bu 1 v n (xs.map As) h)(hl:Le h d):AH d v xs:=by
 have hn:=o.1;refine o.AaB hl (by simpa using hn.symm) (fun i hi=>⟨As xs[i],by simp[hi],Z⟩)
def RSl.rdx{α R d}{xs:List α}{f:α→Value}(h:RSl 1 R d v xs)(hf:∀cs x,R d cs x→cs=[f x])(Lk:List Ab):RdX d Lk v xs.length 1 (xs.map f):=by
 obtain⟨a,c,b,o,rfl,h2,h3,h4,h5,h6,h7,h8⟩:=h;refine⟨a,c,Z,by simp,?_,?_⟩
 ·intro e;cases xs with
  |nil=>rfl
  |cons u us=>have:=h2 (by simp);rw[e] at this;cases this
 ·intro a' ha i u hu;have hi:i<xs.length:=by
   have:=(Adc.1 hu).1;simpa using this
  have e:=h2 (by omega);rw[ha] at e;cases e;obtain⟨cs,k1,k2,k3⟩:=h8 i hi;have:=hf _ _ k3;subst this;rw[Afc,Acf hi] at hu;simp only[Aff,Option.some.injEq] at hu;subst hu;rw[Afd] at k2;rw[Addr.add_lit];exact BH k2.one
def AH.rdx{d xs}(h:AH d v xs)(Lk:List Ab):RdX d Lk v xs.length 1 (xs.map As):=RSl.rdx h (fun _ _ h=>h) Lk
def Dt.rdx{d}{xs:List Int}(h:Dt d v xs)(Lk:List Ab):RdX d Lk v xs.length 1 (xs.map (Value.int .i64)):=RSl.rdx h (fun _ _ h=>h.1) Lk
def ND.rdx{d xs}(h:ND d v xs)(Lk:List Ab):RdX d Lk v xs.length 1 (xs.map BC):=RSl.rdx h (fun _ _ h=>h.1) Lk
end
end Go.Gk
end
section
namespace Go.Gk
open Go Go.ChangeShapes Go.WideShapes Go.ChangeAt Go.RowKit
section
variable {H:Type}{enc:TypeId×Value→H}{P:Program}{W:World}
def Rd(enc:TypeId×Value→H)(P:Program)(W:World)(t:TypeId){α}(R:Ab→List Value→α→Prop):Prop:=
 ∀(held:Bool) (fuel:Nat) (cs:List Value) (x:DataW H×List MemPlace),DataW.trod enc P W 0 (fun _=>true) held fuel t cs=some x→(∀n∈x.1.weights P t,n≤reachBytes)→∃a:α,R (hw W) cs a
def YA{n:Nat}(h:n≤reachBytes):n≤140737488355328:=Nat.le_of_lt (Nat.lt_of_le_of_lt h (by decide))
def SY{t}(ht:P.underlying t=some (.int .u8)):Rd enc P W t AE:=by
 intro held fuel cs x h _;obtain⟨n,h1,h2,h3⟩:=DataW.trod_int ht h;have hb:=bounds_u8 h3;refine⟨UInt8.ofNat n.toNat,?_⟩
 subst h1;simp only[AE,As,List.cons.injEq,Value.int.injEq,true_and,and_true];have:n.toNat<256:=by omega
 simp[Afh this];omega
def Aax{t}(ht:P.underlying t=some (.int .i64)):Rd enc P W t A7:=by
 intro held fuel cs x h _;obtain⟨n,h1,h2,h3⟩:=DataW.trod_int ht h;have hb:=bounds_i64 h3;exact⟨n,h1,hb.1,hb.2⟩
def OA{a:Addr}{v}(h:W.cell? a=some v):a.spot=none∧DC (hw W) a.block a.off v:=by
 refine⟨PC h,?_⟩
 unfold World.cell? at h;split at h
 ·rename_i c T fr hb;split at h
  ·cases h
  ·exact⟨c,T,fr,hb,h⟩
 ·cases h
def Nk{a:Addr}{n:Nat}{cs}(h:W.cells? 0 a n=some cs)(hn:0<n):a.spot=none∧cs.length=n∧DCs (hw W) a.block a.off cs:=by
 unfold World.cells? at h;rw[if_pos (Adf _)] at h;have hl:cs.length=n:=by simpa using mapM_some_length h
 have one:∀i,i<n→∀u,cs[i]?=some u→W.cell? (a.add i)=some u:=by
  intro i hi u hu;have:=mapM_some_get h i i (by simp[hi]);rw[this,hu]
 have hs:a.spot=none:=by
  have:=one 0 hn cs[0] (Acf (by omega));rw[add_zero] at this;exact(OA this).1
 obtain⟨b,o,s⟩:=a;simp only at hs;subst hs;have h0:=one 0 hn cs[0] (Acf (by omega));rw[Addr.add_lit] at h0;obtain⟨_,c,T,fr,hb,_⟩:=OA h0;refine⟨Z,hl,c,T,fr,hb,fun i u hu=>?_⟩
 have hi:i<n:=by have:=(Adc.1 hu).1;omega
 have:=one i hi u hu;rw[Addr.add_lit] at this;obtain⟨_,c',T',fr',hb',hc'⟩:=OA this;simp only[Gk.hw] at hb hb';rw[hb] at hb';cases hb';exact hc'
def M8{t e:TypeId}{sz:Nat}{α:Type}{R:Ab→List Value→α→Prop}(ht:P.underlying t=some (.slice e))(hc:P.cellsOf e=sz)(hsz:0<sz)(hb:1≤P.bytesOf e)(he:Rd enc P W e R):
  Rd enc P W t (fun d cs (xs:List α)=>∃v,cs=[v]∧RSl sz R d v xs):=by
 subst hc
 intro held fuel cs x h hw
 rcases DataW.trod_slice ht h with ⟨rfl,rfl⟩|⟨a,len,cap,elems,rest,n,rfl,rfl,rfl,_,hlc,hcm,hlen,hel,hsp,_⟩
 ·exact⟨[],_,Z,RSl.nil⟩
 ·have hwt:(elems.length+rest.length)*P.bytesOf e≤reachBytes:=hw _ (by simp[DataW.weights,ht])
  obtain⟨hrl,hre⟩:=hsp Z
  have hcap:cap≤140737488355328:=by
   have h1:(elems.length+rest.length)*1≤(elems.length+rest.length)*P.bytesOf e:=Nat.mul_le_mul_left _ hb;have h2:=YA (Aeq h1 hwt);omega
  have one:∀i (hi:i<len),∃u:α,∃cs,cs.length=P.cellsOf e∧a.spot=none∧DCs (Gk.hw W) a.block (a.off+i*P.cellsOf e) cs∧R (Gk.hw W) cs u:=by
   intro i hi;have h1:=hel i hi;have hi':i<elems.length:=by omega
   rw[Acf hi',Adk] at h1;obtain⟨cs,h2,h3⟩:=h1;obtain⟨k1,k2,k3⟩:=Nk h2 hsz;have hmem:∀(l:List (DataW H)) (y:DataW H),y∈l→∀n∈y.weights P e,n∈DataW.weightsAll P e l:=by
    intro l;induction l with
    |nil=>intro y hy;cases hy
    |cons z l ih=>
     intro y hy n hn
     simp only[DataW.weightsAll,Ach]
     rcases Acw.1 hy with rfl|hy
     ·exact .inl hn
     ·exact .inr (ih y hy n hn)
   obtain⟨u,hu⟩:=he held n cs elems[i] h3 (fun m hm=>hw m (by
    simp only[DataW.weights,ht,Acw,Ach];exact .inr (.inl (hmem _ _ (Aft.2 ⟨elems[i],List.getElem_mem hi',Z⟩) m hm))))
   have hs:a.spot=none:=by
    obtain⟨b,o,s⟩:=a;by_cases h0:i*P.cellsOf e=0
    ·rw[h0,add_zero] at k1;exact k1
    ·have:=hel 0 (by omega);rw[Acf (by omega),Adk] at this;obtain⟨cs',h2',_⟩:=this;rw[Nat.zero_mul,add_zero] at h2';exact(Nk h2' hsz).1
   obtain⟨b,o,s⟩:=a;simp only at hs;subst hs;rw[Addr.add_lit] at k3;exact⟨u,cs,k2,Z,k3,hu⟩
  have hspot:cap≠0→a.spot=none:=by
   intro h0;by_cases h1:0<len
   ·obtain⟨_,_,_,hs,_⟩:=one 0 h1;exact hs
   ·have:=hre 0 (by omega);have hl0:len=0:=by omega
    rw[Acf (by omega),Adk] at this;obtain⟨cs',h2',_⟩:=this;rw[hl0,Aee,Nat.zero_mul,add_zero] at h2';exact(Nk h2' hsz).1
  refine⟨List.ofFn (n:=len) fun i=>(one i i.isLt).choose,_,Z,some a,cap,a.block,a.off,?_,?_,fun h0 a' ha=>?_,(fun h=>nomatch h),?_,by omega,?_,?_⟩
  ·simp
  ·intro h0
   have h0':len≠0:=by simpa using h0
   have:=hspot (by omega)
   obtain⟨b,o,s⟩:=a;simp only at this;subst this;rfl
  ·cases ha;exact hspot h0
  ·simpa using hlc
  ·simp;omega
  ·intro i hi
   have hi':i<len:=by simpa using hi
   obtain⟨cs,k1,_,k3,k4⟩:=(one i hi').choose_spec
   exact⟨cs,k1,k3,by simpa using k4⟩
def W2{t}{fs:Array Field}(ht:P.underlying t=some (.struct fs)){held:Bool}{fuel:Nat}{cs}{x:DataW H×List MemPlace}(h:DataW.trod enc P W 0 (fun _=>true) held fuel t cs=some x)
  (hw:∀n∈x.1.weights P t,n≤reachBytes):cs.length=P.cellsOf t∧∀(i o ty sz:Nat),(fs[i]?).map (fun f=>(f.offset,f.type))=some (o,ty)→P.cellsOf ty=sz→∀{α R},Rd enc P W ty R→
   ∃a:α,R (Gk.hw W) ((cs.drop o).take sz) a:=by
 obtain⟨xs,n,rfl,rfl,hl,hxl,hf⟩:=DataW.trod_struct ht h
 refine⟨hl,fun i o ty sz hi hsz α R hr=>?_⟩
 subst hsz
 rw[Ado] at hi
 obtain⟨f,hi,e⟩:=hi
 simp only[Prod.mk.injEq] at e
 obtain⟨rfl,rfl⟩:=e
 have h1:=hf i f hi
 have hi':i<fs.size:=(Array.getElem?_eq_some_iff.1 hi).1
 rw[Acf (by omega)] at h1
 refine hr held n _ _ h1 (fun m hm=>hw m ?_)
 simp only[DataW.weights,ht]
 refine DataW.weights_mem_each (j:=i) (t:=f.type) ?_ ?_ m hm
 ·rw[Afc,Array.getElem?_toList,hi];rfl
 ·rw[Afc,Acf (by omega)];rfl
def Md{ts:List TypeId}{ds:List (DataW H)}(h:(DataW.weightsEach P ts ds).all (·≤reachBytes)=true){j:Nat}{t}{d:DataW H}(ht:ts[j]?=some t)(hd:ds[j]?=some d):∀n∈d.weights P t,n≤reachBytes:=by
 intro n hn;simpa using Acv.1 h _ (DataW.weights_mem_each ht hd n hn)
def WO{t α R}(hr:Rd enc P W t R){v}{d:DataW H}{ps:List MemPlace}(h:DataW.Trod enc P W 0 (fun _=>true) true t v d ps)
  (hw:∀n∈d.weights P t,n≤reachBytes):∃a:α,R (Gk.hw W) v.cells.toList a:=by
 obtain⟨fuel,hf⟩:=h
 exact hr true fuel _ _ hf hw
def Vq{base:Nat}{r:Reach}{t e:TypeId}{sz:Nat}{α:Type}{R:Ab→List Value→α→Prop}(ht:P.underlying t=some (.slice e))(hc:P.cellsOf e=sz)(hsz:0<sz)(hb:1≤P.bytesOf e)(he:Rd enc P W e R)
  {v:Value}{d:DataW H}{ps:List MemPlace}(hok:Value.okWide P W r base t v) (h:DataW.Trod enc P W 0 (fun _=>true) true t v d ps) (hw:∀n∈d.weights P t,n≤reachBytes):∃xs:List α,RSl sz R (Gk.hw W) v xs:=by
 obtain⟨a,len,cap,rfl⟩:=okWide_slice ht hok
 obtain⟨xs,v',e1,h2⟩:=WO (M8 ht hc hsz hb he) h hw
 have e1:[Value.slice a len cap]=[v']:=e1
 cases e1
 exact⟨xs,h2⟩
def Aab{base:Nat}{r:Reach}{t}(ht:P.underlying t=some (.int .i64)){v}{d:DataW H}{ps:List MemPlace}(hok:Value.okWide P W r base t v)(h:DataW.Trod enc P W 0 (fun _=>true) true t v d ps)
  (hw:∀n∈d.weights P t,n≤reachBytes):∃k:Int,v=vZ k∧ -9223372036854775808≤k∧k≤9223372036854775807:=by
 obtain⟨n,rfl⟩:=okWide_int ht hok
 obtain⟨x,e,h2⟩:=WO (Aax ht) h hw
 have e:[Value.int .i64 n]=[vZ x]:=e
 cases e
 exact⟨n,Z,h2⟩
end
end Go.Gk
namespace Go.Gk
end Go.Gk
end
section
namespace Go.Gk
open Go
section
def FW(r:Option Nat):Fence:={Fence.wide with round:=r}
def SR(l:Nat):FW (some l)=Fence.wide.inRound l:=Z
def TQ{r:Option Nat}{P}{m m':Machine}:StepsIn (Machine.fenced P (FW r)) P m m'↔Steps P m m':=
 ⟨StepsIn.steps,fun h=>(StepsIn.of_steps h).mono fun m _=>fenced_wide P m⟩
def UZ{r:Option Nat}{n:Nat}{P f}{args:Array Value}{w}{R:Ending→World→Prop}(h:Calls P f args w R):CallsIn (FW r) n P f args w R:=by
 cases r with
 |none=>exact callsIn_wide.2 h
 |some l=>exact(callsIn_wide.2 h).inRound l
def FH:Op→Bool|.defer _=>true|_=>false
section
variable {P:Program}{r:Option Nat}{n:Nat}
def YG{o:Oper}{a:Act}{w next Q}(hnd:FH o.op=false)(h:o.wp P a w next Q):o.wpIn (FW r) n P a w next Q:=by
 refine⟨fun _ _=>trivial,?_⟩
 unfold Oper.wp at h;have e:o.semAt (FW r).round a.eval=execOp a.eval o:=Oper.semAt_eq _ _ _ (fun c hc=>by rw[hc] at hnd;cases hnd);rw[e];generalize (execOp a.eval o).run P w=res at h⊢;cases res with
 |ok x w'=>
  cases x<;>simp only[Oper.upon,Oper.uponIn] at h⊢<;>
   first
    |exact h
    |exact⟨fun h=>by simp[FW,Fence.wide] at h,UZ h⟩
    |exact⟨fun h=>by simp[FW,Fence.wide] at h,fun c cs _=>let ⟨v,w1,hr,hs⟩:=h c cs;⟨v,w1,hr,TQ.2 hs⟩⟩
 |halt x w'=>cases x<;>simp only[Oper.upon,Oper.uponIn] at h⊢<;>exact h
def GR{ops Q}(hQ:¬LetsOut Q)(hnd:∀(i:Nat) (o:Oper),ops[i]?=some o→FH o.op=false):∀(l:List Nat) (a:Act) (w:World),wpOps P ops Q l a w→wpOpsIn (FW r) n P ops Q l a w
 |[],_,_,h=>h
 |i::l,a,w,h=>by
  simp only[wpOps,wpOpsIn] at h⊢;cases ho:ops[i]? with
  |none=>rw[ho] at h;exact GR hQ hnd l a w h
  |some o=>
   rw[ho] at h
   simp only at h⊢
   split
   ·rename_i hw
    rw[if_pos hw] at h
    rcases h with h|⟨_,h⟩
    ·exact Oper.wpIn_mono (fun a w h=>GR hQ hnd l a w h) (YG (hnd i o ho) h)
    ·exact absurd h hQ
   ·rename_i hw
    rw[if_neg hw] at h
    exact⟨fun _ _=>trivial,GR hQ hnd l _ w h⟩
def Jl{md:Region.Mode}{ops Q}(hQ:¬LetsOut Q)(hnd:∀(i:Nat) (o:Oper),ops[i]?=some o→FH o.op=false):∀(k:Nat) (listed:Array Bool) (a:Act) (w:World),wpAny P md ops Q k listed a w→wpAnyIn (FW r) n P md ops Q k listed a w
 |0,_,_,_,h=>h
 |k+1,listed,a,w,h=>by
  refine⟨h.1,fun i hi=>?_⟩
  have h:=h.2 i hi;unfold wpOp at h;unfold wpOpIn;cases ho:ops[i]? with
  |none=>rw[ho] at h;exact Jl hQ hnd k _ a w h
  |some o=>
   rw[ho] at h
   simp only at h⊢
   split
   ·rename_i hw
    rw[if_pos hw] at h
    rcases h with h|⟨_,h⟩
    ·exact Oper.wpIn_mono (fun a w h=>Jl hQ hnd k _ a w h) (YG (hnd i o ho) h)
    ·exact absurd h hQ
   ·rename_i hw
    rw[if_neg hw] at h
    exact⟨fun _ _=>trivial,Jl hQ hnd k _ _ w h⟩
end
def FC:Code→Bool
 |.region _ ops _=>ops.all fun o=> !FH o.op
 |.seq a b=>FC a && FC b
 |.cond _ a b=>FC a && FC b
 |.block _ a=>FC a
 |.loop a=>FC a
 |.skip|.exit _|.ret=>true
 |_=>false
def Fz{n:Nat}{ds F W0 d0}{Q:BK}:¬LetsOut (lift n ds F W0 d0 Q):=fun⟨_,_,h⟩=>h
def Px{ops:Array Oper}(h:(ops.all fun o=> !FH o.op)=true)(i:Nat)(o:Oper)(ho:ops[i]?=some o):FH o.op=false:=by
 rw[Array.all_eq_true] at h;obtain⟨hi,rfl⟩:=Array.getElem?_eq_some_iff.1 ho;simpa using h i hi
def Mi{pr:Bool}{P}{n:Nat}{ds F W0 d0}{r:Option Nat}{m:Nat}(hm:P.follows .mixedOrders=true):
  ∀(c:Code) (Q:BK) (ρ:Env) (d:Ab) (L:List Ab) (W:World),FC c=true→gwp P (Ej pr P n c) Q ρ d L→Ok (d::(L++F)) W→Le d0 d→AG W0 W→c.wpIn (FW r) m P (lift n ds F W0 d0 Q) (act n ρ ds) W:=by
 intro c
 induction c with
 |skip=>
  intro Q ρ d L W _ h hOk hle hk
  exact wpIn_skip ⟨ρ,d,L,Z,hOk,hle,hk,h⟩
 |region id ops drawn=>
  intro Q ρ d L W hn h hOk hle hk
  simp only[Ej] at h
  cases hs:KH pr P n ops drawn with
  |none=>rw[hs] at h;exact h.elim
  |some s=>
  rw[hs] at h
  have hnd:=Px hn
  cases drawn with
  |false=>
   simp only[KH] at hs
   exact wpIn_region (GR Fz hnd _ _ _ (D4 _ s hs ρ d L W h hOk hle hk))
  |true=>
   obtain⟨d1,Ls,L1,hv,h⟩:=h
   have hOk1:=hv.2 F W hOk
   have hOk2:Ok (d1::(L1++(Ls++F))) W:=hOk1.perm (Acr d1 (by
    rw[←Ace];exact(Acn).append_right F))
   simp only[KH] at hs
   split at hs
   ·rename_i hc
    simp only[Acb,decide_eq_true_eq] at hc
    obtain⟨⟨⟨h1,h2⟩,h3⟩,h4⟩:=hc
    refine wpIn_region_any hm (Jl Fz hnd _ _ _ _ (Cd.any _ _ _ _ (TK ops) ((PF h1 h2 _ true false _ s ρ d1 L1 Ls ops.size _ h4 hs (fun e=>by cases e) h hOk2.drew (hle.trans hv.1) ?_ h3).1 Z)))
    exact hk.trans ⟨Z,Z,Z,Acj _⟩
   ·cases hs
 |seq a b iha ihb=>
  intro Q ρ d L W hn h hOk hle hk
  simp only[FC,Acb] at hn
  refine wpIn_seq (wpIn_mono (iha _ ρ d L W hn.1 h hOk hle hk) ?_)
  intro e a w hq
  cases e with
  |normal=>
   obtain⟨ρ',d',L',rfl,h1,h2,h3,h4⟩:=hq
   exact ihb Q ρ' d' L' w hn.2 h4 h1 h2 h3
  |_=>exact hq
 |cond c a b iha ihb=>
  intro Q ρ d L W hn h hOk hle hk
  simp only[FC,Acb] at hn
  simp only[Ej] at h
  split at h
  ·rename_i hc
   obtain⟨t,ht,h1,h2⟩:=h
   exact wpIn_cond_split (by rw[A2 hc];exact ht) (fun e=>iha Q ρ d L W hn.1 (h1 e) hOk hle hk) (fun e=>ihb Q ρ d L W hn.2 (h2 e) hOk hle hk)
  ·exact h.elim
 |block id a iha=>
  intro Q ρ d L W hn h hOk hle hk
  refine wpIn_block (wpIn_mono (iha _ ρ d L W hn h hOk hle hk) ?_)
  intro e a w hq
  cases e with
  |exit i=>
   obtain⟨ρ',d',L',rfl,h1,h2,h3,h4⟩:=hq
   simp only[Exit.inBlock]
   by_cases e:i=id
   ·simp only[e,if_true] at h4⊢
    exact⟨ρ',d',L',Z,h1,h2,h3,h4⟩
   ·simp only[if_neg e] at h4⊢
    exact⟨ρ',d',L',Z,h1,h2,h3,h4⟩
  |_=>exact hq
 |loop a iha=>
  intro Q ρ d L W hn h hOk hle hk
  obtain⟨I,⟨m0,hI⟩,round⟩:=h
  refine wpIn_loop_ghost (fun m a w=>∃ρ d L,a=act n ρ ds∧Ok (d::(L++F)) w∧Le d0 d∧AG W0 w∧I m ρ d L) m0 ⟨ρ,d,L,Z,hOk,hle,hk,hI⟩ ?_
  rintro m a w ⟨ρ',d',L',rfl,h1,h2,h3,h4⟩
  refine wpIn_mono (iha _ ρ' d' L' w hn (round m ρ' d' L' h4) h1 h2 h3) ?_
  intro e a w hq
  cases e with
  |normal=>
   obtain⟨ρ'',d'',L'',rfl,k1,k2,k3,m',k4,k5⟩:=hq
   exact⟨m',k4,ρ'',d'',L'',Z,k1,k2,k3,k5⟩
  |_=>exact hq
 |exit id=>
  intro Q ρ d L W _ h hOk hle hk
  exact wpIn_exit ⟨ρ,d,L,Z,hOk,hle,hk,h⟩
 |ret=>
  intro Q ρ d L W _ h hOk hle hk
  exact wpIn_ret ⟨ρ,d,L,Z,hOk,hle,hk,h⟩
 |_=>intro Q ρ d L W _ h;exact h.elim
end
end Go.Gk
end
section
namespace Go.Gk
open Go Go.Conc
variable{P:Program}{Q:BK}{n:Nat}{d:Ab}{L F:List Ab}{W0:World}{yl:Bool}
inductive DF where
 |g (c:BT)
 |seq (a b:DF)
 |cond (c:Operand) (a b:DF)
 |block (id:Nat) (a:DF)
 |loop (a:DF)
 |yl (pre:GS) (dst:Option Nat) (f:Operand) (args:List Operand) (post:GS)
 |snd (pre:GS) (dst:Option Nat) (ch x:Operand) (post:GS)
 |sel (pre:GS) (dst:Option Nat) (ch:Operand) (zero:Value) (post:GS)
 |rf (f:Operand) (ps:List Nat) (as bd:BT)
 |bad
structure Qf (P:Program) (ρ:Env) (ps:List Nat) (as bd:BT) (rc:Loop):Prop where
 h:∃pr n,P.follows .mixedOrders=true∧rc.tmps=(act n ρ []).tmps∧rc.params.toList=ps∧(∀t∈ps,t<n)∧Ej pr P n rc.assign=as∧Ej pr P n rc.body=bd∧FC rc.assign=true∧FC rc.body=true
def C8(ρ:Env):List Nat→List Value→Env
 |p::ps,v::vs=>C8 (upd ρ p v) ps vs
 |_,_=>ρ
def IM(P:Program)(l:Nat)(vs:List Value)(d:Ab)(L:List Ab)(R:Value→Ab→List Ab→Prop):Prop:=
 ∀F W,Ok (d::(L++F)) W→∃rc:Loop,W.heap[l]?=some (.loop rc)∧vs.length=rc.params.size∧
  ∀m,RoundIn Fence.wide m P l rc.fn ((rc.params.zip vs.toArray).foldl (fun tmps (t,a)=>tmps.setIfInBounds t a) rc.tmps) rc.assign rc.body W
   (fun e W'=>∃v d' L',e=.returned v∧Ok (d'::(L'++F)) W'∧Le d d'∧AG W W'∧R v d' L')
def Qd(P:Program)(Q:BK)(dst:Option Nat)(f:Operand)(args:List Operand)(post:GS):Env→AL:=fun ρ1 d1 L1=>∃l A B R,ev ρ1 f=.func (.yield l) #[] #[]∧L1=A++B∧IM P l (args.map (ev ρ1)) d1 A R∧
 ∀v d2 L2,Le d1 d2→R v d2 L2→gws P Q.pan Q.n post [] (put ρ1 dst v) d2 (L2++B)
def NG(P:Program)(Q:BK)(dst:Option Nat)(ch x:Operand)(post:GS):Env→AL:=fun ρ1 d1 L1=>∃i c cap buf s r tm,ev ρ1 ch=.chan (some c)∧L1[i]?=some (sg c (.chan cap (Agi buf) false s r tm))∧buf.length<cap∧
 gws P Q.pan Q.n post [] (put ρ1 dst undef) d1 (L1.set i (sg c (.chan cap (buf++[ev ρ1 x]).toArray false (s+1) r tm)))
def K2(P:Program)(Q:BK)(dst:Option Nat)(ch:Operand)(z:Value)(post:GS):Env→AL:=fun ρ1 d1 L1=>∃i c cap buf s r tm,ev ρ1 ch=.chan (some c)∧L1[i]?=some (sg c (.chan cap (Agi buf) false s r tm))∧
 (∀v rest,buf=v::rest→gws P Q.pan Q.n post [] (put ρ1 dst (.tuple #[vZ 0,.bool true,v])) d1 (L1.set i (sg c (.chan cap rest.toArray false s (r+1) tm))))∧
 (buf=[]→gws P Q.pan Q.n post [] (put ρ1 dst (.tuple #[vZ (-1),.bool false,z])) d1 L1)
def xwp(P:Program):DF→BK→Env→AL
 |.g c,Q=>gwp P c Q
 |.seq a b,Q=>xwp P a {Q with n:=xwp P b Q}
 |.cond c a b,Q=>fun ρ d L=>∃t,ev ρ c=.bool t∧(t=true→xwp P a Q ρ d L)∧(t=false→xwp P b Q ρ d L)
 |.block id a,Q=>xwp P a {Q with ex:=fun j=>if j=id then Q.n else Q.ex j}
 |.loop a,Q=>fun ρ d L=>∃I:Nat→Env→AL,(∃m,I m ρ d L)∧∀m ρ d L,I m ρ d L→xwp P a {Q with n:=fun ρ d L=>∃m',m'<m∧I m' ρ d L} ρ d L
 |.yl pre dst f args post,Q=>gws P Q.pan (Qd P Q dst f args post) pre []
 |.snd pre dst ch x post,Q=>gws P Q.pan (NG P Q dst ch x post) pre []
 |.sel pre dst ch z post,Q=>gws P Q.pan (K2 P Q dst ch z post) pre []
 |.rf f ps as bd,Q=>fun ρ d L=>∃g first cap,ev ρ f=.func (.func g) first cap∧∀l rc,Qf P ρ ps as bd rc→rc.state=.ready→rc.pending=none→
   ∃R,AB P g (first.toList++[.func (.yield l) #[] #[]]++cap.toList) d (sg l (.loop rc)::L) R∧∀e d' L',Le d d'→R e d' L'→
    ∃v rc' L'',e=.returned v∧L'=sg l (.loop rc')::L''∧rc'.state≠.busy∧
     (match rc'.pending with|none=>Q.n ρ d' L''|some (.exit id)=>Q.ex id ρ d' L''|some .ret=>Q.ret ρ d' L''|_=>False)
 |.bad,_=>fun _ _ _=>False
def Aau(yl:Bool)(o:Oper):Bool:=match o.op with
 |.send .. =>true
 |.select .. =>true
 |.call ⟨.value (.tmp _),_,_⟩=>yl
 |_=>false
def IJ(P:Program)(ops:Array Oper)(i:Nat):Bool:=quietAt P ops i &&((ops[i]?).all fun o=>o.guard.isNone)
def TL(yl:Bool)(P:Program)(n:Nat)(ops:Array Oper):DF:=
 match (Adg ops.size).find? fun i=>(ops[i]?).any (Aau yl) with
 |none=>.bad
 |some k=>match BV P n ops (Dh (Adg k)),BV P n ops (Dh ((Adg ops.size).drop (k+1))),ops[k]? with
  |some s1,some s2,some o=>
   if o.guard.isNone &&(o.op.operands.toList.all (DM n))&& Qp n o.dst then
    match o.op with
    |.send ch x=>if (Adg k).all (IJ P ops) then .snd s1 o.dst ch x s2 else .bad
    |.select cs false=>match cs.toList with
     |[⟨ch,none,e⟩]=>match (P.info? e).bind (·.zero) with
      |some z=>if (Adg k).all (IJ P ops) then .sel s1 o.dst ch z s2 else .bad
      |none=>.bad
     |_=>.bad
    |.call ⟨.value f,args,_⟩=>if yl then .yl s1 o.dst f args.toList s2 else .bad
    |_=>.bad
   else .bad
  |_,_,_=>.bad
def Gw(yl pr:Bool)(P:Program)(n:Nat):Code→DF
 |.region id ops drawn=>if !drawn && ops.any (Aau yl)&& ops.all (fun o=> !FH o.op) then TL yl P n ops else .g (Ej pr P n (.region id ops drawn))
 |.seq a b=>match Gw yl pr P n a,Gw yl pr P n b with|.g a',.g b'=>.g (.seq a' b')|a',b'=>.seq a' b'
 |.cond c a b=>if DM n c then(match Gw yl pr P n a,Gw yl pr P n b with|.g a',.g b'=>.g (.cond c a' b')|a',b'=>.cond c a' b') else .bad
 |.block id a=>match Gw yl pr P n a with|.g a'=>.g (.block id a')|a'=>.block id a'
 |.loop a=>match Gw yl pr P n a with|.g a'=>.g (.loop a')|a'=>.loop a'
 |.rangeFunc f ps as bd=>if DM n f && ps.all (fun t=>decide (t<n))&& FC as && FC bd then .rf f ps.toList (Ej pr P n as) (Ej pr P n bd) else .bad
 |.skip=>.g .skip
 |.exit id=>.g (.exit id)
 |.ret=>.g .ret
 |_=>.bad
def AbP{a b:DF}:xwp P (match a,b with|.g a',.g b'=>.g (.seq a' b')|a',b'=>.seq a' b') Q=xwp P (.seq a b) Q:=by
 cases a<;>cases b<;>rfl
def AbB{c}{a b:DF}:xwp P (match a,b with|.g a',.g b'=>.g (.cond c a' b')|a',b'=>.cond c a' b') Q=xwp P (.cond c a b) Q:=by
 cases a<;>cases b<;>rfl
def AaH{id:Nat}{a:DF}:xwp P (match a with|.g a'=>.g (.block id a')|a'=>.block id a') Q=xwp P (.block id a) Q:=by
 cases a<;>rfl
def Abq{a:DF}:xwp P (match a with|.g a'=>.g (.loop a')|a'=>.loop a') Q=xwp P (.loop a) Q:=by
 cases a<;>rfl
structure G1 where
 n:Nat
 res:List F1
 code:DF
def Fm(yl pr:Bool)(P:Program)(f:FuncId):Option G1:=
 match P.funcs[f]? with
 |some fn=>
  if fn.name== "runtime.NumGoroutine" || !P.follows .mixedOrders then none else
  match fn.body with
  |some c=>(fn.results.toList.mapM (HT P fn.ntmps)).map fun rs=>⟨fn.ntmps,rs,Gw yl pr P fn.ntmps c⟩
  |none=>none
 |none=>none
def PV:∀(ps:List Nat) (vs:List Value) (ρ:Env),(∀t∈ps,t<n)→ps.length=vs.length→
  (ps.zip vs).foldl (fun tmps (x:Nat×Value)=>tmps.setIfInBounds x.1 x.2) (act n ρ []).tmps=(act n (C8 ρ ps vs) []).tmps
 |[],[],ρ,_,_=>rfl
 |[],_::_,_,_,h=>by simp at h
 |_::_,[],_,_,h=>by simp at h
 |p::ps,v::vs,ρ,hp,hl=>by
  have h1:=congrArg Act.tmps (Fa (n:=n) (ρ:=ρ) (ds:=[]) (d:=some p) (fun t e=>by cases e;exact hp p (by simp)) v);have h2:(act n ρ []).tmps.setIfInBounds p v=(act n (upd ρ p v) []).tmps:=h1;simp only[List.zip_cons_cons,List.foldl_cons,C8];rw[h2];exact PV ps vs (upd ρ p v) (fun t ht=>hp t (Aco _ ht)) (by simpa using hl)
def Z5{ps:Array Tmp}{vs ρ}(hp:∀t∈ps.toList,t<n)(hl:vs.length=ps.size):
  ((ps.zip vs.toArray).foldl (fun tmps (x:Nat×Value)=>tmps.setIfInBounds x.1 x.2) (act n ρ []).tmps)=(act n (C8 ρ ps.toList vs) []).tmps:=by
 rw[←PV ps.toList vs ρ hp (by simpa using hl.symm),←Array.foldl_toList]
 simp
def Aaz(l:Nat)(rc:Loop)(R:Value→Ab→List Ab→Prop):BK where
 n:=fun _ d L=>R (.bool true) d (sg l (.loop {rc with state:=.ready,pending:=none})::L)
 ex:=fun i _ d L=>R (.bool false) d (sg l (.loop {rc with state:=.done,pending:=some (.exit i)})::L)
 ret:=fun _ d L=>R (.bool false) d (sg l (.loop {rc with state:=.done,pending:=some .ret})::L)
 pan:=fun _ _ _=>False
def AbC(N:Env→AL):BK where
 n:=N
 ex:=fun _ _ _ _=>False
 ret:=fun _ _ _=>False
 pan:=fun _ _ _=>False
def Ok.HI{l:Nat}{o o':Obj}{W}(x:Ok (d::(L++(sg l o::F))) W):Ok (d::(L++(sg l o'::F))) (W.putObj l o'):=by
 have p:(d::(L++(sg l o::F))).Perm (sg l o::(d::(L++F))):=by
  refine(Acr d Agg).trans (Adb _ _ _)
 have p':(sg l o'::(d::(L++F))).Perm (d::(L++(sg l o'::F))):=by
  refine(Adb _ _ _).trans (Acr d List.perm_middle.symm)
 exact((x.perm p).write (W.putObj l o') Z).perm p'
def Fg(W:World)(l:Nat)(o:Obj):AG W (W.putObj l o):=⟨Z,Z,Z,by simp⟩
def Ok.HZ{l:Nat}{o:Obj}{W}(x:Ok (d::(L++(sg l o::F))) W):W.heap[l]?=some o:=
 x.2 (sg l o) (by simp) l o (B2 _ _)
def Ok.HB{h W}:Ok (d::((h::L)++F)) W↔Ok (d::(L++(h::F))) W:=by
 have p:(d::((h::L)++F)).Perm (d::(L++(h::F))):=Acr d (by rw[Adv];exact List.perm_middle.symm);exact⟨fun x=>x.perm p,fun x=>x.perm p.symm⟩
def K5{ρ}{ps:List Nat}{as bd:BT}{rc:Loop}{l:Nat}{vs R}
  (hr:Qf P ρ ps as bd rc) (hst:rc.state=.ready) (hlen:vs.length=ps.length)
  (h:gwp P as (AbC (gwp P bd (Aaz l rc R))) (C8 ρ ps vs) d L):IM P l vs d (sg l (.loop rc)::L) R:=by
 obtain⟨pr,n,hm,ht,hps,hlt,ha,hb,na,nb⟩:=hr.h
 intro F W hOk
 have hOk1:=Ok.HB.1 hOk
 have hl:=hOk1.HZ
 have hsz:vs.length=rc.params.size:=by rw[hlen,←hps];simp
 refine⟨rc,hl,hsz,fun m=>roundIn_of_wpIn trivial ?_⟩
 rw[ht,Z5 (by rw[hps];exact hlt) hsz,hps]
 have e0:({tmps:=(act n (C8 ρ ps vs) []).tmps,defers:=[]}:Act)=act n (C8 ρ ps vs) []:=Z
 rw[e0]
 subst ha;subst hb
 have s1:=Mi (r:=some l) (m:=m) (ds:=[]) (F:=sg l (.loop rc)::F) (W0:=W) (d0:=d) hm rc.assign _ _ d L W na h hOk1 (Le.refl d) (AG.refl W)
 rw[SR] at s1
 refine wpIn_mono s1 ?_
 intro e a w hq
 cases e with
 |normal=>
  obtain⟨ρ1,d1,L1,rfl,k1,k2,k3,k4⟩:=hq
  have hl1:=k1.HZ
  refine⟨_,run_beginRound hl1 hst,?_⟩
  have k1':=k1.HI (o':=.loop {rc with state:=.busy})
  have s2:=Mi (r:=some l) (m:=m) (ds:=[]) (F:=sg l (.loop {rc with state:=.busy})::F) (W0:=W) (d0:=d) hm rc.body _ _ d1 L1 _ nb k4 k1' k2 (k3.trans (Fg _ _ _))
  rw[SR] at s2
  refine wpIn_mono s2 ?_
  intro e a w hq
  cases e with
  |normal=>
   obtain⟨ρ2,d2,L2,rfl,q1,q2,q3,q4⟩:=hq
   refine⟨_,_,run_endRound none q1.HZ,_,d2,_,Z,?_,q2,q3.trans (Fg _ _ _),q4⟩
   exact Ok.HB.2 q1.HI
  |exit id=>
   obtain⟨ρ2,d2,L2,rfl,q1,q2,q3,q4⟩:=hq
   refine⟨_,_,run_endRound _ q1.HZ,_,d2,_,Z,?_,q2,q3.trans (Fg _ _ _),q4⟩
   exact Ok.HB.2 q1.HI
  |ret=>
   obtain⟨ρ2,d2,L2,rfl,q1,q2,q3,q4⟩:=hq
   refine⟨_,_,run_endRound _ q1.HZ,_,d2,_,Z,?_,q2,q3.trans (Fg _ _ _),q4⟩
   exact Ok.HB.2 q1.HI
  |panic c=>obtain⟨_,_,_,_,_,_,h⟩:=hq;exact h
  |goto t=>exact hq.elim
  |outgrown=>exact hq.elim
 |exit id=>obtain⟨_,_,_,_,_,_,_,h⟩:=hq;exact h
 |ret=>obtain⟨_,_,_,_,_,_,_,h⟩:=hq;exact h
 |panic c=>obtain⟨_,_,_,_,_,_,h⟩:=hq;exact h
 |goto t=>exact hq.elim
 |outgrown=>exact hq.elim
section
section
variable {P:Program}{n:Nat}{ds:List Deferred}{ops:Array Oper}{F:List Ab}
def Mp{pan:List PanicEntry→AL}{Qn:Env→AL}{b:Frame}{items:List Item}{cs:List Frame}{W}{rest:List Nat}:∀(l:List Nat) (s:GS),BV P n ops (Dh l)=some s→(∀i∈l,IJ P ops i=true)→
  ∀(ρ:Env) (d:Ab) (L:List Ab),gws P pan Qn s [] ρ d L→Ok (d::(L++F)) W→
   ∃ρ' d' L',Steps P (lone (b.at (act n ρ ds) (.inRegion ops (l++rest)::items)) cs W) (lone (b.at (act n ρ' ds) (.inRegion ops rest::items)) cs W)∧Ok (d'::(L'++F)) W∧Le d d'∧Qn ρ' d' L'
 |[],s,hs,_,ρ,d,L,h,hOk=>by
  simp[Dh,BV] at hs;subst hs;obtain⟨d1,L1,hv,hq⟩:=h;exact⟨ρ,d1,L1,Steps.refl _ _,hv.2 F W (by simpa using hOk),hv.1,hq⟩
 |i::l,s,hs,hp,ρ,d,L,h,hOk=>by
  simp only[Dh,BV] at hs;split at hs<;>try cases hs
  rename_i g s' hg hs';rw[Adk] at hg;obtain⟨o,ho,hd⟩:=hg;obtain⟨d1,L1,hv,h⟩:=h;have hOk1:=hv.2 F W hOk;obtain⟨hop,hdst,_,hdi,hgd,hgu⟩:=GF hd;have hpi:=hp i (by simp);simp only[IJ,Acb,quietAt,ho,Aeu,hdi,Option.any_some,Option.all_some] at hpi;obtain⟨hq,hng⟩:=hpi;have hng':o.guard=none:=by simpa using hng
  have hgn:g.guard=none:=by
   rcases hgu with ⟨_,h⟩|⟨j,want,t,h,_⟩
   ·exact h
   ·rw[hng'] at h;cases h
  simp only[gop,hgn] at h;rw[DU hq] at h;obtain⟨v,hev,d2,L2,hv2,hgws⟩:=h;have hl:∀a v,HC d1 ([]++L1) a v→W.cell? a=some v:=fun a v hc=>hc.cell hOk1.head (fun q hq=>hOk1.2 q (by simp at hq;simp[hq]));have hrun:=Gj (P:=P) hdi hq hev (E:=(act n ρ ds).eval) (fun x hx=>A2 (hop x hx)) hl;have hw:Region.wanted o (yielded ops (act n ρ ds).tmps)=true:=by simp[Region.wanted,hng']
  have hstep:step P (lone (b.at (act n ρ ds) (.inRegion ops (i::(l++rest))::items)) cs W)=.next (lone (b.at (act n (put ρ g.dst v) ds) (.inRegion ops (l++rest)::items)) cs W):=by
   refine step_lone_go ?_;rw[stepG_op ho hw];have hf:=Frame.finish_at b (act n ρ ds) ops i (l++rest) items v;rw[ho,Aeu,Fa hdst,←hgd] at hf;rw[←hf];simp[stepG.apply,hrun]
  obtain⟨ρ',d',L',hst,k1,k2,k3⟩:=Mp l s' hs' (fun i hi=>hp i (Aco _ hi)) (put ρ g.dst v) d2 L2 hgws (hv2.2 F W hOk1);exact⟨ρ',d',L',Steps.head hstep hst,k1,(hv.1.trans hv2.1).trans k2,k3⟩
def Mm{n k:Nat}(h:k<n):Adg n=Adg k++(k::(Adg n).drop (k+1)):=by
 have h1:=(List.take_append_drop k (Adg n)).symm;rw[List.take_range,Nat.min_eq_left (Nat.le_of_lt h)] at h1;rw[Acu (by simpa using h)] at h1;simpa using h1
def YK{id k:Nat}{o:Oper}{s1 s2}{Qm:Env→AL}{d0}(ho:ops[k]?=some o)(hs1:BV P n ops (Dh (Adg k))=some s1)(hp:(Adg k).all (IJ P ops)=true)
  (hs2:BV P n ops (Dh ((Adg ops.size).drop (k+1)))=some s2) (hdst:∀t,o.dst=some t→t<n)
  (hstep:∀ρ d L W,Ok (d::(L++F)) W→Qm ρ d L→∃v W' d' L',(∀(b:Frame) items cs rest,step P (lone (b.at (act n ρ ds) (.inRegion ops (k::rest)::items)) cs W)=.next (lone ((b.at (act n ρ ds) (.inRegion ops (k::rest)::items)).finish v) cs W'))∧
   Ok (d'::(L'++F)) W'∧Le d d'∧AG W W'∧gws P Q.pan Q.n s2 [] (put ρ o.dst v) d' L')
  {ρ d L W}(h:gws P Q.pan Qm s1 [] ρ d L) (hOk:Ok (d::(L++F)) W) (hle:Le d0 d) (hk:AG W0 W):
  (Code.region id ops false).wp P (lift n ds F W0 d0 Q) (act n ρ ds) W:=by
 intro b items cs
 have hkl:k<ops.size:=(Array.getElem?_eq_some_iff.1 ho).1
 rw[Acv] at hp
 obtain⟨ρ1,d1,L1,st1,k1,k2,k3⟩:=Mp (F:=F) (ds:=ds) (b:=b) (items:=items) (cs:=cs) (rest:=k::(Adg ops.size).drop (k+1)) _ s1 hs1 hp ρ d L h hOk
 obtain⟨v,W',d2,L2,hst,q1,q2,q3,q4⟩:=hstep ρ1 d1 L1 W k1 k3
 have st2:=hst b items cs ((Adg ops.size).drop (k+1))
 rw[Frame.finish_at,ho,Aeu,Fa hdst] at st2
 obtain⟨e,a',w',hq,harr⟩:=wp_ops _ _ _ (D4 _ s2 hs2 _ d2 L2 W' q4 q1 (hle.trans (k2.trans q2)) (hk.trans q3)) b items cs
 refine⟨e,a',w',hq,.of_steps ?_ harr⟩
 refine Steps.trans (.one step_region) ?_
 have e1:lone (b.at (act n ρ ds) (.inRegion ops (Adg ops.size)::items)) cs W=lone (b.at (act n ρ ds) (.inRegion ops (Adg k++(k::(Adg ops.size).drop (k+1)))::items)) cs W:=by rw[←Mm hkl]
 rw[e1]
 exact Steps.trans st1 (.one st2)
end
end
section
section
variable {P:Program}{ops:Array Oper}{k:Nat}{o:Oper}{a:Act}{W:World}{c cap s r:Nat}{buf:Array Value}{tm:Bool}
def XK(ho:ops[k]?=some o)(hg:o.guard=none){ch x}(hop:o.op=.send ch x)(hc:a.eval ch=.chan (some c))(hh:W.heap[c]?=some (.chan cap buf false s r tm))(hroom:buf.size<cap)
  (b:Frame) (items:List Item) (cs:List Frame) (rest:List Nat):
  step P (lone (b.at a (.inRegion ops (k::rest)::items)) cs W)=.next (lone ((b.at a (.inRegion ops (k::rest)::items)).finish undef) cs (W.setChan c cap (buf.push (a.eval x)) false (s+1) r tm)):=by
 have hw:Region.wanted o (yielded ops a.tmps)=true:=by simp[Region.wanted,hg]
 have hrun:(execOp a.eval o).run P W=.ok (.comm #[scase c (a.eval x) (.tuple #[])] true .send) W:=by simp[execOp,hop,hc,scase]
 have h:=stepG_op (P:=P) (b:=b) (a:=a) (k:=items) (cs:=cs) (w:=W) (ops:=ops) (rest:=rest) ho hw
 simp only[stepG.apply,Sem.runT_eq,hrun] at h
 exact step_lone_send_room h hh hroom
def P0(ho:ops[k]?=some o)(hg:o.guard=none){ch e z}{ti:TypeInfo}(hop:o.op=.select #[⟨ch,none,e⟩] false)(hi:P.info? e=some ti)(hz:ti.zero=some z)(hc:a.eval ch=.chan (some c))(hh:W.heap[c]?=some (.chan cap buf false s r tm))(hsome:0<buf.size)
  (b:Frame) (items:List Item) (cs:List Frame) (rest:List Nat):
  step P (lone (b.at a (.inRegion ops (k::rest)::items)) cs W)=.next (lone ((b.at a (.inRegion ops (k::rest)::items)).finish (.tuple #[goInt 0,.bool true,buf.getD 0 undef])) cs (W.setChan c cap (buf.extract 1 buf.size) false s (r+1) tm)):=by
 have hw:Region.wanted o (yielded ops a.tmps)=true:=by simp[Region.wanted,hg]
 have hrun:(execOp a.eval o).run P W=.ok (.comm #[rcase c z] false .select) W:=by simp[execOp,hop,hc,rcase,DE hi hz,Result.andThen]
 have h:=stepG_op (P:=P) (b:=b) (a:=a) (k:=items) (cs:=cs) (w:=W) (ops:=ops) (rest:=rest) ho hw
 simp only[stepG.apply,Sem.runT_eq,hrun] at h
 exact step_lone_select_recv_buf h hh hsome
def P4(ho:ops[k]?=some o)(hg:o.guard=none){ch e z}{ti:TypeInfo}(hop:o.op=.select #[⟨ch,none,e⟩] false)(hi:P.info? e=some ti)(hz:ti.zero=some z)(hc:a.eval ch=.chan (some c))(hh:W.heap[c]?=some (.chan cap #[] false s r tm))
  (b:Frame) (items:List Item) (cs:List Frame) (rest:List Nat):
  step P (lone (b.at a (.inRegion ops (k::rest)::items)) cs W)=.next (lone ((b.at a (.inRegion ops (k::rest)::items)).finish (.tuple #[goInt (-1),.bool false,z])) cs W):=by
 have hw:Region.wanted o (yielded ops a.tmps)=true:=by simp[Region.wanted,hg]
 have hrun:(execOp a.eval o).run P W=.ok (.comm #[rcase c z] false .select) W:=by simp[execOp,hop,hc,rcase,DE hi hz,Result.andThen]
 have h:=stepG_op (P:=P) (b:=b) (a:=a) (k:=items) (cs:=cs) (w:=W) (ops:=ops) (rest:=rest) ho hw
 simp only[stepG.apply,Sem.runT_eq,hrun] at h
 exact step_lone_select_default h hh
end
def HR(W:World)(c cap:Nat)(buf:Array Value)(cl:Bool)(s r:Nat)(tm:Bool):(W.setChan c cap buf cl s r tm).heap=W.heap.setIfInBounds c (.chan cap buf cl s r tm):=Z
def J3(W:World)(c cap:Nat)(buf:Array Value)(cl:Bool)(s r:Nat)(tm:Bool):AG W (W.setChan c cap buf cl s r tm):=⟨Z,Z,Z,by rw[HR];simp⟩
def Ok.WK{W W'}{i b:Nat}{o o':Obj}(x:Ok (d::(L++F)) W)(hi:L[i]?=some (sg b o))(e:W'.heap=W.heap.setIfInBounds b o'):Ok (d::(L.set i (sg b o')++F)) W':=by
 obtain⟨A,B,h1,h2⟩:=EM hi (sg b o');rw[h2];rw[h1] at x;exact Ok.front.2 ((Ok.front.1 x).write W' e)
end
section
section
variable {Fe:Fence}{m:Nat}{P:Program}
def Vc{o:Oper}{a:Act}{w K K' Q Q'}(h:∀a w,K a w→K' a w)(hp:∀c a w,Q (.panic c) a w→Q' (.panic c) a w)(hl:LetsOut Q→LetsOut Q')
  (hh:o.wpIn Fe m P a w K Q):o.wpIn Fe m P a w K' Q':=by
 unfold Oper.wpIn at*
 refine⟨hh.1,?_⟩
 have hh:=hh.2
 generalize (o.semAt Fe.round a.eval).run P w=r at*
 cases r with
 |ok x w'=>
  cases x<;>simp only[Oper.uponIn] at hh⊢<;>
   first
    |exact h _ _ hh
    |exact⟨hh.1,CallsIn.mono hh.2 (fun e w'' he=>by cases e<;>first|exact h _ _ he|exact hp _ _ _ he|exact hl he)⟩
    |exact⟨hh.1,RowsIn.mono hh.2 (fun _ _ he=>h _ _ he)⟩
    |exact⟨hh.1,RoundIn.mono hh.2 (fun e w'' he=>by cases e<;>first|exact h _ _ he|exact hp _ _ _ he|exact hl he)⟩
 |halt x w'=>cases x<;>simp only[Oper.uponIn] at hh⊢<;>exact hp _ _ _ hh
def G4{ops Q Q'}{l2:List Nat}(hn:∀a w,Q .normal a w→wpOpsIn Fe m P ops Q' l2 a w)(hp:∀c a w,Q (.panic c) a w→Q' (.panic c) a w)(hl:LetsOut Q→LetsOut Q'):
  ∀(l1:List Nat) (a:Act) (w:World),wpOpsIn Fe m P ops Q l1 a w→wpOpsIn Fe m P ops Q' (l1++l2) a w
 |[],a,w,h=>hn a w h
 |i::l1,a,w,h=>by
  simp only[wpOpsIn,Adv] at h⊢;cases ho:ops[i]? with
  |none=>rw[ho] at h;exact G4 hn hp hl l1 a w h
  |some o=>
   rw[ho] at h
   simp only at h⊢
   split
   ·rename_i hw
    rw[if_pos hw] at h
    exact Vc (fun a w h=>G4 hn hp hl l1 a w h) hp hl h
   ·rename_i hw
    rw[if_neg hw] at h
    exact⟨h.1,G4 hn hp hl l1 _ w h.2⟩
end
section
variable {P:Program}{n:Nat}{ds:List Deferred}{ops:Array Oper}{F:List Ab}{W0:World}{d0:Ab}
def Y7{m id k:Nat}{o:Oper}{s1 s2 f}{args:Array Operand}{ats:Array TypeId}(ho:ops[k]?=some o)(hg:o.guard=none)(hop:o.op=.call ⟨.value f,args,ats⟩)(hopn:∀x∈o.op.operands,DM n x=true)
  (hdst:∀t,o.dst=some t→t<n) (hnd:∀(i:Nat) (o:Oper),ops[i]?=some o→FH o.op=false)
  (hs1:BV P n ops (Dh (Adg k))=some s1) (hs2:BV P n ops (Dh ((Adg ops.size).drop (k+1)))=some s2)
  {ρ d L W}(h:xwp P (.yl s1 o.dst f args.toList s2) Q ρ d L) (hOk:Ok (d::(L++F)) W) (hle:Le d0 d) (hk:AG W0 W):
  (Code.region id ops false).wpIn Fence.wide m P (lift n ds F W0 d0 Q) (act n ρ ds) W:=by
 have hkl:k<ops.size:=(Array.getElem?_eq_some_iff.1 ho).1
 refine wpIn_region ?_
 rw[Mm hkl]
 refine G4 ?_ ?_ (fun h=>absurd h Fz) _ _ _ (GR (r:=none) (Q:=lift n ds F W0 d0 {Q with n:=Qd P Q o.dst f args.toList s2}) Fz hnd _ _ _ (D4 _ s1 hs1 ρ d L W h hOk hle hk))
 ·rintro a w ⟨ρ1,d1,L1,rfl,k1,k2,k3,l,A,B,R,hf,hL,hy,hR⟩
  subst hL
  have hw:Region.wanted o (yielded ops (act n ρ1 ds).tmps)=true:=by simp[Region.wanted,hg]
  obtain⟨rc,hh,hlen,hround⟩:=hy (B++F) w (by rw[←Ace];exact k1)
  have ha:=HY (ρ:=ρ1) (ds:=ds) args (fun x hx=>hopn x (by rw[hop];simp[Op.operands,Call.operands,hx]))
  have hfv:=A2 (ρ:=ρ1) (ds:=ds) (hopn f (by rw[hop];simp[Op.operands,Call.operands]))
  have hrun:=run_yield (P:=P) hh (args:=(args.toList.map (ev ρ1)).toArray) (by simpa using hlen)
  have hexec:(execOp (act n ρ1 ds).eval o).run P w=.ok (.round l rc.fn ((rc.params.zip (args.toList.map (ev ρ1)).toArray).foldl (fun tmps (t,a)=>tmps.setIfInBounds t a) rc.tmps) rc.assign rc.body) w:=by
   simp only[execOp,hop,resolve,Sem.run_bind,hfv,hf,Deferred.ofValue,Sem.run_pure,Result.andThen,invoke,ha];simpa using hrun
  simp only[wpOpsIn,ho]
  rw[if_pos hw]
  refine⟨fun _ _=>trivial,?_⟩
  have e:o.semAt Fence.wide.round (act n ρ1 ds).eval=execOp (act n ρ1 ds).eval o:=Oper.semAt_none ..
  rw[e,hexec,Oper.uponIn_round]
  refine⟨fun h=>by simp[Fence.wide] at h,(hround _).mono ?_⟩
  rintro e w2 ⟨v,d2,L2,rfl,q1,q2,q3,q4⟩
  show wpOpsIn _ _ _ _ _ _ _ _
  rw[Fa hdst]
  rw[←Ace] at q1
  exact GR (r:=none) Fz hnd _ _ _ (D4 _ s2 hs2 _ d2 (L2++B) w2 (hR v d2 L2 q2 q4) q1 (k2.trans q2) (k3.trans q3))
 ·intro c a w h;exact h
end
end
def marksOf(ms:List Nat):List Deferred:=ms.map fun r=>{target:=.collected r,args:= #[]}
def G2(ms:List Nat):List Ab:=ms.map fun r=>sg r (.deferred (some []))
def liftM(n:Nat)(F:List Ab)(W0:World)(d0:Ab)(Q:BK)(e:Exit)(a:Act)(W:World):Prop:=∃ms,lift n (marksOf ms) (G2 ms++F) W0 d0 Q e a W
def W6{ds d0}{m id:Nat}{ops}(hnd:∀(i:Nat) (o:Oper),ops[i]?=some o→FH o.op=false)
  {Q:BK}{ρ d L W}(h:xwp P (TL yl P n ops) Q ρ d L) (hOk:Ok (d::(L++F)) W) (hle:Le d0 d) (hk:AG W0 W):
  (Code.region id ops false).wpIn Fence.wide m P (lift n ds F W0 d0 Q) (act n ρ ds) W:=by
 unfold TL at h
 split at h
 ·exact h.elim
 rename_i k hkf
 split at h
 rotate_left
 ·exact h.elim
 rename_i s1 s2 o hs1 hs2 ho
 split at h
 rotate_left
 ·exact h.elim
 rename_i hc
 simp only[Acb] at hc
 obtain⟨⟨hg,hopn⟩,hdo⟩:=hc
 have hg:o.guard=none:=by simpa using hg
 have hopn:∀x∈o.op.operands,DM n x=true:=by
  intro x hx;exact Acv.1 hopn x (Array.mem_toList_iff.2 hx)
 have hdst:∀t,o.dst=some t→t<n:=by
  intro t e;rw[e] at hdo;simpa [Qp] using hdo
 split at h
 ·rename_i ch x hop
  split at h
  rotate_left
  ·exact h.elim
  rename_i hp
  refine wpIn_wide.2 (YK (Q:=Q) (Qm:=NG P Q o.dst ch x s2) ho hs1 hp hs2 hdst ?_ h hOk hle hk)
  rintro ρ1 d1 L1 W1 hOk1 ⟨i,c,cap,buf,s,r,tm,hch,hi,hroom,hq⟩
  have hh:W1.heap[c]?=some (.chan cap buf.toArray false s r tm):=hOk1.2 (sg c _) (by simp[Aen hi]) c _ (B2 _ _)
  have ech:=A2 (ρ:=ρ1) (ds:=ds) (hopn ch (by rw[hop];simp[Op.operands]))
  have ex:=A2 (ρ:=ρ1) (ds:=ds) (hopn x (by rw[hop];simp[Op.operands]))
  refine⟨undef,_,d1,_,fun b items cs rest=>XK ho hg hop (ech.trans hch) hh (by simpa using hroom) b items cs rest,?_,Le.refl _,J3 ..,hq⟩
  refine hOk1.WK hi ?_
  rw[HR,ex];simp
 ·rename_i cs' hop
  split at h
  rotate_left
  ·exact h.elim
  rename_i ch e hcs
  split at h
  rotate_left
  ·exact h.elim
  rename_i z hz
  split at h
  rotate_left
  ·exact h.elim
  rename_i hp
  have hcs':cs'= #[⟨ch,none,e⟩]:=by
   apply Array.ext';simpa using hcs
  subst hcs'
  rw[Adk] at hz
  obtain⟨ti,hi',hz'⟩:=hz
  refine wpIn_wide.2 (YK (Q:=Q) (Qm:=K2 P Q o.dst ch z s2) ho hs1 hp hs2 hdst ?_ h hOk hle hk)
  rintro ρ1 d1 L1 W1 hOk1 ⟨i,c,cap,buf,s,r,tm,hch,hi,hq1,hq2⟩
  have hh:W1.heap[c]?=some (.chan cap buf.toArray false s r tm):=hOk1.2 (sg c _) (by simp[Aen hi]) c _ (B2 _ _)
  have ech:=A2 (ρ:=ρ1) (ds:=ds) (hopn ch (by rw[hop];simp[Op.operands]))
  cases buf with
  |nil=>
   exact⟨_,W1,d1,L1,fun b items cs rest=>P4 ho hg hop hi' hz' (ech.trans hch) hh b items cs rest,hOk1,Le.refl _,AG.refl _,hq2 Z⟩
  |cons v rest'=>
   refine⟨_,_,d1,_,fun b items cs rest=>P0 ho hg hop hi' hz' (ech.trans hch) hh (by simp) b items cs rest,?_,Le.refl _,J3 ..,hq1 v rest' Z⟩
   refine hOk1.WK hi ?_
   rw[HR];simp
 ·rename_i f args ats hop
  split at h
  rotate_left
  ·exact h.elim
  exact Y7 ho hg hop hopn hdst hnd hs1 hs2 h hOk hle hk
 ·exact h.elim
def VP{pr:Bool}{d0}{m:Nat}(hm:P.follows .mixedOrders=true):
  ∀(c:Code) (Q:BK) (ρ:Env) (d:Ab) (L:List Ab) (W:World) (ms:List Nat),xwp P (Gw yl pr P n c) Q ρ d L→Ok (d::(L++(G2 ms++F))) W→Le d0 d→AG W0 W→
   c.wpIn Fence.wide m P (liftM n F W0 d0 Q) (act n ρ (marksOf ms)) W:=by
 intro c
 induction c with
 |skip=>
  intro Q ρ d L W ms h hOk hle hk
  exact wpIn_skip ⟨ms,ρ,d,L,Z,hOk,hle,hk,h⟩
 |region id ops drawn=>
  intro Q ρ d L W ms h hOk hle hk
  simp only[Gw] at h
  split at h
  ·rename_i hc
   simp only[Acb,Aes] at hc
   obtain⟨⟨hd,_⟩,hnd⟩:=hc
   subst hd
   exact wpIn_mono (W6 (Px hnd) h hOk hle hk) (fun e a w hq=>⟨ms,hq⟩)
  ·exact wpIn_mono (wpIn_wide.2 (Ha (ds:=marksOf ms) (F:=G2 ms++F) (W0:=W0) (d0:=d0) hm _ Q ρ d L W h hOk hle hk)) (fun e a w hq=>⟨ms,hq⟩)
 |seq a b iha ihb=>
  intro Q ρ d L W ms h hOk hle hk
  simp only[Gw] at h
  rw[AbP] at h
  refine wpIn_seq (wpIn_mono (iha _ ρ d L W ms h hOk hle hk) ?_)
  intro e a w hq
  cases e with
  |normal=>
   obtain⟨ms',ρ',d',L',rfl,h1,h2,h3,h4⟩:=hq
   exact ihb Q ρ' d' L' w ms' h4 h1 h2 h3
  |_=>exact hq
 |cond c a b iha ihb=>
  intro Q ρ d L W ms h hOk hle hk
  simp only[Gw] at h
  split at h
  ·rename_i hc
   rw[AbB] at h
   obtain⟨t,ht,h1,h2⟩:=h
   exact wpIn_cond_split (by rw[A2 hc];exact ht) (fun e=>iha Q ρ d L W ms (h1 e) hOk hle hk) (fun e=>ihb Q ρ d L W ms (h2 e) hOk hle hk)
  ·exact h.elim
 |block id a iha=>
  intro Q ρ d L W ms h hOk hle hk
  simp only[Gw] at h
  rw[AaH] at h
  refine wpIn_block (wpIn_mono (iha _ ρ d L W ms h hOk hle hk) ?_)
  intro e a w hq
  cases e with
  |exit i=>
   obtain⟨ms',ρ',d',L',rfl,h1,h2,h3,h4⟩:=hq
   simp only[Exit.inBlock]
   by_cases e:i=id
   ·simp only[e,if_true] at h4⊢
    exact⟨ms',ρ',d',L',Z,h1,h2,h3,h4⟩
   ·simp only[if_neg e] at h4⊢
    exact⟨ms',ρ',d',L',Z,h1,h2,h3,h4⟩
  |_=>exact hq
 |loop a iha=>
  intro Q ρ d L W ms h hOk hle hk
  simp only[Gw] at h
  rw[Abq] at h
  obtain⟨I,⟨m0,hI⟩,round⟩:=h
  refine wpIn_loop_ghost (fun m a w=>∃ms ρ d L,a=act n ρ (marksOf ms)∧Ok (d::(L++(G2 ms++F))) w∧Le d0 d∧AG W0 w∧I m ρ d L) m0 ⟨ms,ρ,d,L,Z,hOk,hle,hk,hI⟩ ?_
  rintro m a w ⟨ms',ρ',d',L',rfl,h1,h2,h3,h4⟩
  refine wpIn_mono (iha _ ρ' d' L' w ms' (round m ρ' d' L' h4) h1 h2 h3) ?_
  intro e a w hq
  cases e with
  |normal=>
   obtain⟨ms'',ρ'',d'',L'',rfl,k1,k2,k3,m',k4,k5⟩:=hq
   exact⟨m',k4,ms'',ρ'',d'',L'',Z,k1,k2,k3,k5⟩
  |_=>exact hq
 |exit id=>
  intro Q ρ d L W ms h hOk hle hk
  exact wpIn_exit ⟨ms,ρ,d,L,Z,hOk,hle,hk,h⟩
 |ret=>
  intro Q ρ d L W ms h hOk hle hk
  exact wpIn_ret ⟨ms,ρ,d,L,Z,hOk,hle,hk,h⟩
 |rangeFunc f ps as bd _ _=>
  intro Q ρ d L W ms h hOk hle hk
  simp only[Gw] at h
  split at h
  rotate_left
  ·exact h.elim
  rename_i hc
  simp only[Acb] at hc
  obtain⟨⟨⟨hf,hps⟩,hna⟩,hnb⟩:=hc
  obtain⟨g,first,cap,hfv,hit⟩:=h
  refine wpIn_rangeFunc fun fn _=>?_
  have hev:(act n ρ (marksOf ms)).eval f=.func (.func g) first cap:=(A2 hf).trans hfv
  let rc:Loop:={state:=.ready,pending:=none,fn:=fn,tmps:=(act n ρ (marksOf ms)).tmps,params:=ps,assign:=as,body:=bd,defers:=W.heap.size}
  have hrec:Qf P ρ ps.toList (Ej pr P n as) (Ej pr P n bd) rc:=⟨pr,n,hm,Z,Z,fun t ht=>by
   have:=Array.all_eq_true.1 hps;obtain⟨i,hi,rfl⟩:=Array.mem_iff_getElem.1 (Array.mem_toList_iff.1 ht);simpa using this i hi,Z,Z,hna,hnb⟩
  obtain⟨R,hcall,hR⟩:=hit (W.heap.size+1) rc hrec Z Z
  have hen:=run_enterLoop_outer (P:=P) (w:=W) fn (act n ρ (marksOf ms)).tmps ps as bd
  have hOk1:Ok (d::(L++(G2 (W.heap.size::ms)++F))) (W.alloc (.deferred (some []))):=Ok.HB.1 (hOk.push (.deferred (some [])))
  have hOk2:Ok (d::((sg (W.heap.size+1) (.loop rc)::L)++(G2 (W.heap.size::ms)++F))) ((W.alloc (.deferred (some []))).alloc (.loop rc)):=by
   have:=hOk1.push (.loop rc);rwa [World.size_alloc] at this
  have hk2:AG W0 ((W.alloc (.deferred (some []))).alloc (.loop rc)):=(hk.trans (DG _ _)).trans (DG _ _)
  refine⟨W.heap.size+1,_,(W.alloc (.deferred (some []))).alloc (.loop rc),{target:=.fn (.func g) cap,args:=first++ #[.func (.yield (W.heap.size+1)) #[] #[]]},(W.alloc (.deferred (some []))).alloc (.loop rc),g,first++ #[.func (.yield (W.heap.size+1)) #[] #[]]++cap,(W.alloc (.deferred (some []))).alloc (.loop rc),hen,?_,fun _ _=>trivial,?_,fun h=>by simp[Fence.wide] at h,?_⟩
  ·simp only[resolve,hev,Deferred.ofValue,Sem.run_pure,Array.map_singleton]
   simp[Act.eval]
  ·simp only[invoke];exact Fs hcall.1 _ _
  refine callsIn_wide.2 ?_
  have hc:=hcall.2 (G2 (W.heap.size::ms)++F) _ hOk2
  have ha:(first.toList++[Value.func (.yield (W.heap.size+1)) #[] #[]]++cap.toList).toArray=first++ #[.func (.yield (W.heap.size+1)) #[] #[]]++cap:=by apply Array.ext';simp
  rw[ha] at hc
  refine hc.mono ?_
  rintro e w2 ⟨d2,L2,q1,q2,q3,q4⟩
  obtain⟨v,rc',L3,rfl,rfl,hst,hpend⟩:=hR e d2 L2 q2 q4
  have q1':=Ok.HB.1 q1
  have hl:=q1'.HZ
  refine⟨_,_,run_endLoop hl hst,?_⟩
  have q5:Ok (d2::(L3++(G2 (W.heap.size::ms)++F))) (w2.putObj (W.heap.size+1) (.loop {rc' with state:=.exhausted})):=
   (q1'.HI (o':=.loop {rc' with state:=.exhausted})).sub (Aey _ (List.Sublist.append_left (Ade _ _) _))
  have q6:=hk2.trans (q3.trans (Fg w2 (W.heap.size+1) (.loop {rc' with state:=.exhausted})))
  obtain⟨w4,hw4⟩:∃w4,w2.putObj (W.heap.size+1) (.loop {rc' with state:=.exhausted})=w4:=⟨_,Z⟩
  rw[hw4] at q5 q6⊢
  clear hw4
  cases hp:rc'.pending with
  |none=>
   rw[hp] at hpend
   exact⟨W.heap.size::ms,ρ,d2,L3,Z,q5,hle.trans q2,q6,hpend⟩
  |some j=>
   rw[hp] at hpend
   cases j with
   |exit id=>exact wpIn_exit ⟨W.heap.size::ms,ρ,d2,L3,Z,q5,hle.trans q2,q6,hpend⟩
   |ret=>exact wpIn_ret ⟨W.heap.size::ms,ρ,d2,L3,Z,q5,hle.trans q2,q6,hpend⟩
   |_=>exact hpend.elim
 |_=>intro Q ρ d L W ms h;exact h.elim
def TS{fn:Func}{tmps:Array Value}{R:Ending→World→Prop}{u:FrameMode}(hu:u≠.run)
  (fin:∀w,Ok (d::(L++F)) w→AG W0 w→LeavesIn Fence.wide 0 P fn tmps R [] u w):∀(ms:List Nat) (w:World),Ok (d::(L++(G2 ms++F))) w→AG W0 w→LeavesInM Fence.wide 0 P fn tmps R (marksOf ms) u w
 |[],w,h,hk=>fin w h hk
 |r::ms,w,h,hk=>by
  refine⟨hu,.inl ⟨r,_,Z,run_takeDeferred h.HZ,?_⟩⟩
  refine TS hu fin ms _ ?_ (hk.trans (Fg _ _ _));exact(h.HI (o':=.deferred none)).sub (Aey _ (List.Sublist.append_left (Ade _ _) _))
def EU{pr:Bool}{f}{g:G1}(hd:Fm yl pr P f=some g){args}(ha:args.length≤g.n){R}
  (h:xwp P g.code (mkPost g.res R) (GW args) d L):AB P f args d L R:=by
 simp only[Fm] at hd
 split at hd<;>try cases hd
 rename_i fn hf
 split at hd<;>try cases hd
 rename_i hn
 split at hd<;>try cases hd
 rename_i c hb
 rw[Ado] at hd
 obtain⟨rs,hr,rfl⟩:=hd
 simp only[Adu,not_or,Afg,Agx] at hn
 refine⟨⟨fn,hf,by rw[hb];rfl,hn.1⟩,fun F W hOk=>?_⟩
 refine(callsIn_wide (n:=0)).1 (callsIn_of_wp_marks hf hb trivial ?_)
 have hinit:({tmps:=args.toArray++Array.replicate (fn.ntmps - args.toArray.size) undef,defers:=[]}:Act)=act fn.ntmps (GW args) (marksOf []):=by
  simp only[act,Act.mk.injEq,marksOf,List.map_nil,and_true];apply Array.ext
  ·simp at ha⊢;omega
  ·intro i h1 h2;simp only[Array.getElem_ofFn,GW];by_cases hi:i<args.length
   ·rw[Array.getElem_append_left (by simpa using hi)];simp[hi]
   ·rw[Array.getElem_append_right (by simpa using hi)];simp[Aga,Adx (Agh hi)]
 rw[hinit]
 have hs:=VP (F:=F) (W0:=W) (d0:=d) (m:=0) (by simpa using hn.2) c _ _ d L W [] h hOk (Le.refl d) (AG.refl W)
 refine wpIn_mono hs ?_
 have fin:∀ms ρ d' L' w,Ok (d'::(L'++(G2 ms++F))) w→Le d d'→AG W w→Ct rs R ρ d' L'→LeavesInM Fence.wide 0 P fn (act fn.ntmps ρ []).tmps (fun e w'=>∃d' L',Ok (d'::(L'++F)) w'∧Le d d'∧AG W w'∧R e d' L') (marksOf ms) .returning w:=by
  rintro ms ρ d' L' w h1 h2 h3 ⟨vs,h4,d'',L'',h5,h6⟩;refine TS (W0:=W) (by simp) ?_ ms w h1 h3;intro w' k1 k2;refine⟨J1 vs,?_,d'',L'',h5.2 F w' k1,h2.trans h5.1,k2,h6⟩
  have hl:∀a v,HC d' L' a v→w'.cell? a=some v:=fun a v hc=>hc.cell k1.head (fun q hq=>k1.2 q (by simp[hq]));have:=GY (P:=P) (n:=fn.ntmps) (ρ:=ρ) (ds:=[]) hl fn.results.toList rs vs hr h4;rw[Ht,Array.mapM_eq_mapM_toList];simp only[Sem.run_bind,Sem.run_map,this,Result.andThen,Sem.run_pure];cases vs with
  |nil=>rfl
  |cons v vs=>cases vs with
   |nil=>rfl
   |cons v' vs=>rfl
 intro e a w hq
 cases e with
 |normal=>
  obtain⟨ms,ρ,d',L',rfl,k1,k2,k3,k4⟩:=hq
  exact fin ms ρ d' L' w k1 k2 k3 k4
 |ret=>
  obtain⟨ms,ρ,d',L',rfl,k1,k2,k3,k4⟩:=hq
  exact fin ms ρ d' L' w k1 k2 k3 k4
 |panic c=>
  obtain⟨ms,h1,d',L',h2,h3,h4,d'',L'',h5,h6⟩:=hq
  show LeavesInM Fence.wide 0 P fn a.tmps _ a.defers (.panicking c) w
  rw[h1]
  refine TS (W0:=W) (by simp) ?_ ms w h2 h4
  intro w' k1 k2
  exact⟨d'',L'',h5.2 F w' k1,h3.trans h5.1,k2,h6⟩
 |exit i=>obtain⟨_,_,_,_,_,_,_,_,hh⟩:=hq;exact hh.elim
 |goto l=>obtain⟨_,h⟩:=hq;exact h.elim
 |outgrown=>obtain⟨_,h⟩:=hq;exact h.elim
end Go.Gk
end
section
namespace Go.Gk
open Go
section
def Eh(N:Nat)(v:Value)(c:List UInt8)(h:Ab):Prop:=
 c.length≤N∧∃b T,v=.slice (some ⟨b,0,none⟩) c.length N∧h=bx b T (c.map As++Acq (N - c.length) (As 0))
def Eh.full{N:Nat}{v c h}(r:Eh N v c h):∃b,v=.slice (some ⟨b,0,none⟩) c.length N∧Eh N (.slice (some ⟨b,0,none⟩) N N) (c++Acq (N - c.length) 0) h:=by
 obtain⟨hc,b,T,rfl,rfl⟩:=r;have hl:(c++Acq (N - c.length) (0:UInt8)).length=N:=by simp;omega
 refine⟨b,Z,by omega,b,T,by rw[hl],?_⟩
 rw[hl];simp
def Eh.bytes{N:Nat}{v c h d}(r:Eh N v c h)(hl:Le h d)(hN:N≤140737488355328):AH d v c:=by
 obtain⟨hc,b,T,rfl,rfl⟩:=r;exact(Bu.mk (sz:=1) (xs:=c.map As) (n:=c.length) (c:=N) (by simp) (by omega) hc (by omega) (by simp;omega) (by simp)).bytes hl
def AH.pre{d a}{n c:Nat}{l}(h:AH d (.slice a n c) l){k:Nat}(hk:k≤l.length):AH d (.slice a k c) (l.take k):=by
 obtain⟨a',c',b,o,e,h2,h3,h4,h5,h6,h7,h8⟩:=h;cases e;have hl:(l.take k).length=k:=by simp;omega
 refine⟨a,c,b,o,by rw[hl],fun h0=>?_,h3,h4,by omega,h6,by omega,fun i hi=>?_⟩
 ·rw[hl] at h0;exact h2 (by omega)
 ·obtain⟨cs,k1,k2,k3⟩:=h8 i (by omega);exact⟨cs,k1,k2,by simpa using k3⟩
def CS(c:List UInt8):((c.map As).all (·.oneCell'))=true:=by
 rw[Acv];intro x hx;obtain⟨u,_,rfl⟩:=Aft.1 hx;rfl
section
variable {P:Program}{pan:List PanicEntry→AL}{Qn:Env→AL}{Ls L:List Ab}{ρ:Env}{d:Ab}{s:GS}{t:Nat}{tk:Bool}
def QP{by_:Nat}{z x y}(i:Nat){N:Nat}{v c news h}(ex:ev ρ x=v)(hi:L[i]?=some h)(ho:Eh N v c h)
  {w}(ey:ev ρ y=w) (hx:RdX d (Ls++L++L) w news.length 1 (news.map As)) (hfit:c.length+news.length≤N) (hN:N≤140737488355328)
  (k:∀v' h',Eh N v' (c++news) h'→gws P pan Qn s Ls (upd ρ t v') d (L.set i h')):gws P pan Qn (.op false ⟨some t,none,.app 1 by_ z x y⟩ s) Ls ρ d L:=by
 obtain⟨xa,xc,rfl,hl,hx0,hxc⟩:=hx
 obtain⟨hc,b,T,rfl,rfl⟩:=ho
 refine⟨d,L,Vs.refl d L,?_⟩
 simp only[gop,gi,maxLen]
 refine⟨_,c.length,N,xa,news.length,xc,news.map As,ex,ey,hl,CS news,hx0,hxc,by omega,by omega,fun hle=>.inr ⟨i,b,0,T,_,Z,hi,?_,d,_,Vs.refl _ _,?_⟩,fun hlt=>by omega⟩
 ·simp;omega
 ·have e:patch (c.map As++Acq (N - c.length) (As 0)) (0+c.length*1) (news.map As)=(c++news).map As++Acq (N - (c++news).length) (As 0):=by
   simp only[patch,Aee,Afd,Adq,Adl,Ace,Aci];rw[Aep (by simp),Ady (by simp)];congr 2;rw[Ahj,Afe (by simp),Adr,Adq,List.drop_replicate];congr 1;omega
  rw[e]
  refine k _ _ ⟨by simp;omega,b,T,?_,Z⟩
  simp
def Hz{by_:Nat}{z x y}(i:Nat){N:Nat}{v c news h}{bt:Nat}{Tt vs}(ex:ev ρ x=v)(hi:L[i]?=some h)(ho:Eh N v c h)
  {n':Nat}(ey:ev ρ y=.slice (some ⟨bt,0,none⟩) n' n') (hvs:vs=news.map As) (hn':n'=news.length) (hfit:c.length+news.length≤N) (hN:N≤140737488355328)
  (k:∀v' h',Eh N v' (c++news) h'→gws P pan Qn s Ls (upd ρ t v') d (L.set i h')):gws P pan Qn (.op false ⟨some t,none,.app 1 by_ z x y⟩ s) Ls ρ d (bx bt Tt vs::L):=by
 subst hvs;subst hn'
 obtain⟨hc,b,T,rfl,rfl⟩:=ho
 refine⟨d,_,Vs.refl d _,?_⟩
 simp only[gop,gi,maxLen]
 have hrd:RdX d (Ls++(bx bt Tt (news.map As)::L)++(bx bt Tt (news.map As)::L)) (.slice (some ⟨bt,0,none⟩) news.length news.length) news.length 1 (news.map As):=
  RdX.lit (T:=Tt) (Ls.length) (by rw[Ace,List.getElem?_append_right (Acj _)];simp) (by simp)
 obtain⟨xa,xc,e,hl,hx0,hxc⟩:=hrd
 cases e
 refine⟨_,c.length,N,_,news.length,_,news.map As,ex,ey,hl,CS news,hx0,hxc,by omega,by omega,fun hle=>.inr ⟨i+1,b,0,T,_,Z,by simpa using hi,?_,d,L.set i (bx b T ((c++news).map As++Acq (N - (c++news).length) (As 0))),?_,?_⟩,fun hlt=>by omega⟩
 ·simp;omega
 ·have e:patch (c.map As++Acq (N - c.length) (As 0)) (0+c.length*1) (news.map As)=(c++news).map As++Acq (N - (c++news).length) (As 0):=by
   simp only[patch,Aee,Afd,Adq,Adl,Ace,Aci];rw[Aep (by simp),Ady (by simp)];congr 2;rw[Ahj,Afe (by simp),Adr,Adq,List.drop_replicate];congr 1;omega
  rw[e,List.set_cons_succ]
  exact Vs.drop (Ade _ _)
 ·refine k _ _ ⟨by simp;omega,b,T,?_,Z⟩
  simp
def YX{x}{sz b o n c l h m:Nat}{lo hi mx:Option Operand}(ex:ev ρ x=.slice (some ⟨b,o,none⟩) n c)(hc:Gy n c (lo.map (ev ρ)) (hi.map (ev ρ)) (mx.map (ev ρ))=some (l,h,m))(hml:m≠l)
  (k:gws P pan Qn s Ls (upd ρ t (.slice (some ⟨b,o+l*sz,none⟩) (h - l) (m - l))) d L):gws P pan Qn (.op tk ⟨some t,none,.sl sz x lo hi mx⟩ s) Ls ρ d L:=
 w_q Z ⟨_,n,c,l,h,m,ex,fun _ a' ha=>by cases ha;rfl,hc,by rw[if_neg hml];rfl⟩ k
def UB(a:Int):Value.int .u8 (IntKind.u8.wrap a)=As (UInt8.ofNat (a % 256).toNat):=by
 have h0:0≤a % 256:=Int.emod_nonneg a (by omega);have h1:a % 256<256:=Int.emod_lt_of_pos a (by omega);have h2:(a % 256).toNat<256:=by omega
 simp only[As,IntKind.wrap,IntKind.signed,IntKind.bits,Value.int.injEq,true_and];simp[Afh h2];omega
def Ed{x j}{a:Int}(ex:ev ρ x=.int j a)(h:gws P pan Qn s Ls (upd ρ t (As (UInt8.ofNat (a % 256).toNat))) d L):gws P pan Qn (.op tk ⟨some t,none,.cvi .u8 x⟩ s) Ls ρ d L:=
 U0 ex (by rw[UB];exact h)
def IY{x k k'}{a:Int}{y}(ex:ev ρ x=.int k a)(ey:ev ρ y=.int k' 8)(hk:8≤k.bits)(h:gws P pan Qn s Ls (upd ρ t (.int k (a / 256))) d L):
  gws P pan Qn (.op tk ⟨some t,none,.bin .shr x y⟩ s) Ls ρ d L:=by
 refine C3 ?_ h
 rw[ex,ey]
 have:min (Int.toNat 8) k.bits=8:=by simp;omega
 simp only[CL,this]
 rw[if_neg (by omega)]
 simp[Int.fdiv_eq_ediv_of_nonneg]
end
end
end Go.Gk
end
