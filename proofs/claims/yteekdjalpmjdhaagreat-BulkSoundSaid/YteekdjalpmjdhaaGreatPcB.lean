/-
  Our own texts, one behind the other: Gk6 Gk7 GkSr Gk8 Gk9 Gk10 Gk11 Gk32 Gk33 Gk34 Gk35 Gk36 Gk37 Gk38 Gk12.
-/
import Derived.Deep.LoopGhost
import Derived.ProofKit
import Derived.OpenShut
import Derived.JoinedCond
import Derived.SizedLaws
import Derived.OrdersIn
import Derived.RangeFuncCalls
import Derived.RangeFuncLeaves
import Derived.RangeFuncRecord
import Derived.Sort.LoopGhostIn
import Derived.Conc.LoneSelect
import Derived.Test.YteekdjalpmjdhaaGreatPcA
set_option linter.defProp false
set_option linter.unusedVariables false
set_option linter.unusedSimpArgs false
open List.Sublist renaming cons_cons→Ahj
open Bool renaming and_eq_true→Afb,false_eq_true→Afh,or_eq_true→Agl,not_eq_true'→Ahu,not_eq_true→Ahx,true_and→Ais,not_eq_false'→Aiv,false_or→Akc
open List renaming getElem?_eq_getElem→Afc,append_assoc→Afg,perm_append_comm→Afi,mem_append→Afj,length_append→Afk,eq_nil_of_length_eq_zero→Afl,length_drop→Afo,getElem?_eq_some_iff→Afp,mem_cons_of_mem→Afr,all_eq_true→Afs,length_take→Aft,replicate→Afu,mem_cons→Afv,drop_eq_getElem_cons→Afy,mem_singleton→Afz,mem_append_left→Aga,mem_append_right→Agc,sublist_cons_self→Age,range→Agf,nil_append→Agh,perm_middle→Agi,append_nil→Agj,getElem?_eq_none→Ago,nil_sublist→Agp,take_of_length_le→Agt,length_map→Agu,sublist_append_right→Agv,perm_append_comm_assoc→Agw,cons_append→Agy,getElem?_take_of_lt→Ahc,map_append→Ahk,mem_of_getElem?→Ahr,getElem?_map→Ahs,take_append_of_le_length→Ahy,drop_of_length_le→Aia,mem_range→Aik,append_cancel_right→Aiu,getD→Aix,toArray→Ajb,mem_map→Ajc,take_left→Ajr,mapM_cons→Akf,drop_append→Aki,all_cons→Akp
open Nat renaming le_refl→Afe,zero_le→Agd,mul_le_mul_right→Agr,zero_add→Ahg,mul_one→Aho,le_trans→Ahq,add_mul→Aht,mod_eq_of_lt→Ain,le_of_not_lt→Ajp,eq_of_beq_eq_true→Ajy
open List.Perm renaming cons→Afm,swap→Afx
open Option renaming bind_eq_some_iff→Agm,map_eq_some_iff→Agn,bind_some→Ahd,map_some→Aij
section
namespace Go.Gk
open Go
variable{v:Value}{d:Aa}{T:TypeId}{x c y:Operand}{k:IntKind}{a b:Int}{i:GI}{p:Prop}{α:Type}
section
def Ok.le{d d':Aa}{hs:List Aa}{W:World}(x:Ok (d::hs) W)(h:Le d' d):Ok (d'::hs) W:=by
 rw[Ok.EU] at*;exact⟨x.1.le h,fun k hk=>(x.2.1 k hk).le h,x.2.2⟩
def lift(n:Nat)(ds:List Deferred)(F:List Aa)(W0:World)(d0:Aa)(Q:Co):Exit→Act→World→Prop
 |.normal,a,W=>∃ρ d L,a=act n ρ ds∧Ok (d::(L++F)) W∧Le d0 d∧AL W0 W∧Q.n ρ d L
 |.exit i,a,W=>∃ρ d L,a=act n ρ ds∧Ok (d::(L++F)) W∧Le d0 d∧AL W0 W∧Q.ex i ρ d L
 |.ret,a,W=>∃ρ d L,a=act n ρ ds∧Ok (d::(L++F)) W∧Le d0 d∧AL W0 W∧Q.ret ρ d L
 |.panic c,a,W=>a.defers=ds∧∃d L,Ok (d::(L++F)) W∧Le d0 d∧AL W0 W∧Q.pan c d L
 |_,_,_=>False
def HE{P:Program}{n:Nat}{ops:Array Oper}{o:Oper}{g:GOp}(h:HS P n ops o=some g):
  (∀x∈o.op.operands,Et n x=true)∧(∀t,o.dst=some t→t<n)∧(∀cs b,o.op≠.select cs b)∧Ov P o=some g.i∧g.dst=o.dst∧
  ((o.guard=none∧g.guard=none)∨∃j want t,o.guard=some (j,want)∧(ops[j]?).bind (·.dst)=some t∧t<n∧g.guard=some (t,want)):=by
 unfold HS at h
 split at h
 ·rename_i hc
  simp only[Afb] at hc
  obtain⟨⟨h1,h2⟩,h3⟩:=hc
  have h1':∀x∈o.op.operands,Et n x=true:=by
   intro x hx;exact(Afs.1 h1) x (by simpa using hx)
  have h2':∀t,o.dst=some t→t<n:=by
   intro t ht;rw[ht] at h2;simpa [SM] using h2
  have h3':∀cs b,o.op≠.select cs b:=by
   intro cs b e;rw[e] at h3;simp[Abx] at h3
  split at h
  ·cases h
  ·rename_i i hi
   split at h
   ·rename_i hg;cases h;exact⟨h1',h2',h3',hi,Z,.inl ⟨hg,Z⟩⟩
   ·rename_i j want hg
    split at h
    ·rename_i t ht
     split at h
     ·rename_i htn;cases h;exact⟨h1',h2',h3',hi,Z,.inr ⟨j,want,t,hg,ht,htn,Z⟩⟩
     ·cases h
    ·cases h
 ·cases h
def Hu{n:Nat}{ρ ds ops}{o:Oper}{j t:Nat}{want b:Bool}(hg:o.guard=some (j,want))(ht:(ops[j]?).bind (·.dst)=some t)(htn:t<n)
  (hb:ρ t=.bool b):Region.wanted o (yielded ops (act n ρ ds).tmps)=(b==want):=by
 have:yielded ops (act n ρ ds).tmps j=some b:=by
  unfold yielded;have h2:(act n ρ ds).tmps[t]?=some (.bool b):=by simp[act,htn,hb]
  simp only[ht,Ahd,h2]
 simp[Region.wanted,hg,this]
def Ju{n:Nat}{ρ:Env}{ds:List Deferred}{ops:Array Oper}{o:Oper}{j t:Nat}{want:Bool}(hg:o.guard=some (j,want))(ht:(ops[j]?).bind (·.dst)=some t)(htn:t<n)
  (hb:ρ t=undef):Region.wanted o (yielded ops (act n ρ ds).tmps)=false:=by
 have:yielded ops (act n ρ ds).tmps j=none:=by
  unfold yielded;have h2:(act n ρ ds).tmps[t]?=some undef:=by simp[act,htn,hb]
  simp only[ht,Ahd,h2,undef]
 simp[Region.wanted,hg,this]
def Ie{P:Program}{n:Nat}{ds:List Deferred}{ops:Array Oper}{i:Nat}{o:Oper}{g:GOp}(hi:ops[i]?=some o)(hd:HS P n ops o=some g)
  {pan:List PanicEntry→AP}{ρ:Env}{d:Aa}{Lk L F:List Aa}{K:Env→AP}{W:World}(hOk:Ok (d::(L++F)) W) (hl:∀k∈Lk,Sub k W) (hB:∀B,Lk=B++L→∃F',F.Perm (B++F'))
  (h:gop P pan g ρ d Lk L K) {Q:Exit→Act→World→Prop}{nxt:Act→World→Prop}
  (hK:∀ρ' d' L' W',Ok (d'::(L'++F)) W'→Le d d'→AL W W'→K ρ' d' L'→nxt (act n ρ' ds) W')
  (hP:∀c d' L' W',Ok (d'::(L'++F)) W'→Le d d'→AL W W'→pan c d' L'→Q (.panic c) (act n ρ ds) W'):wpOp P ops Q i nxt (act n ρ ds) W:=by
 obtain⟨hop,hdst,_,hdi,hgd,hgu⟩:=HE hd
 unfold wpOp
 simp only[hi]
 have run:gi P pan ρ d Lk L (fun v d' L'=>K (put ρ g.dst v) d' L') g.i→o.wp P (act n ρ ds) W nxt Q:=by
  intro h';refine ZI hdi hop hOk hl hB h' ?_ hP;intro v d' L' W' h1 h2 h3 h4;rw[FH hdst,←hgd];exact hK _ _ _ _ h1 h2 h3 h4
 rcases hgu with ⟨hg,hg'⟩|⟨j,want,t,hg,ht,htn,hg'⟩
 ·have:Region.wanted o (yielded ops (act n ρ ds).tmps)=true:=by simp[Region.wanted,hg]
  simp only[this,if_true]
  simp only[gop,hg'] at h
  exact .inl (run h)
 ·simp only[gop,hg'] at h
  rcases h with ⟨b,hb,h1,h2⟩|⟨hb,h2⟩
  case inr=>
   rw[Ju hg ht htn hb]
   simp only[Afh,if_false]
   rw[FH hdst,←hgd]
   exact hK _ _ _ _ hOk (Le.refl d) (AL.refl W) h2
  rw[Hu hg ht htn hb]
  by_cases e:b=want
  ·subst e
   simp only[beq_self_eq_true,if_true]
   exact .inl (run (h1 Z))
  ·have e':(b==want)=false:=by simpa using e
   simp only[e',Afh,if_false]
   rw[FH hdst,←hgd]
   exact hK _ _ _ _ hOk (Le.refl d) (AL.refl W) (h2 (by cases b<;>cases want<;>simp_all))
def E5{P:Program}{n:Nat}{ds:List Deferred}{ops:Array Oper}{Q:Co}{F:List Aa}{W0:World}{d0:Aa}:∀(l:List Nat) (s:GS),CQ P n ops (Eg l)=some s→
  ∀(ρ:Env) (d:Aa) (L:List Aa) (W:World),gws P Q.pan Q.n s [] ρ d L→Ok (d::(L++F)) W→Le d0 d→AL W0 W→wpOps P ops (lift n ds F W0 d0 Q) l (act n ρ ds) W
 |[],s,hs,ρ,d,L,W,h,hOk,hle,hk=>by
  simp[Eg,CQ] at hs;subst hs;obtain⟨d1,L1,hv,hq⟩:=h;exact⟨ρ,d1,L1,Z,hv.2 F W (by simpa using hOk),hle.trans hv.1,hk,hq⟩
 |i::l,s,hs,ρ,d,L,W,h,hOk,hle,hk=>by
  simp only[Eg,CQ] at hs;split at hs<;>try cases hs
  rename_i g s' hg hs';rw[Agm] at hg;obtain⟨o,ho,hd⟩:=hg;obtain⟨d1,L1,hv,h⟩:=h;rw[wpOps_cons];have hOk1:=hv.2 F W hOk;refine Ie ho hd hOk1 (fun k hk=>hOk1.2 k (by simp at hk;simp[hk])) (fun B hB=>⟨F,by rw[←Aiu hB];exact List.Perm.refl _⟩) h ?_ ?_
  ·intro ρ' d' L' W' h1 h2 h3 ⟨d2,L2,hv2,h4⟩;exact E5 l s' hs' ρ' d2 L2 W' h4 (hv2.2 F W' h1) (hle.trans ((hv.1.trans h2).trans hv2.1)) (hk.trans h3)
  ·intro c d' L' W' h1 h2 h3 h4;exact⟨Z,d',L',h1,hle.trans (hv.1.trans h2),hk.trans h3,h4⟩
section
variable {P:Program}{ops:Array Oper}{Q:Exit→Act→World→Prop}
def Closed(ops:Array Oper)(listed:Array Bool):Prop:=∀(j:Nat) (oj:Oper),ops[j]?=some oj→listed.getD j false=true→∀e∈oj.after,Region.binds .any e=true→listed.getD e.on false=true
def Closed.set{listed}(h:Closed ops listed){i:Nat}(hi:i∈Region.ready .any ops listed):Closed ops (listed.setIfInBounds i true):=by
 intro j oj hj hl e he hb;by_cases hij:i=j
 ·subst hij;obtain⟨-,o,ho,hall⟩:=mem_ready.1 hi;rw[hj] at ho;cases ho;exact getD_set_true (hall e he hb)
 ·rw[getD_set_ne false hij] at hl;exact getD_set_true (h j oj hj hl e he hb)
def R8{j x:Nat}(h:x∈NQ ops j):∃oj,ops[j]?=some oj∧∃e∈oj.after,Region.binds .any e=true∧e.on=x:=by
 unfold NQ at h;cases ho:ops[j]? with
 |none=>rw[ho] at h;simp at h
 |some o=>
  rw[ho] at h
  simp only[Aij,Option.getD_some,Ajc,List.mem_filter] at h
  obtain⟨e,⟨h1,h2⟩,h3⟩:=h
  exact⟨o,Z,e,by simpa using h1,h2,h3⟩
def LO{listed:Array Bool}(hc:Closed ops listed):∀(l m:List Nat),(∀x∈m,listed.getD x false=true)→∀x∈Ta ops l m,listed.getD x false=true
 |[],m,h=>h
 |i::l,m,h=>by
  refine LO hc l _ (fun x hx=>?_);split at hx
  ·rename_i hm;rcases Afj.1 hx with hx|hx
   ·obtain⟨oj,h1,e,h2,h3,rfl⟩:=R8 hx;exact hc i oj h1 (h i (by simpa using hm)) e h2 h3
   ·exact h x hx
  ·exact h x hx
def Sh{bs:List Bool}(h:I3 ops bs=true){listed:Array Bool}(hc:Closed ops listed){i j:Nat}{oi oj:Oper}(hi:ops[i]?=some oi)(hj:ops[j]?=some oj)(bj:bs.getD j false=true)(bi:bs.getD i false=false)
  (hall:∀e∈oj.after,Region.binds .any e=true→listed.getD e.on false=true):listed.getD i false=true:=by
 have hil:=(Array.getElem?_eq_some_iff.1 hi).1
 have hjl:=(Array.getElem?_eq_some_iff.1 hj).1
 simp only[I3,Agl] at h
 rcases h with h|h
 ·simp only[Rc,Afs,Aik,Agl] at h
  have h1:=h j hjl
  rw[bj] at h1
  rcases h1 with h1|h1
  ·cases h1
  ·rcases h1 i hil with h2|h2
   ·rw[bi] at h2;cases h2
   ·rw[hj] at h2
    simp only[Option.any_some,waits] at h2
    obtain⟨e,he,hb⟩:=Array.any_eq_true'.1 h2
    simp only[Afb,beq_iff_eq] at hb
    have:=hall e he hb.1
    rwa [hb.2] at this
 ·simp only[Afs,Aik,Agl,Abw] at h
  have h1:=h j hjl
  rw[bj] at h1
  rcases h1 with h1|h1
  ·cases h1
  ·rcases h1 i hil with h2|h2
   ·rw[bi] at h2;cases h2
   ·refine LO hc _ _ (fun x hx=>?_) i (by simpa [cover] using h2)
    obtain⟨o,ho,e,he,hb,rfl⟩:=R8 hx
    rw[hj] at ho;cases ho
    exact hall e he hb
def Dc(P:Program)(ops:Array Oper)(Q:Exit→Act→World→Prop)(S:Bool→World→Prop)(bs:List Bool):Nat→Array Bool→Act→World→Prop
 |0,listed,a,w=>Closed ops listed→Region.ready .any ops listed=[]∧Q .normal a w
 |k+1,listed,a,w=>Closed ops listed→(Region.ready .any ops listed=[]→Q .normal a w)∧
  ∀i∈Region.ready .any ops listed,wpOp P ops Q i (fun a' w'=>S (bs.getD i false) w'∧Dc P ops Q S bs k (listed.setIfInBounds i true) a' w') a w
def Dc.any{S:Bool→World→Prop}{bs:List Bool}:∀(k:Nat) (listed:Array Bool) (a:Act) (w:World),Closed ops listed→Dc P ops Q S bs k listed a w→wpAny P .any ops Q k listed a w
 |0,_,_,_,c,h=>h c
 |k+1,_,_,_,c,h=>⟨(h c).1,fun i hi=>wpOp_mono (fun a' w' h'=>Dc.any k _ a' w' (c.set hi) h'.2) ((h c).2 i hi)⟩
def Dc.mono{S S':Bool→World→Prop}{bs:List Bool}(hs:∀b w,S' b w→S b w):∀(k:Nat) (listed:Array Bool) (a:Act) (w:World),Dc P ops Q S' bs k listed a w→Dc P ops Q S bs k listed a w
 |0,_,_,_,h=>h
 |k+1,_,_,_,h=>fun c=>⟨(h c).1,fun i hi=>wpOp_mono (fun a' w' h'=>⟨hs _ _ h'.1,Dc.mono hs k _ a' w' h'.2⟩) ((h c).2 i hi)⟩
def Dc.done{S:Bool→World→Prop}{bs:List Bool}{listed}{a:Act}{w}(hr:Region.ready .any ops listed=[])(h:Q .normal a w):∀k,Dc P ops Q S bs k listed a w
 |0=>fun _=>⟨hr,h⟩
 |_+1=>fun _=>⟨fun _=>h,by rw[hr];simp⟩
def Dc.first{S:Bool→World→Prop}{bs:List Bool}{i:Nat}{oi:Oper}(hi:ops[i]?=some oi)(hsel:∀(j:Nat) (o:Oper) cs b,ops[j]?=some o→o.op≠.select cs b)
  (hQ:∀c a w,Q (.panic c) (a.put oi.dst v) w→Q (.panic c) a w) (hlast:I3 ops bs=true) (hS:∀w,S false w→S true w):
  ∀(k:Nat) (listed:Array Bool) (a:Act) (w:World),
   (∀j oj,ops[j]?=some oj→j≠i→listed.getD j true=false→(∀e∈oj.after,Region.binds .any e=true→e.on≠i)→oi.apart ops oj=true)→
   i∈Region.ready .any ops listed→YieldsIf P ops (S (bs.getD i false)) oi v a→S (bs.getD i false) w→
   Dc P ops Q S bs k (listed.setIfInBounds i true) (a.put oi.dst v) w→Dc P ops Q S bs (k+1) listed a w:=by
 intro k
 induction k with
 |zero=>
  intro listed a w _ hr hy hSw H hc
  refine⟨fun h=>(by rw[h] at hr;cases hr),fun j hj=>?_⟩
  by_cases hji:j=i
  ·subst hji;exact hy.wpOp hi hSw ⟨hSw,H⟩
  ·have:=ready_mono hj hji
   rw[(H (hc.set hr)).1] at this
   cases this
 |succ k ih=>
  intro listed a w hfree hr hy hSw H hc
  refine⟨fun h=>(by rw[h] at hr;cases hr),fun j hj=>?_⟩
  by_cases hji:j=i
  ·subst hji;exact hy.wpOp hi hSw ⟨hSw,H⟩
  ·have h1:=(H (hc.set hr)).2 j (ready_mono hj hji)
   obtain⟨hjun,oj,hoj,hall⟩:=mem_ready.1 hj
   have hnot:∀e∈oj.after,Region.binds .any e=true→e.on≠i:=fun e he hb heq=>by
    have h1:=hall e he hb;have h0:=(mem_ready.1 hr).1;rw[heq] at h1;rcases Nat.lt_or_ge i listed.size with h'|h'
    ·simp[h'] at h0 h1;rw[h0] at h1;cases h1
    ·simp[Array.getElem?_eq_none h'] at h1
   have hSj:∀w',S (bs.getD j false) w'→S (bs.getD i false) w':=by
    intro w' hw';cases bi:bs.getD i false with
    |true=>cases bj:bs.getD j false with
     |true=>rw[bj] at hw';exact hw'
     |false=>rw[bj] at hw';exact hS _ hw'
    |false=>cases bj:bs.getD j false with
     |false=>rw[bj] at hw';exact hw'
     |true=>
      have h1:=Sh hlast hc hi hoj bj bi hall
      have h0:=(mem_ready.1 hr).1
      rcases Nat.lt_or_ge i listed.size with h'|h'
      ·simp[h'] at h0 h1;rw[h0] at h1;cases h1
      ·simp[Array.getElem?_eq_none h'] at h1
   have h2:=wpOp_putIf hoj (hfree j oj hoj hji hjun hnot) (fun cs b=>hsel i oi cs b hi) (fun cs b=>hsel j oj cs b hoj) hQ hy h1
   have hfree':∀k ok,ops[k]?=some ok→k≠i→(listed.setIfInBounds j true).getD k true=false→
     (∀e∈ok.after,Region.binds .any e=true→e.on≠i)→oi.apart ops ok=true:=fun k ok hk hki hun hno=>by
    refine hfree k ok hk hki ?_ hno
    by_cases hjk:j=k
    ·subst hjk;exact hjun
    ·rw[getD_set_ne true hjk] at hun;exact hun
   refine wpOp_mono (fun a' w' h3=>⟨h3.2.1,ih (listed.setIfInBounds j true) a' w' hfree' (ready_mono hr (Ne.symm hji)) h3.1 (hSj _ h3.2.1) ?_⟩) h2
   rw[Array.setIfInBounds_comm _ _ hji]
   exact h3.2.2
end
def St(past:Bool)(d:Aa)(Ls F:List Aa)(b:Bool)(w:World):Prop:=Ok (d::F) w∧(b=false→past=false∧Ok (d::(Ls++F)) w)
def St.le{past:Bool}{d' Ls F}{b:Bool}{w}(h:St past d Ls F b w)(hl:Le d' d):St past d' Ls F b w:=
 ⟨h.1.le hl,fun e=>⟨(h.2 e).1,(h.2 e).2.le hl⟩⟩
def IT(l:Array Bool)(i j:Nat):(l.setIfInBounds i true)[j]?=if i=j then(l[j]?).map (fun _=>true) else l[j]?:=by
 rw[Array.getElem?_setIfInBounds];by_cases e:i=j
 ·subst e;rw[if_pos Z,if_pos Z];rcases Nat.lt_or_ge i l.size with h|h
  ·rw[if_pos h];simp[h]
  ·rw[if_neg (by omega)];simp[h]
 ·rw[if_neg e,if_neg e]
def Cx:∀(xs:List Nat) (l:Array Bool) (j:Nat),(marked l xs)[j]?=if j∈xs then(l[j]?).map (fun _=>true) else l[j]?
 |[],l,j=>by simp[marked]
 |x::xs,l,j=>by
  have:=Cx xs (l.setIfInBounds x true) j;show(marked (l.setIfInBounds x true) xs)[j]?=_;rw[this,IT];by_cases h1:j∈xs<;>by_cases h2:x=j<;>simp[h1,h2,eq_comm]
def DS(xs:List Nat)(l:Array Bool)(i:Nat):marked (l.setIfInBounds i true) xs=(marked l xs).setIfInBounds i true:=by
 apply Array.ext_getElem?;intro j;rw[IT,Cx,Cx,IT];by_cases h1:j∈xs<;>by_cases h2:i=j<;>simp[h1,h2]
def En{xs:List Nat}{i:Nat}(h:i∈xs)(l:Array Bool):marked (l.setIfInBounds i true) xs=marked l xs:=by
 apply Array.ext_getElem?;intro j;rw[Cx,Cx,IT];by_cases h2:i=j
 ·subst h2;rw[if_pos h,if_pos h,if_pos Z];cases l[i]?<;>simp
 ·rw[if_neg h2]
def Dd{l:Array Bool}{i:Nat}:l.getD i true=false↔l[i]?=some false:=by
 rw[Array.getD_eq_getD_getElem?];cases l[i]?<;>simp
def PO{l:Array Bool}{i:Nat}:l.getD i false=true↔l[i]?=some true:=by
 rw[Array.getD_eq_getD_getElem?];cases l[i]?<;>simp
def FO{ops:Array Oper}{bs:List Bool}{la lb:List Nat}(h:IJ ops bs la lb=true):(∀i∈la,bs.getD i false=false)∧(∀i∈lb,bs.getD i false=false)∧(∀i∈la,i∉lb)∧
  (∀i∈la,∀o,ops[i]?=some o→∀e∈o.after,Region.binds .any e=true→e.on∉lb)∧(∀i∈lb,∀o,ops[i]?=some o→∀e∈o.after,Region.binds .any e=true→e.on∉la):=by
 simp only[IJ,Afb,Afs,Ahu,decide_eq_true_eq] at h
 obtain⟨⟨⟨h1,h2⟩,h3⟩,h4⟩:=h
 have key:∀{la lb:List Nat},(∀i∈la,(ops[i]?.all fun o=>lb.all fun j=> !waits o j)=true)→∀i∈la,∀o,ops[i]?=some o→∀e∈o.after,Region.binds .any e=true→e.on∉lb:=by
  intro la lb h i hi o ho e he hb hm;have h5:=h i hi;rw[ho] at h5;simp only[Option.all_some,Afs,Ahu] at h5;have h6:=h5 e.on hm;have:waits o e.on=true:=by
   unfold waits;rw[Array.any_eq_true'];exact⟨e,he,by simp[hb]⟩
  rw[this] at h6;cases h6
 exact⟨fun i hi=>(h1 i (by simp[hi])).1,fun i hi=>(h1 i (by simp[hi])).1,fun i hi hm=>by have:=h2 i hi;simp[hm] at this,key h3,key h4⟩
def Off.trans{X:List Nat}{a b c}(h:Off X a b)(k:Off X b c):Off X a c:=fun t ht=>(k t ht).trans (h t ht)
def Off.H8{X:List Nat}{ρ}{dst:Option Nat}(h:∀t,dst=some t→t∈X)(v:Value):Off X ρ (Gk.put ρ dst v):=by
 cases dst with
 |none=>exact fun _ _=>Z
 |some d=>
  intro t ht
  show upd ρ d v t=ρ t
  unfold upd
  cases e:Nat.beq t d with
  |true=>rw[Ajy e] at ht;exact absurd (h d Z) ht
  |false=>rfl
def EE(A B X:List Aa):(A++(B++X)).Perm (B++(A++X)):=by
 rw[←Afg,←Afg];exact(Afi).append_right X
def Vs.front{d1 L L1}(Ls:List Aa)(h:Vs d L d1 L1):Vs d (Ls++L) d1 (Ls++L1):=
 ⟨h.1,fun F W x=>(h.2 (Ls++F) W (x.perm (Afm d (by rw[Afg];exact Gk.EE Ls L F)))).perm (Afm d1 (by rw[Afg];exact Gk.EE L1 Ls F))⟩
def Vs.behind{d1 L L1}(M:List Aa)(h:Vs d L d1 L1):Vs d (L++M) d1 (L1++M):=
 ⟨h.1,fun F W x=>by rw[Afg];exact h.2 (M++F) W (by rw[←Afg];exact x)⟩
def Vs.two{e1 e2 Ls L1 L2 M1 M2}(h1:Vs d (Ls++L1) e1 (Ls++M1))(h2:Vs d (Ls++L2) e2 (Ls++M2)):Vs d (Ls++(L1++L2)) (Gk.join e2 e1) (Ls++(M1++M2)):=by
 refine⟨h1.1.trans (Le.Bc _ _),fun F W x=>?_⟩
 have x1:Ok (d::((Ls++L1)++(L2++F))) W:=by simpa [Afg] using x
 have x2:=h1.2 (L2++F) W x1;have x3:Ok (e1::((Ls++L2)++(M1++F))) W:=x2.perm (Afm e1 (by
  rw[Afg,Afg];exact(Gk.EE M1 L2 F).append_left Ls))
 have x4:=(h2.up h1.1).2 (M1++F) W x3;exact x4.perm (Afm _ (by
  rw[Afg,Afg,Afg];exact(Gk.EE M2 M1 F).append_left Ls))
section
variable {ops:Array Oper}
def Pt{l:Array Bool}(xs:List Nat)(i:Nat)(hx:i∉xs)(hi:i∈Region.ready .any ops l):i∈Region.ready .any ops (marked l xs):=by
 obtain⟨e1,o,e2,e3⟩:=mem_ready.1 hi;refine mem_ready.2 ⟨?_,o,e2,fun e he hb=>?_⟩
 ·rw[Dd] at e1⊢;rw[Cx,if_neg hx];exact e1
 ·have:=e3 e he hb;rw[PO] at this⊢;rw[Cx,this];split<;>rfl
def GF{l}{xs ys:List Nat}(hd:∀i∈xs,i∉ys)(hw:∀i∈xs,∀o,ops[i]?=some o→∀e∈o.after,Region.binds .any e=true→e.on∉ys){i:Nat}(hx:i∈xs)(hi:i∈Region.ready .any ops (marked l ys)):i∈Region.ready .any ops l:=by
 obtain⟨e1,o,e2,e3⟩:=mem_ready.1 hi;refine mem_ready.2 ⟨?_,o,e2,fun e he hb=>?_⟩
 ·rw[Dd] at e1⊢;rw[Cx,if_neg (hd i hx)] at e1;exact e1
 ·have h3:=e3 e he hb;rw[PO] at h3⊢;rw[Cx,if_neg (hw i hx o e2 e he hb)] at h3;exact h3
def P6(xs:List Nat)(l:Array Bool)(i:Nat)(hi:i∈xs):(marked l xs)[i]?≠some false:=by
 intro h;rw[Cx,if_pos hi] at h;cases e:l[i]?<;>rw[e] at h<;>simp at h
def Kb{l tgt}{xa xb:List Nat}(hdis:∀i∈xa,i∉xb)(ea:marked l xb=tgt)(eb:marked l xa=tgt):l=tgt:=by
 apply Array.ext_getElem?;intro j;by_cases hj:j∈xa
 ·rw[←ea,Cx,if_neg (hdis j hj)]
 ·rw[←eb,Cx,if_neg hj]
def Ry{bs:List Bool}{xa xb ha hb:List Nat}{fa fb:Bool}{l l0 l1 tgt:Array Bool}(hap:IJ ops bs xa xb=true)(ht1:tgt=marked l0 xa)(ht2:tgt=marked l1 xb)
  (ina:∀i∈ha,i∈xa) (inb:∀i∈hb,i∈xb) (ra:fa=false→∀i,i∈Region.ready .any ops (marked l xb)↔i∈ha) (rb:fb=false→∀i,i∈Region.ready .any ops (marked l xa)↔i∈hb)
  (ea:fa=true→marked l xb=tgt) (eb:fb=true→marked l xa=tgt) (na:fa=true→ha=[]) (nb:fb=true→hb=[]) (hne:¬(fa=true∧fb=true)) (i:Nat):i∈Region.ready .any ops l↔i∈ha∨i∈hb:=by
 obtain⟨hb1,hb2,hdis,hw1,hw2⟩:=FO hap
 constructor
 ·intro hi
  by_cases hil:i∈xa
  ·have h3:=Pt xb i (hdis i hil) hi
   cases h:fa with
   |true=>
    have h4:=Dd.1 (mem_ready.1 h3).1
    rw[ea h,ht1] at h4
    exact absurd h4 (P6 xa l0 i hil)
   |false=>exact .inl ((ra h i).1 h3)
  ·have h3:=Pt xa i hil hi
   cases h:fb with
   |true=>
    have h4:=Dd.1 (mem_ready.1 h3).1
    rw[eb h] at h4
    have hilb:i∉xb:=fun hm=>by rw[ht2] at h4;exact P6 xb l1 i hm h4
    have hne':fa=false:=by cases e:fa with|true=>exact absurd ⟨e,h⟩ hne|false=>rfl
    exact absurd (ina i ((ra hne' i).1 (Pt xb i hilb hi))) hil
   |false=>exact .inr ((rb h i).1 h3)
 ·rintro(hi|hi)
  ·have h:fa=false:=by cases e:fa with|true=>rw[na e] at hi;cases hi|false=>rfl
   exact GF hdis hw1 (ina i hi) ((ra h i).2 hi)
  ·have h:fb=false:=by cases e:fb with|true=>rw[nb e] at hi;cases hi|false=>rfl
   exact GF (fun i hi hm=>hdis i hm hi) hw2 (inb i hi) ((rb h i).2 hi)
end
def JO:∀(s:SI),s.fin=true→s.C7=[]:=by
 intro s;induction s with
 |done=>intro _;rfl
 |op tk j s=>intro h;cases h
 |alt j s t=>intro h;cases h
 |bar s=>intro h;cases h
 |par xa xb a b s iha ihb ihs=>
  intro h
  simp only[SI.fin,Afb] at h
  simp only[SI.C7,h.1.1,h.1.2,Bool.and_self,if_true]
  exact ihs h.2
def Se{la lb:List Nat}{a b s:SI}(h:(SI.par la lb a b s).front=none):a.front=none∧b.front=none∧(a.fin=true∧b.fin=true→s.front=none):=by
 simp only[SI.front] at h;cases ha:a.front with
 |some i=>rw[ha] at h;cases h
 |none=>
  rw[ha] at h
  cases hb:b.front with
  |some i=>rw[hb] at h;cases h
  |none=>
   rw[hb] at h
   exact⟨Z,Z,fun⟨h1,h2⟩=>by simpa [h1,h2] using h⟩
section
variable {ops:Array Oper}{q:Nat→Bool}{bs:List Bool}
def YB{la:List Nat}{tgt l lm:Array Bool}{s:SI}(hc:CI ops q bs la tgt false l lm s=true):s.front=none:=by
 cases s with
 |done=>rfl
 |op tk j s=>
  cases tk with
  |true=>simp[CI] at hc
  |false=>rfl
 |alt j s t=>rfl
 |bar s=>rfl
 |par xa xb a b s=>simp[CI] at hc
def Gq:∀(s:SI) {la:List Nat}{tgt l lm:Array Bool}{top:Bool},CI ops q bs la tgt top l lm s=true→∀i∈s.C7,i∈la:=by
 intro s;induction s with
 |done=>intro la tgt l lm top _ i hi;cases hi
 |op tk j s ih=>
  intro la tgt l lm top hc i hi
  simp only[SI.C7,Afz] at hi
  subst hi
  cases tk with
  |true=>simp only[CI,Afb] at hc;simpa using hc.1.2
  |false=>simp only[CI,Afb] at hc;simpa using hc.1.2
 |alt j s t ih1 ih2=>
  intro la tgt l lm top hc i hi
  simp only[CI,Afb] at hc
  rcases Afv.1 hi with rfl|hi
  ·simpa using hc.1.1.2
  ·exact ih2 hc.2 i hi
 |bar s ih=>intro la tgt l lm top hc;cases hc
 |par xa xb a b s iha ihb ihs=>
  intro la tgt l lm top hc i hi
  simp only[CI,Afb,Afs] at hc
  obtain⟨⟨⟨⟨⟨_,hin⟩,_⟩,hca⟩,hcb⟩,hcs⟩:=hc
  simp only[SI.C7] at hi
  split at hi
  ·exact ihs hcs i hi
  ·rcases Afj.1 hi with hi|hi
   ·simpa using hin i (by simp[iha hca i hi])
   ·simpa using hin i (by simp[ihb hcb i hi])
def Fi:∀(s:SI) {la:List Nat}{tgt l lm:Array Bool},CI ops q bs la tgt true l lm s=true→s.fin=true→l=tgt:=by
 intro s;induction s with
 |done=>intro la tgt l lm hc _;simpa [CI] using hc
 |op tk j s=>intro la tgt l lm hc h;cases h
 |alt j s t=>intro la tgt l lm hc h;cases h
 |bar s=>intro la tgt l lm hc h;cases h
 |par xa xb a b s iha ihb ihs=>
  intro la tgt l lm hc h
  simp only[CI,Afb,Afs,beq_iff_eq] at hc
  obtain⟨⟨⟨⟨⟨⟨_,hap⟩,hin⟩,hmm⟩,hca⟩,hcb⟩,hcs⟩:=hc
  simp only[SI.fin,Afb] at h
  exact(Kb (FO hap).2.2.1 (iha hca h.1.1) (ihb hcb h.1.2)).trans (ihs hcs h.2)
def F8:∀(s:SI) {la:List Nat}{tgt l lm:Array Bool},CI ops q bs la tgt true l lm s=true→s.front=none→s.fin=false→(∀i,i∈Region.ready .any ops l↔i∈s.C7)∧s.C7≠[]∧1≤s.steps:=by
 intro s;induction s with
 |done=>intro la tgt l lm hc _ h;cases h
 |op tk j s=>
  intro la tgt l lm hc hf _
  cases tk with
  |true=>cases hf
  |false=>
   simp only[CI,Afb,Bool.not_true,Akc,beq_iff_eq] at hc
   exact⟨fun i=>by rw[hc.1.1];rfl,by simp[SI.C7],by simp only[SI.steps];omega⟩
 |alt j s t=>
  intro la tgt l lm hc _ _
  simp only[CI,Afb,Bool.not_true,Akc,beq_iff_eq] at hc
  exact⟨fun i=>by rw[hc.1.1.1];rfl,by simp[SI.C7],by simp only[SI.steps];omega⟩
 |bar s=>intro la tgt l lm hc;cases hc
 |par xa xb a b s iha ihb ihs=>
  intro la tgt l lm hc hf h
  simp only[CI,Afb,Afs,beq_iff_eq] at hc
  obtain⟨⟨⟨⟨⟨⟨_,hap⟩,hin⟩,hmm⟩,hca⟩,hcb⟩,hcs⟩:=hc
  obtain⟨fa,fb,fs⟩:=Se hf
  by_cases h0:a.fin=true∧b.fin=true
  ·have e:=Kb (FO hap).2.2.1 (Fi a hca h0.1) (Fi b hcb h0.2)
   rw[←e] at hcs
   have hs:s.fin=false:=by simpa [SI.fin,h0.1,h0.2] using h
   obtain⟨h1,h2,h3⟩:=ihs hcs (fs h0) hs
   simp only[SI.C7,h0.1,h0.2,Bool.and_self,if_true,SI.steps]
   exact⟨h1,h2,by omega⟩
  ·have hh:(SI.par xa xb a b s).C7=a.C7++b.C7:=by
    simp only[SI.C7];rw[if_neg (by simpa using h0)]
   rw[hh]
   refine⟨fun i=>?_,?_,?_⟩
   ·rw[Afj]
    exact Ry hap Z hmm (Gq a hca) (Gq b hcb) (fun e=>(iha hca fa e).1) (fun e=>(ihb hcb fb e).1) (Fi a hca) (Fi b hcb) (JO a) (JO b) h0 i
   ·cases ea:a.fin with
    |false=>have:=(iha hca fa ea).2.1;simp[this]
    |true=>cases eb:b.fin with
     |false=>have:=(ihb hcb fb eb).2.1;simp[this]
     |true=>exact absurd ⟨ea,eb⟩ h0
   ·simp only[SI.steps]
    cases ea:a.fin with
    |false=>have:=(iha hca fa ea).2.2;omega
    |true=>cases eb:b.fin with
     |false=>have:=(ihb hcb fb eb).2.2;omega
     |true=>exact absurd ⟨ea,eb⟩ h0
end
def IK{P:Program}{n:Nat}{ops:Array Oper}{Ls:List Aa}:∀(s:SI) {Qn:Env→AP}{g:GS}{ρ:Env}{d:Aa}{L:List Aa},s.fin=true→CQ P n ops s=some g→
  gws P CN Qn g Ls ρ d L→∃d1 L1,Vs d (Ls++L) d1 L1∧Qn ρ d1 L1:=by
 intro s
 induction s with
 |done=>
  intro Qn g ρ d L _ hs h
  simp[CQ] at hs;subst hs
  exact h
 |op tk j s=>intro Qn g ρ d L h;cases h
 |alt j s t=>intro Qn g ρ d L h;cases h
 |bar s=>intro Qn g ρ d L h;cases h
 |par xa xb a b s iha ihb ihs=>
  intro Qn g ρ d L hh hs h
  simp only[SI.fin,Afb] at hh
  simp only[CQ] at hs
  split at hs<;>try cases hs
  rename_i a' b' s' ha hb hs'
  split at hs<;>try cases hs
  obtain⟨Ra,Rb,d1,L1,L2,hv,sa,sb,h1,h2,h3⟩:=h
  obtain⟨e1,N1,v1,M1,rfl,r1⟩:=iha hh.1.1 ha h1
  obtain⟨e2,N2,v2,M2,rfl,r2⟩:=ihb hh.1.2 hb h2
  have v3:=Vs.two v1 v2
  have h4:=h3 ρ (Gk.join e2 e1) M1 M2 v3.1 (fun _ _=>Z) (sa _ _ _ _ _ (fun _ _=>Z) (Le.Bc _ _) r1) (sb _ _ _ _ _ (fun _ _=>Z) (Le.Ar _ _) r2)
  obtain⟨d3,L3,v4,q⟩:=ihs hh.2 hs' h4
  exact⟨d3,L3,((hv.front Ls).trans v3).trans v4,q⟩
def Sb(l l':Array Bool):Prop:=∀j,l'.getD j true=false→l.getD j true=false
theorem Sb.set{l l':Array Bool}(h:Sb l l')(i:Nat):Sb (l.setIfInBounds i true) (l'.setIfInBounds i true):=by
 intro j hj;have h0:=h j;rw[Dd] at hj h0⊢;rw[IT] at hj⊢;split at hj
 ·exfalso;cases e:l'[j]?<;>rw[e] at hj<;>simp at hj
 ·rename_i hne;rw[if_neg hne];exact Dd.1 (h0 hj)
theorem Sb.self(l:Array Bool)(i:Nat):Sb l (l.setIfInBounds i true):=by
 intro j hj;rw[Dd] at hj⊢;rw[IT] at hj;split at hj
 ·exfalso;cases e:l[j]?<;>rw[e] at hj<;>simp at hj
 ·exact hj
def Sb.trans{a b c}(h:Sb a b)(k:Sb b c):Sb a c:=fun j hj=>h j (k j hj)
theorem N9{l lm lx:Array Bool}{la xa xb:List Nat}(hin:∀i∈xa++xb,i∈la)(hsb:Sb lm lx)(hcov:∀x∈la,l.getD x true=true→lx.getD x true=true)(el:l=Gk.marked (Gk.marked l xb) xa):Sb (Gk.marked (Gk.marked lm xb) xa) lx:=by
 have done:∀j,j∈xa++xb→l.getD j true=true:=by
  intro j hj;rw[el];cases e:(Gk.marked (Gk.marked l xb) xa).getD j true with
  |true=>rfl
  |false=>
   rw[Dd,Cx,Cx] at e
   rcases Afj.1 hj with h|h
   ·rw[if_pos h] at e
    split at e<;>cases e2:l[j]?<;>rw[e2] at e<;>simp at e
   ·rw[if_pos h] at e
    split at e<;>cases e2:l[j]?<;>rw[e2] at e<;>simp at e
 intro j hj;have h0:=hsb j hj;have hn:j∉xa++xb:=fun hm=>by rw[hcov j (hin j hm) (done j hm)] at hj;cases hj
 rw[Afj,not_or] at hn;rw[Dd] at h0⊢;rw[Cx,if_neg hn.1,Cx,if_neg hn.2];exact h0
def Sb.marked{l l':Array Bool}(h:Sb l l')(xs:List Nat):Sb (Gk.marked l xs) (Gk.marked l' xs):=by
 intro j hj;have h0:=h j;rw[Dd] at hj h0⊢;rw[Cx] at hj⊢;split at hj
 ·exfalso;cases e:l'[j]?<;>rw[e] at hj<;>simp at hj
 ·rename_i hne;rw[if_neg hne];exact Dd.1 (h0 hj)
def VH{ops l l'}(h:Sb l l'){i:Nat}(hf:Region.free .any ops l i=true):Region.free .any ops l' i=true:=by
 unfold Region.free at hf⊢;split at hf
 ·cases hf
 ·simp only[Afs] at hf⊢;intro j hj;have:=hf j hj;cases e:l'.getD j true with
  |true=>simp
  |false=>rw[h j e] at this;simpa using this
def DZ{ops:Array Oper}{q:Nat→Bool}{bs:List Bool}:∀(s:SI) {la:List Nat}{tgt l lm lm':Array Bool}{top:Bool},Sb lm lm'→CI ops q bs la tgt top l lm s=true→CI ops q bs la tgt top l lm' s=true:=by
 intro s;induction s with
 |done=>intro la tgt l lm lm' top _ h;exact h
 |op tk j s ih=>
  intro la tgt l lm lm' top hs h
  cases tk with
  |true=>
   simp only[CI,Afb] at h⊢
   obtain⟨⟨⟨⟨⟨h1,h2⟩,h3⟩,h4⟩,h5⟩,h6⟩:=h
   exact⟨⟨⟨⟨⟨h1,h2⟩,VH hs h3⟩,h4⟩,h5⟩,ih (hs.set j) h6⟩
  |false=>
   simp only[CI,Afb] at h⊢
   exact⟨h.1,ih (hs.set j) h.2⟩
 |alt j s t ih1 ih2=>
  intro la tgt l lm lm' top hs h
  simp only[CI,Afb] at h⊢
  exact⟨⟨h.1.1,ih1 (hs.set j) h.1.2⟩,ih2 hs h.2⟩
 |bar s ih=>intro la tgt l lm lm' top _ h;cases h
 |par xa xb a b s iha ihb ihs=>
  intro la tgt l lm lm' top hs h
  simp only[CI,Afb] at h⊢
  obtain⟨⟨⟨⟨⟨⟨h1,h2⟩,h3⟩,h4⟩,h5⟩,h6⟩,h7⟩:=h
  exact⟨⟨⟨⟨⟨⟨h1,h2⟩,h3⟩,h4⟩,iha hs h5⟩,ihb hs h6⟩,ihs ((hs.marked xb).marked xa) h7⟩
def X7{P:Program}{ρ:Env}{d:Aa}{Ls L M:List Aa}{K K':Env→AP}{g:GOp}(hq:g.i.quiet=true)(hK:∀v,K (put ρ g.dst v) d L→K' (put ρ g.dst v) d (L++M))(h:gop P CN g ρ d Ls L K):gop P CN g ρ d Ls (L++M) K':=by
 obtain⟨dst,guard,i⟩:=g;have run:gi P CN ρ d Ls L (fun v d' L'=>K (put ρ dst v) d' L') i→gi P CN ρ d Ls (L++M) (fun v d' L'=>K' (put ρ dst v) d' L') i:=fun h=>by
  rw[EV hq] at h⊢;obtain⟨v,h1,h2⟩:=h;exact⟨v,h1,hK v h2⟩
 cases guard with
 |none=>exact run h
 |some p=>
  obtain⟨t,want⟩:=p
  rcases h with ⟨b,hb,h1,h2⟩|⟨hb,h2⟩
  ·exact .inl ⟨b,hb,fun e=>run (h1 e),fun e=>hK _ (h2 e)⟩
  ·exact .inr ⟨hb,hK _ h2⟩
def XY{P:Program}{ρ:Env}{d:Aa}{Ls L M:List Aa}{K K':Env→AP}{g:GOp}(hq:g.i.quiet=true)(hK:∀v,K (put ρ g.dst v) d L→K' (put ρ g.dst v) d (M++L))(h:gop P CN g ρ d Ls L K):gop P CN g ρ d Ls (M++L) K':=by
 obtain⟨dst,guard,i⟩:=g;have run:gi P CN ρ d Ls L (fun v d' L'=>K (put ρ dst v) d' L') i→gi P CN ρ d Ls (M++L) (fun v d' L'=>K' (put ρ dst v) d' L') i:=fun h=>by
  rw[EV hq] at h⊢;obtain⟨v,h1,h2⟩:=h;exact⟨v,h1,hK v h2⟩
 cases guard with
 |none=>exact run h
 |some p=>
  obtain⟨t,want⟩:=p
  rcases h with ⟨b,hb,h1,h2⟩|⟨hb,h2⟩
  ·exact .inl ⟨b,hb,fun e=>run (h1 e),fun e=>hK _ (h2 e)⟩
  ·exact .inr ⟨hb,hK _ h2⟩
def XR{P:Program}{n:Nat}{ops:Array Oper}{q:Nat→Bool}{bs:List Bool}{Ls:List Aa}:∀(s:SI) {la:List Nat}{tgt:Array Bool}{Qn:Env→AP}(top:Bool) (l lm lx:Array Bool) (g:GS) (ρ:Env) (d:Aa) (L:List Aa),Sb lm lx→(∀x∈la,l.getD x true=true→lx.getD x true=true)→s.front=none→CI ops q bs la tgt top l lm s=true→CQ P n ops s=some g→g.plain=true→
  gws P CN Qn g Ls ρ d L→∀i∈s.C7,∃o op gs s',ops[i]?=some o∧HS P n ops o=some op∧CQ P n ops s'=some gs∧CI ops q bs la tgt true (l.setIfInBounds i true) (lx.setIfInBounds i true) s'=true∧s'.steps+1≤s.steps∧gs.plain=true∧(∀t∈gs.rds,t∈g.rds)∧(∀t∈gs.B5,t∈g.B5)∧
   (∀t,op.dst=some t→t∈g.B5)∧∃d1 La M,Vs d (Ls++L) d1 (Ls++(La++M))∧gop P CN op ρ d1 (Ls++La) La (fun ρ' d' L'=>∃d2 L2,Vs d' (L'++M) d2 L2∧gws P CN Qn gs Ls ρ' d2 L2):=by
 intro s
 have one:∀{Qn:Env→AP}{op:GOp}{gs:GS}{ρ:Env}{d:Aa}{L:List Aa},(∃d1 L1,Vs d L d1 L1∧gop P (fun c d' L'=>CN c d' (Ls++L')) op ρ d1 (Ls++L1) L1 (fun ρ' d' L'=>∃d2 L2,Vs d' L' d2 L2∧gws P CN Qn gs Ls ρ' d2 L2))→
   ∃d1 La M,Vs d (Ls++L) d1 (Ls++(La++M))∧gop P CN op ρ d1 (Ls++La) La (fun ρ' d' L'=>∃d2 L2,Vs d' (L'++M) d2 L2∧gws P CN Qn gs Ls ρ' d2 L2):=by
  intro Qn op gs ρ d L ⟨d1,L1,hv,h⟩
  exact⟨d1,L1,[],by rw[Agj];exact hv.front Ls,JV (fun ρ d L h=>by rw[Agj];exact h) h⟩
 induction s with
 |done=>intro la tgt Qn top l lm lx g ρ d L _ _ _ _ _ _ _ i hi;cases hi
 |op tk j s ih=>
  intro la tgt Qn top l lm lx g ρ d L hsb hcov hf hc hs hp h i hi
  simp only[SI.C7,Afz] at hi
  subst hi
  cases tk with
  |true=>cases hf
  |false=>
  simp only[CI,Afb] at hc
  obtain⟨⟨_,hla⟩,hc'⟩:=hc
  simp only[CQ] at hs
  split at hs<;>try cases hs
  rename_i g' s' hg hs'
  rw[Agm] at hg
  obtain⟨o,ho,hd⟩:=hg
  simp only[GS.plain] at hp
  exact⟨o,g',s',s,ho,hd,hs',DZ s (hsb.set i) hc',by simp[SI.steps],hp,fun t ht=>by simp[GS.rds,ht],fun t ht=>by simp[GS.B5,ht],fun t ht=>by simp[GS.B5,ht],one h⟩
 |alt j s t ih1 ih2=>
  intro la tgt Qn top l lm lx g ρ d L hsb hcov hf hc hs hp h i hi
  simp only[CI,Afb] at hc
  obtain⟨⟨⟨_,hla⟩,hc1⟩,hc2⟩:=hc
  simp only[CQ] at hs
  split at hs<;>try cases hs
  rename_i g' s' t' hg hs' ht'
  rw[Agm] at hg
  obtain⟨o,ho,hd⟩:=hg
  simp only[GS.plain,Afb] at hp
  rcases Afv.1 hi with rfl|hi
  ·exact⟨o,g',s',s,ho,hd,hs',DZ s (hsb.set i) hc1,by simp only[SI.steps];omega,hp.1,fun t ht=>by simp[GS.rds,ht],fun t ht=>by simp[GS.B5,ht],fun t ht=>by simp[GS.B5,ht],one h.1⟩
  ·obtain⟨o,op,gs,s'',q1,q2,q3,q4,q5,q6,q7,q8,q9,q10⟩:=ih2 false l lm lx t' ρ d L hsb hcov (YB hc2) hc2 ht' hp.2 h.2 i hi
   exact⟨o,op,gs,s'',q1,q2,q3,q4,by simp only[SI.steps];omega,q6,fun t ht=>by simp[GS.rds,q7 t ht],fun t ht=>by simp[GS.B5,q8 t ht],fun t ht=>by simp[GS.B5,q9 t ht],q10⟩
 |bar s ih=>intro la tgt Qn top l lm lx g ρ d L _ _ _ hc;cases hc
 |par xa xb a b s iha ihb ihs=>
  intro la tgt Qn top l lm lx g ρ d L hsb hcov hf hc hs hp h i hi
  have hcc:=hc
  simp only[CI,Afb,Afs,beq_iff_eq] at hc
  obtain⟨⟨⟨⟨⟨⟨htop,hap⟩,hin⟩,hmm⟩,hca⟩,hcb⟩,hcs⟩:=hc
  subst htop
  have hss:=hs
  simp only[CQ] at hs
  split at hs<;>try cases hs
  rename_i a' b' s' ha hb hs'
  split at hs<;>try cases hs
  rename_i hsep
  simp only[Afb,Afs,Ahu] at hsep
  obtain⟨⟨⟨hpa,hpb⟩,hs1⟩,hs2⟩:=hsep
  simp only[GS.plain,Afb] at hp
  have hs1':∀t∈a'.B5,t∉b'.rds∧t∉b'.B5:=fun t ht=>⟨fun hm=>by have:=(hs1 t ht).1;simp[hm] at this,fun hm=>by have:=(hs1 t ht).2;simp[hm] at this⟩
  have hs2':∀t∈b'.B5,t∉a'.rds:=fun t ht hm=>by have:=hs2 t ht;simp[hm] at this
  obtain⟨hb1,hb2,hdis,hw1,hw2⟩:=FO hap
  obtain⟨ffa,ffb,ffs⟩:=Se hf
  have cov:∀(xs ys:List Nat),(∀x∈xs,x∈xa++xb)→(∀x∈xs,x∉ys)→∀x∈xs,(marked l ys).getD x true=true→lx.getD x true=true:=by
   intro xs ys h1 h2 x hx h3;refine hcov x (by simpa using hin x (h1 x hx)) ?_;cases e:l.getD x true with
   |true=>rfl
   |false=>
    rw[Dd] at e
    have:(marked l ys).getD x true=false:=by rw[Dd,Cx,if_neg (h2 x hx)];exact e
    rw[this] at h3;cases h3
  have cova:=cov xa xb (fun x hx=>by simp[hx]) hdis
  have covb:=cov xb xa (fun x hx=>by simp[hx]) (fun x hx hm=>hdis x hm hx)
  by_cases h0:a.fin=true∧b.fin=true
  ·simp only[SI.C7,h0.1,h0.2,Bool.and_self,if_true] at hi
   obtain⟨Ra,Rb,d1,L1,L2,hv,sa,sb,h1,h2,h3⟩:=h
   obtain⟨e1,N1,v1,M1,rfl,r1⟩:=IK a h0.1 ha h1
   obtain⟨e2,N2,v2,M2,rfl,r2⟩:=IK b h0.2 hb h2
   have v3:=Vs.two v1 v2
   have h4:=h3 ρ (Gk.join e2 e1) M1 M2 v3.1 (fun _ _=>Z) (sa _ _ _ _ _ (fun _ _=>Z) (Le.Bc _ _) r1) (sb _ _ _ _ _ (fun _ _=>Z) (Le.Ar _ _) r2)
   have el:=Kb hdis (Fi a hca h0.1) (Fi b hcb h0.2)
   have hcs:=DZ s (N9 (fun x hx=>by simpa using hin x hx) hsb hcov el) hcs
   rw[←el] at hcs
   obtain⟨o,op,gs,s'',q1,q2,q3,q4,q5,q6,q7,q8,q9,d4,La,M,q10,q11⟩:=ihs true l lx lx s' ρ _ _ (fun _ h=>h) hcov (ffs h0) hcs hs' hp.2 h4 i hi
   exact⟨o,op,gs,s'',q1,q2,q3,q4,by simp only[SI.steps];omega,q6,fun t ht=>by simp[GS.rds,q7 t ht],fun t ht=>by simp[GS.B5,q8 t ht],fun t ht=>by simp[GS.B5,q9 t ht],d4,La,M,((hv.front Ls).trans v3).trans q10,q11⟩
  ·have hh:(SI.par xa xb a b s).C7=a.C7++b.C7:=by
    simp only[SI.C7];rw[if_neg (by simpa using h0)]
   rw[hh] at hi
   obtain⟨Ra,Rb,d1,L1,L2,hv,sa,sb,h1,h2,h3⟩:=h
   rcases Afj.1 hi with hi|hi
   ·have hix:=Gq a hca i hi
    obtain⟨o,op,gs,sn,q1,q2,q3,q4,q5,q6,q7,q8,q9,d4,La,M,q10,q11⟩:=iha true (marked l xb) lm lx a' ρ d1 L1 hsb cova ffa hca ha hp.1.1 h1 i hi
    have e1:marked (marked (l.setIfInBounds i true) xb) xa=marked (marked l xb) xa:=by rw[DS,En hix]
    have e2:marked (l.setIfInBounds i true) xa=marked l xa:=En hix l
    refine⟨o,op,.par gs b' s',.par xa xb sn b s,q1,q2,?_,?_,by simp only[SI.steps];omega,?_,?_,?_,fun t ht=>by simp[GS.B5,q9 t ht],d4,La,M++L2,?_,?_⟩
    ·simp only[CQ,q3,hb,hs']
     rw[if_pos]
     simp only[Afb,Afs,Ahu]
     exact⟨⟨⟨q6,hpb⟩,fun t ht=>hs1 t (q8 t ht)⟩,fun t ht=>by have:=hs2' t ht;simpa using fun hm=>this (q7 t hm)⟩
    ·simp only[CI,Afb,Afs,beq_iff_eq,Ais]
     rw[e1,e2,DS]
     exact⟨⟨⟨⟨⟨hap,hin⟩,hmm⟩,q4⟩,DZ b (hsb.trans (Sb.self lx i)) hcb⟩,DZ s (((hsb.trans (Sb.self lx i)).marked xb).marked xa) hcs⟩
    ·simp only[GS.plain,Afb];exact⟨⟨q6,hpb⟩,hp.2⟩
    ·intro t ht
     simp only[GS.rds,Afj] at ht⊢
     exact ht.imp (q7 t) id
    ·intro t ht
     simp only[GS.B5,Afj] at ht⊢
     exact ht.imp (q8 t) id
    ·have v1:Vs d (Ls++L) d1 (Ls++(L1++L2)):=hv.front Ls
     have v2:Vs d1 ((Ls++L1)++L2) d4 ((Ls++(La++M))++L2):=q10.behind L2
     have:=v1.trans (by rw[←Afg];exact v2)
     simpa [Afg] using this
    ·refine JV ?_ (NF q11)
     intro ρ' d' L' ⟨⟨v,hρ⟩,hle,d5,L5,hv5,h5⟩
     have hoff:Off a'.B5 ρ ρ':=by rw[hρ];exact Off.H8 (fun t ht=>q9 t ht) v
     have hle5:Le d1 d5:=q10.1.trans (hle.trans hv5.1)
     refine⟨d5,L5++L2,by rw[←Afg];exact hv5.behind L2,Ra,Rb,d5,L5,L2,Vs.refl _ _,sa,?_,h5,H2 (Fu sb) b' hpb (fun t ht hm=>(hs1' t hm).1 ht) (fun t ht hm=>(hs1' t hm).2 ht) Ls ρ ρ' d1 d5 L2 hoff hle5 h2,?_⟩
     ·exact fun ρ ρ' d d' L ho hl hr=>sb ρ ρ' d d' L (fun t ht=>ho t fun hm=>ht (q8 t hm)) hl hr
     ·intro ρ2 d6 M1 M2 hl ho r1 r2
      refine h3 ρ2 d6 M1 M2 (hle5.trans hl) (fun t ht=>?_) r1 r2
      rw[Afj,not_or] at ht
      exact(ho t (by rw[Afj,not_or];exact⟨fun hm=>ht.1 (q8 t hm),ht.2⟩)).trans (hoff t ht.1)
   ·have hix:=Gq b hcb i hi
    obtain⟨o,op,gs,sn,q1,q2,q3,q4,q5,q6,q7,q8,q9,d4,La,M,q10,q11⟩:=ihb true (marked l xa) lm lx b' ρ d1 L2 hsb covb ffb hcb hb hp.1.2 h2 i hi
    have e1:marked (marked (l.setIfInBounds i true) xa) xb=marked (marked l xa) xb:=by rw[DS,En hix]
    have e2:marked (l.setIfInBounds i true) xb=marked l xb:=En hix l
    have e3:marked (marked l xb) xa=marked (marked l xa) xb:=hmm
    refine⟨o,op,.par a' gs s',.par xa xb a sn s,q1,q2,?_,?_,by simp only[SI.steps];omega,?_,?_,?_,fun t ht=>by simp[GS.B5,q9 t ht],d4,La,M++L1,?_,?_⟩
    ·simp only[CQ,q3,ha,hs']
     rw[if_pos]
     simp only[Afb,Afs,Ahu]
     exact⟨⟨⟨hpa,q6⟩,fun t ht=>⟨by have:=(hs1' t ht).1;simpa using fun hm=>this (q7 t hm),by have:=(hs1' t ht).2;simpa using fun hm=>this (q8 t hm)⟩⟩,fun t ht=>hs2 t (q8 t ht)⟩
    ·simp only[CI,Afb,Afs,beq_iff_eq,Ais]
     rw[e1,e2,DS]
     exact⟨⟨⟨⟨⟨hap,hin⟩,hmm⟩,DZ a (hsb.trans (Sb.self lx i)) hca⟩,q4⟩,DZ s (((hsb.trans (Sb.self lx i)).marked xb).marked xa) hcs⟩
    ·simp only[GS.plain,Afb];exact⟨⟨hpa,q6⟩,hp.2⟩
    ·intro t ht
     simp only[GS.rds,Afj] at ht⊢
     exact ht.imp id (Or.imp (q7 t) id)
    ·intro t ht
     simp only[GS.B5,Afj] at ht⊢
     exact ht.imp id (Or.imp (q8 t) id)
    ·have v1:Vs d (Ls++L) d1 (Ls++(L1++L2)):=hv.front Ls
     have v0:Vs d1 (Ls++(L1++L2)) d1 ((Ls++L2)++L1):=Vs.perm (by rw[Afg];exact(Afi).append_left Ls)
     have v2:Vs d1 ((Ls++L2)++L1) d4 ((Ls++(La++M))++L1):=q10.behind L1
     have:=(v1.trans v0).trans v2
     simpa [Afg] using this
    ·refine JV ?_ (NF q11)
     intro ρ' d' L' ⟨⟨v,hρ⟩,hle,d5,L5,hv5,h5⟩
     have hoff:Off b'.B5 ρ ρ':=by rw[hρ];exact Off.H8 (fun t ht=>q9 t ht) v
     have hle5:Le d1 d5:=q10.1.trans (hle.trans hv5.1)
     refine⟨d5,L1++L5,(by rw[←Afg];exact hv5.behind L1:Vs d' (L'++(M++L1)) d5 (L5++L1)).trans (Vs.perm Afi),Ra,Rb,d5,L1,L5,Vs.refl _ _,?_,sb,H2 (Fu sa) a' hpa (fun t ht hm=>hs2' t hm ht) (fun t ht hm=>(hs1' t ht).2 hm) Ls ρ ρ' d1 d5 L1 hoff hle5 h1,h5,?_⟩
     ·exact fun ρ ρ' d d' L ho hl hr=>sa ρ ρ' d d' L (fun t ht=>ho t fun hm=>ht (q8 t hm)) hl hr
     ·intro ρ2 d6 M1 M2 hl ho r1 r2
      refine h3 ρ2 d6 M1 M2 (hle5.trans hl) (fun t ht=>?_) r1 r2
      rw[Afj,not_or] at ht
      exact(ho t (by rw[Afj,not_or];exact⟨ht.1,fun hm=>ht.2 (q8 t hm)⟩)).trans (hoff t ht.2)
def Oh{P:Program}{n:Nat}{ops:Array Oper}{q:Nat→Bool}{bs:List Bool}{Ls:List Aa}(hq:∀i o op,q i=true→ops[i]?=some o→HS P n ops o=some op→op.i.quiet=true):
  ∀(s:SI) {la:List Nat}{tgt:Array Bool}{Qn:Env→AP}(l lm lx:Array Bool) (g:GS) (ρ:Env) (d:Aa) (L:List Aa) (i:Nat),Sb lm lx→(∀x∈la,l.getD x true=true→lx.getD x true=true)→s.front=some i→CI ops q bs la tgt true l lm s=true→CQ P n ops s=some g→g.plain=true→
  gws P CN Qn g Ls ρ d L→q i=true∧Region.free .any ops lx i=true∧i∈Region.ready .any ops l∧i∈la∧∃o op gs s',ops[i]?=some o∧HS P n ops o=some op∧CQ P n ops s'=some gs∧CI ops q bs la tgt true (l.setIfInBounds i true) (lx.setIfInBounds i true) s'=true∧s'.steps+1≤s.steps∧gs.plain=true∧(∀t∈gs.rds,t∈g.rds)∧(∀t∈gs.B5,t∈g.B5)∧
   (∀t,op.dst=some t→t∈g.B5)∧∃d1 L1,Vs d (Ls++L) d1 (Ls++L1)∧gop P CN op ρ d1 Ls L1 (fun ρ' d' L'=>gws P CN Qn gs Ls ρ' d' L'):=by
 intro s
 induction s with
 |done=>intro la tgt Qn l lm lx g ρ d L i _ _ h;cases h
 |alt j s t=>intro la tgt Qn l lm lx g ρ d L i _ _ h;cases h
 |bar s=>intro la tgt Qn l lm lx g ρ d L i _ _ h;cases h
 |op tk j s ih=>
  intro la tgt Qn l lm lx g ρ d L i hsb hcov hf hc hs hp h
  cases tk with
  |false=>cases hf
  |true=>
  simp only[SI.front,Option.some.injEq] at hf
  subst hf
  simp only[CI,Afb] at hc
  obtain⟨⟨⟨⟨⟨_,hqi⟩,hfr⟩,hrd⟩,hla⟩,hc'⟩:=hc
  simp only[CQ] at hs
  split at hs<;>try cases hs
  rename_i g' s' hg hs'
  rw[Agm] at hg
  obtain⟨o,ho,hd⟩:=hg
  simp only[GS.plain] at hp
  exact⟨hqi,VH hsb hfr,by simpa using hrd,by simpa using hla,o,g',s',s,ho,hd,hs',DZ s (hsb.set j) hc',by simp[SI.steps],hp,fun t ht=>by simp[GS.rds,ht],fun t ht=>by simp[GS.B5,ht],fun t ht=>by simp[GS.B5,ht],d,L,Vs.refl _ _,h⟩
 |par xa xb a b s iha ihb ihs=>
  intro la tgt Qn l lm lx g ρ d L i hsb hcov hf hc hs hp h
  simp only[CI,Afb,Afs,beq_iff_eq] at hc
  obtain⟨⟨⟨⟨⟨⟨_,hap⟩,hin⟩,hmm⟩,hca⟩,hcb⟩,hcs⟩:=hc
  simp only[CQ] at hs
  split at hs<;>try cases hs
  rename_i a' b' s' ha hb hs'
  split at hs<;>try cases hs
  rename_i hsep
  simp only[Afb,Afs,Ahu] at hsep
  obtain⟨⟨⟨hpa,hpb⟩,hs1⟩,hs2⟩:=hsep
  simp only[GS.plain,Afb] at hp
  have hs1':∀t∈a'.B5,t∉b'.rds∧t∉b'.B5:=fun t ht=>⟨fun hm=>by have:=(hs1 t ht).1;simp[hm] at this,fun hm=>by have:=(hs1 t ht).2;simp[hm] at this⟩
  have hs2':∀t∈b'.B5,t∉a'.rds:=fun t ht hm=>by have:=hs2 t ht;simp[hm] at this
  obtain⟨hb1,hb2,hdis,hw1,hw2⟩:=FO hap
  have cov:∀(xs ys:List Nat),(∀x∈xs,x∈xa++xb)→(∀x∈xs,x∉ys)→∀x∈xs,(marked l ys).getD x true=true→lx.getD x true=true:=by
   intro xs ys h1 h2 x hx h3;refine hcov x (by simpa using hin x (h1 x hx)) ?_;cases e:l.getD x true with
   |true=>rfl
   |false=>
    rw[Dd] at e
    have:(marked l ys).getD x true=false:=by rw[Dd,Cx,if_neg (h2 x hx)];exact e
    rw[this] at h3;cases h3
  have cova:=cov xa xb (fun x hx=>by simp[hx]) hdis
  have covb:=cov xb xa (fun x hx=>by simp[hx]) (fun x hx hm=>hdis x hm hx)
  obtain⟨Ra,Rb,d1,L1,L2,hv,sa,sb,h1,h2,h3⟩:=h
  simp only[SI.front] at hf
  cases hfa:a.front with
  |some j=>
   rw[hfa] at hf
   simp only[Option.some.injEq] at hf
   subst hf
   obtain⟨r1,r2,r3,hix,o,op,gs,sn,q1,q2,q3,q4,q5,q6,q7,q8,q9,d4,L4,q10,q11⟩:=iha (marked l xb) lm lx a' ρ d1 L1 j hsb cova hfa hca ha hpa h1
   have e1:marked (marked (l.setIfInBounds j true) xb) xa=marked (marked l xb) xa:=by rw[DS,En hix]
   have e2:marked (l.setIfInBounds j true) xa=marked l xa:=En hix l
   refine⟨r1,r2,GF hdis hw1 hix r3,by simpa using hin j (by simp[hix]),o,op,.par gs b' s',.par xa xb sn b s,q1,q2,?_,?_,by simp only[SI.steps];omega,?_,?_,?_,fun t ht=>by simp[GS.B5,q9 t ht],d4,L4++L2,?_,?_⟩
   ·simp only[CQ,q3,hb,hs']
    rw[if_pos]
    simp only[Afb,Afs,Ahu]
    exact⟨⟨⟨q6,hpb⟩,fun t ht=>hs1 t (q8 t ht)⟩,fun t ht=>by have:=hs2' t ht;simpa using fun hm=>this (q7 t hm)⟩
   ·simp only[CI,Afb,Afs,beq_iff_eq,Ais]
    rw[e1,e2,DS]
    exact⟨⟨⟨⟨⟨hap,hin⟩,hmm⟩,q4⟩,DZ b (hsb.trans (Sb.self lx j)) hcb⟩,DZ s (((hsb.trans (Sb.self lx j)).marked xb).marked xa) hcs⟩
   ·simp only[GS.plain,Afb];exact⟨⟨q6,hpb⟩,hp.2⟩
   ·intro t ht
    simp only[GS.rds,Afj] at ht⊢
    exact ht.imp (q7 t) id
   ·intro t ht
    simp only[GS.B5,Afj] at ht⊢
    exact ht.imp (q8 t) id
   ·have v1:Vs d (Ls++L) d1 (Ls++(L1++L2)):=hv.front Ls
    have v2:Vs d1 ((Ls++L1)++L2) d4 ((Ls++L4)++L2):=q10.behind L2
    have:=v1.trans (by rw[←Afg];exact v2)
    simpa [Afg] using this
   ·refine X7 (hq j o op r1 q1 q2) (fun v h5=>?_) q11
    have hoff:Off a'.B5 ρ (put ρ op.dst v):=Off.H8 (fun t ht=>q9 t ht) v
    refine⟨Ra,Rb,d4,L4,L2,Vs.refl _ _,sa,?_,h5,H2 (Fu sb) b' hpb (fun t ht hm=>(hs1' t hm).1 ht) (fun t ht hm=>(hs1' t hm).2 ht) Ls ρ _ d1 d4 L2 hoff q10.1 h2,?_⟩
    ·exact fun ρ ρ' d d' L ho hl hr=>sb ρ ρ' d d' L (fun t ht=>ho t fun hm=>ht (q8 t hm)) hl hr
    ·intro ρ2 d6 M1 M2 hl ho r1 r2
     refine h3 ρ2 d6 M1 M2 (q10.1.trans hl) (fun t ht=>?_) r1 r2
     rw[Afj,not_or] at ht
     exact(ho t (by rw[Afj,not_or];exact⟨fun hm=>ht.1 (q8 t hm),ht.2⟩)).trans (hoff t ht.1)
  |none=>
  rw[hfa] at hf
  cases hfb:b.front with
  |some j=>
   rw[hfb] at hf
   simp only[Option.some.injEq] at hf
   subst hf
   obtain⟨r1,r2,r3,hix,o,op,gs,sn,q1,q2,q3,q4,q5,q6,q7,q8,q9,d4,L4,q10,q11⟩:=ihb (marked l xa) lm lx b' ρ d1 L2 j hsb covb hfb hcb hb hpb h2
   have e1:marked (marked (l.setIfInBounds j true) xa) xb=marked (marked l xa) xb:=by rw[DS,En hix]
   have e2:marked (l.setIfInBounds j true) xb=marked l xb:=En hix l
   have e3:marked (marked l xb) xa=marked (marked l xa) xb:=hmm
   refine⟨r1,r2,GF (fun i hi hm=>hdis i hm hi) hw2 hix r3,by simpa using hin j (by simp[hix]),o,op,.par a' gs s',.par xa xb a sn s,q1,q2,?_,?_,by simp only[SI.steps];omega,?_,?_,?_,fun t ht=>by simp[GS.B5,q9 t ht],d4,L1++L4,?_,?_⟩
   ·simp only[CQ,q3,ha,hs']
    rw[if_pos]
    simp only[Afb,Afs,Ahu]
    exact⟨⟨⟨hpa,q6⟩,fun t ht=>⟨by have:=(hs1' t ht).1;simpa using fun hm=>this (q7 t hm),by have:=(hs1' t ht).2;simpa using fun hm=>this (q8 t hm)⟩⟩,fun t ht=>hs2 t (q8 t ht)⟩
   ·simp only[CI,Afb,Afs,beq_iff_eq,Ais]
    rw[e1,e2,DS]
    exact⟨⟨⟨⟨⟨hap,hin⟩,hmm⟩,DZ a (hsb.trans (Sb.self lx j)) hca⟩,q4⟩,DZ s (((hsb.trans (Sb.self lx j)).marked xb).marked xa) hcs⟩
   ·simp only[GS.plain,Afb];exact⟨⟨hpa,q6⟩,hp.2⟩
   ·intro t ht
    simp only[GS.rds,Afj] at ht⊢
    exact ht.imp id (Or.imp (q7 t) id)
   ·intro t ht
    simp only[GS.B5,Afj] at ht⊢
    exact ht.imp id (Or.imp (q8 t) id)
   ·have v1:Vs d (Ls++L) d1 (Ls++(L1++L2)):=hv.front Ls
    have v0:Vs d1 (Ls++(L1++L2)) d1 ((Ls++L2)++L1):=Vs.perm (by rw[Afg];exact(Afi).append_left Ls)
    have v2:Vs d1 ((Ls++L2)++L1) d4 ((Ls++L4)++L1):=q10.behind L1
    have v3:Vs d4 ((Ls++L4)++L1) d4 (Ls++(L1++L4)):=Vs.perm (by rw[Afg];exact(Afi).append_left Ls)
    exact((v1.trans v0).trans v2).trans v3
   ·refine XY (hq j o op r1 q1 q2) (fun v h5=>?_) q11
    have hoff:Off b'.B5 ρ (put ρ op.dst v):=Off.H8 (fun t ht=>q9 t ht) v
    refine⟨Ra,Rb,d4,L1,L4,Vs.refl _ _,?_,sb,H2 (Fu sa) a' hpa (fun t ht hm=>hs2' t hm ht) (fun t ht hm=>(hs1' t ht).2 hm) Ls ρ _ d1 d4 L1 hoff q10.1 h1,h5,?_⟩
    ·exact fun ρ ρ' d d' L ho hl hr=>sa ρ ρ' d d' L (fun t ht=>ho t fun hm=>ht (q8 t hm)) hl hr
    ·intro ρ2 d6 M1 M2 hl ho r1 r2
     refine h3 ρ2 d6 M1 M2 (q10.1.trans hl) (fun t ht=>?_) r1 r2
     rw[Afj,not_or] at ht
     exact(ho t (by rw[Afj,not_or];exact⟨ht.1,fun hm=>ht.2 (q8 t hm)⟩)).trans (hoff t ht.2)
  |none=>
  rw[hfb] at hf
  simp only at hf
  split at hf
  ·rename_i h0
   simp only[Afb] at h0
   obtain⟨e1,N1,v1,M1,rfl,r1⟩:=IK a h0.1 ha h1
   obtain⟨e2,N2,v2,M2,rfl,r2⟩:=IK b h0.2 hb h2
   have v3:=Vs.two v1 v2
   have h4:=h3 ρ (Gk.join e2 e1) M1 M2 v3.1 (fun _ _=>Z) (sa _ _ _ _ _ (fun _ _=>Z) (Le.Bc _ _) r1) (sb _ _ _ _ _ (fun _ _=>Z) (Le.Ar _ _) r2)
   have el:=Kb hdis (Fi a hca h0.1) (Fi b hcb h0.2)
   have hcs:=DZ s (N9 (fun x hx=>by simpa using hin x hx) hsb hcov el) hcs
   rw[←el] at hcs
   obtain⟨r1,r2,r3,hix,o,op,gs,s'',q1,q2,q3,q4,q5,q6,q7,q8,q9,d4,L4,q10,q11⟩:=ihs l lx lx s' ρ _ _ i (fun _ h=>h) hcov hf hcs hs' hp.2 h4
   exact⟨r1,r2,r3,hix,o,op,gs,s'',q1,q2,q3,q4,by simp only[SI.steps];omega,q6,fun t ht=>by simp[GS.rds,q7 t ht],fun t ht=>by simp[GS.B5,q8 t ht],fun t ht=>by simp[GS.B5,q9 t ht],d4,L4,((hv.front Ls).trans v3).trans q10,q11⟩
  ·cases hf
def Yp{ops:Array Oper}{q:Nat→Bool}{bs:List Bool}:∀(s:SI) {la:List Nat}{tgt l lm:Array Bool},CI ops q bs la tgt true l lm s=true→s.steps=0→s.fin=true:=by
 intro s;induction s with
 |done=>intro la tgt l lm _ _;rfl
 |op tk i s ih=>intro la tgt l lm _ h;simp only[SI.steps] at h;omega
 |alt i s t ih1 ih2=>intro la tgt l lm _ h;simp only[SI.steps] at h;omega
 |bar s ih=>intro la tgt l lm h;cases h
 |par xa xb a b s iha ihb ihs=>
  intro la tgt l lm hc h
  simp only[CI,Afb] at hc
  simp only[SI.steps] at h
  simp only[SI.fin,Afb]
  exact⟨⟨iha hc.1.1.2 (by omega),ihb hc.1.2 (by omega)⟩,ihs hc.2 (by omega)⟩
def Yl{P:Program}{n:Nat}{ds:List Deferred}{ops:Array Oper}{Q:Co}{F:List Aa}{W0:World}{d0:Aa}{q:Nat→Bool}{bs:List Bool}{la lb:List Nat}{tgt l0 l1:Array Bool}{Ra Rb:Env→AP}{Ls:List Aa}{ρ0:Env}{dd:Aa}{DA DB:List Nat}{m:Nat}
  (hsel:Region.noSelect ops=true) (hlast:I3 ops bs=true) (hq:∀i o op,q i=true→ops[i]?=some o→HS P n ops o=some op→op.i.quiet=true) (hap:IJ ops bs la lb=true) (ht1:tgt=marked l0 la) (ht2:tgt=marked l1 lb) (sa:Pa DB Ra) (sb:Pa DA Rb)
  (Hs:∀(k:Nat) ρ' d' M1 M2 W',m≤k→Ra ρ' d' M1→Rb ρ' d' M2→Off (DA++DB) ρ0 ρ'→Le dd d'→Ok (d'::((M1++M2)++(Ls++F))) W'→Le d0 d'→AL W0 W'→Dc P ops (lift n ds F W0 d0 Q) (St false d' Ls F) bs k tgt (act n ρ' ds) W'):
  ∀(N:Nat) (a b:SI) (ga gb:GS) (l:Array Bool) (ρ:Env) (d:Aa) (L1 L2:List Aa) (k:Nat) (W:World),a.steps+b.steps≤N→CI ops q bs la tgt true (marked l lb) l a=true→CI ops q bs lb tgt true (marked l la) l b=true→
   CQ P n ops a=some ga→CQ P n ops b=some gb→ga.plain=true→gb.plain=true→(∀t∈ga.B5,t∈DA)→(∀t∈gb.B5,t∈DB)→(∀t∈ga.rds,t∉DB)→(∀t∈gb.rds,t∉DA)→(∀t∈DA,t∉DB)→
   gws P CN (G4 Ls Ra) ga Ls ρ d L1→gws P CN (G4 Ls Rb) gb Ls ρ d L2→Ok (d::((L1++L2)++(Ls++F))) W→Le d0 d→Le dd d→AL W0 W→Off (DA++DB) ρ0 ρ→a.steps+b.steps+m≤k→
   Dc P ops (lift n ds F W0 d0 Q) (St false d Ls F) bs k l (act n ρ ds) W:=by
 obtain⟨hb1,hb2,hdis,hw1,hw2⟩:=FO hap
 have okS:∀{d:Aa}{L Ls F:List Aa}{W:World}{b:Bool},Ok (d::(L++(Ls++F))) W→St false d Ls F b W:=by
  intro d L Ls F W b x;have x1:Ok (d::(Ls++F)) W:=x.sub (Ahj d (Agv L _));exact⟨x1.sub (Ahj d (Agv Ls F)),fun hb=>⟨Z,x1⟩⟩
 have fin:∀(a b:SI) (ga gb:GS) (l:Array Bool) (ρ:Env) (d:Aa) (L1 L2:List Aa) (k:Nat) (W:World),a.fin=true→b.fin=true→CI ops q bs la tgt true (marked l lb) l a=true→CI ops q bs lb tgt true (marked l la) l b=true→
   CQ P n ops a=some ga→CQ P n ops b=some gb→gws P CN (G4 Ls Ra) ga Ls ρ d L1→gws P CN (G4 Ls Rb) gb Ls ρ d L2→Ok (d::((L1++L2)++(Ls++F))) W→Le d0 d→Le dd d→AL W0 W→Off (DA++DB) ρ0 ρ→m≤k→
   Dc P ops (lift n ds F W0 d0 Q) (St false d Ls F) bs k l (act n ρ ds) W:=by
  intro a b ga gb l ρ d L1 L2 k W ha hb hca hcb hga hgb h1 h2 hOk hle hld hk ho hm
  obtain⟨d1,N1,hv1,M1,rfl,hr1⟩:=IK a ha hga h1
  obtain⟨d2,N2,hv2,M2,rfl,hr2⟩:=IK b hb hgb h2
  rw[Kb hdis (Fi a hca ha) (Fi b hcb hb)]
  have x1:Ok (d::((Ls++(L1++L2))++F)) W:=hOk.perm (Afm d (by
   rw[Afg Ls];exact EE (L1++L2) Ls F))
  have v3:=Vs.two hv1 hv2
  have x5:Ok (join d2 d1::((M1++M2)++(Ls++F))) W:=(v3.2 F W x1).perm (Afm _ (by
   rw[Afg Ls];exact EE Ls (M1++M2) F))
  exact Dc.mono (fun b w hw=>hw.le v3.1) _ _ _ _ (Hs k ρ _ M1 M2 W hm (sa _ _ _ _ _ (fun _ _=>Z) (Le.Bc d2 d1) hr1) (sb _ _ _ _ _ (fun _ _=>Z) (Le.Ar d2 d1) hr2) ho (hld.trans v3.1) x5 (hle.trans v3.1) hk)
 have cov:∀(xs ys:List Nat) (l:Array Bool),(∀x∈xs,x∉ys)→∀x∈xs,(marked l ys).getD x true=true→l.getD x true=true:=by
  intro xs ys l h2 x hx h3;cases e:l.getD x true with
  |true=>rfl
  |false=>
   rw[Dd] at e
   have:(marked l ys).getD x true=false:=by rw[Dd,Cx,if_neg (h2 x hx)];exact e
   rw[this] at h3;cases h3
 have hdis':∀i∈lb,i∉la:=fun i hi hm=>hdis i hm hi
 have look:∀{d:Aa}{w:World}{b:Bool},b=false→St false d Ls F b w→∀a v,HC d Ls a v→w.cell? a=some v:=by
  intro d w b hb hw a v hc;subst hb;exact hc.cell hw.1.head (fun q hq=>(hw.2 Z).2.2 q (by simp[hq]))
 have taken:∀{i:Nat}{o:Oper}{op:GOp}{ρ:Env}{d:Aa}{M:List Aa}{l:Array Bool}{W:World}{k:Nat}{K:Env→AP},q i=true→bs.getD i false=false→ops[i]?=some o→HS P n ops o=some op→Region.free .any ops l i=true→i∈Region.ready .any ops l→St false d Ls F false W→
   gop P CN op ρ d Ls M K→(∀v,K (put ρ op.dst v) d M→Dc P ops (lift n ds F W0 d0 Q) (St false d Ls F) bs k (l.setIfInBounds i true) (act n (put ρ op.dst v) ds) W)→
   Dc P ops (lift n ds F W0 d0 Q) (St false d Ls F) bs (k+1) l (act n ρ ds) W:=by
  intro i o op ρ d M l W k K hqi hbi ho hd hf hr hS hop hK
  have hquiet:=hq i o op hqi ho hd
  obtain⟨hopn,hdst,_,hdi,hgd,hgu⟩:=HE hd
  have goOn:∀v,YieldsIf P ops (St false d Ls F (bs.getD i false)) o v (act n ρ ds)→K (put ρ op.dst v) d M→Dc P ops (lift n ds F W0 d0 Q) (St false d Ls F) bs (k+1) l (act n ρ ds) W:=by
   intro v hy hw;refine Dc.first ho (Region.noSelect_spec hsel) (fun c a w hh=>?_) hlast (fun w hw=>⟨hw.1,fun e=>by cases e⟩) k l _ W (Region.free_spec ho hf) hr hy (by rw[hbi];exact hS) ?_
   ·obtain⟨h1,h2⟩:=hh;refine⟨?_,h2⟩
    cases hdd:o.dst with
    |none=>rw[hdd] at h1;exact h1
    |some t=>rw[hdd] at h1;exact h1
   ·rw[FH hdst,←hgd];exact hK v hw
  rcases hgu with ⟨hgn,hg'⟩|⟨j,want,t,hgn,ht2,htn,hg'⟩
  ·simp only[gop,hg'] at hop
   rw[EV hquiet] at hop
   obtain⟨v,hv,hK'⟩:=hop
   refine goOn v (.inl ⟨by simp[Region.wanted,hgn],fun w hw=>?_⟩) hK'
   exact Hj hdi hquiet hv (fun x hx=>Bn (hopn x hx)) (look hbi hw)
  ·simp only[gop,hg'] at hop
   rcases hop with ⟨b,hb,h1,h2⟩|⟨hb,h2⟩
   case inr=>exact goOn undef (.inr ⟨Ju hgn ht2 htn hb,Z⟩) h2
   by_cases e:b=want
   ·have h1:=h1 e
    rw[EV hquiet] at h1
    obtain⟨v,hv,hK'⟩:=h1
    refine goOn v (.inl ⟨by rw[Hu hgn ht2 htn hb];simp[e],fun w hw=>?_⟩) hK'
    exact Hj hdi hquiet hv (fun x hx=>Bn (hopn x hx)) (look hbi hw)
   ·exact goOn undef (.inr ⟨by rw[Hu hgn ht2 htn hb];simpa using e,Z⟩) (h2 (by cases b<;>cases want<;>simp_all))
 intro N
 induction N with
 |zero=>
  intro a b ga gb l ρ d L1 L2 k W hN hca hcb hga hgb hpa hpb hda hdb hra hrb hdd h1 h2 hOk hle hld hk ho hkk
  have ha:a.fin=true:=Yp a hca (by omega)
  have hb:b.fin=true:=Yp b hcb (by omega)
  exact fin a b ga gb l ρ d L1 L2 k W ha hb hca hcb hga hgb h1 h2 hOk hle hld hk ho (by omega)
 |succ N ih=>
  intro a b ga gb l ρ d L1 L2 k W hN hca hcb hga hgb hpa hpb hda hdb hra hrb hdd h1 h2 hOk hle hld hk ho hkk
  by_cases hab:a.fin=true∧b.fin=true
  ·exact fin a b ga gb l ρ d L1 L2 k W hab.1 hab.2 hca hcb hga hgb h1 h2 hOk hle hld hk ho (by omega)
  have okA0:Ok (d::((Ls++L1)++(L2++F))) W:=hOk.perm (Afm d (by
   rw[Afg,Afg];exact((EE L2 Ls F).append_left L1).trans (EE L1 Ls _)))
  cases hfa:a.front with
  |some i=>
   obtain⟨r1,r2,r3,hil,o,op,gs,s',ho',hdec,hgs,hck,hst,hpl,hrd,hds,hdst,d1,L1',hv,hop⟩:=Oh hq a (marked l lb) l l ga ρ d L1 i (fun _ h=>h) (cov la lb l hdis) hfa hca hga hpa h1
   obtain⟨k,rfl⟩:∃k',k=k'+1:=⟨k - 1,by omega⟩
   have x1:=hv.2 (L2++F) W okA0
   have x2:Ok (d1::((L1'++L2)++(Ls++F))) W:=x1.perm (Afm d1 (by
    rw[Afg,Afg];exact(EE Ls L1' _).trans ((EE Ls L2 F).append_left L1')))
   refine Dc.mono (fun b w hw=>hw.le hv.1) _ _ _ _ (taken (d:=d1) r1 (hb1 i hil) ho' hdec r2 (GF hdis hw1 hil r3) (okS x2) hop fun v h4=>?_)
   have hoff:Off DA ρ (put ρ op.dst v):=Off.H8 (fun t ht=>hda t (hdst t ht)) v
   exact ih s' b gs gb (l.setIfInBounds i true) _ d1 L1' L2 k W (by omega) (by rw[DS];exact hck) (by rw[En hil];exact DZ b (Sb.self l i) hcb) hgs hgb hpl hpb (fun t ht=>hda t (hds t ht)) hdb
     (fun t ht=>hra t (hrd t ht)) hrb hdd h4 (H2 (Fu sb) gb hpb hrb (fun t ht hm=>hdd t hm (hdb t ht)) Ls ρ _ d d1 L2 hoff hv.1 h2) x2 (hle.trans hv.1) (hld.trans hv.1) hk (ho.trans fun t ht=>hoff t fun hm=>ht (by simp[hm])) (by omega)
  |none=>
  cases hfb:b.front with
  |some i=>
   obtain⟨r1,r2,r3,hil,o,op,gs,s',ho',hdec,hgs,hck,hst,hpl,hrd,hds,hdst,d1,L2',hv,hop⟩:=Oh hq b (marked l la) l l gb ρ d L2 i (fun _ h=>h) (cov lb la l hdis') hfb hcb hgb hpb h2
   obtain⟨k,rfl⟩:∃k',k=k'+1:=⟨k - 1,by omega⟩
   have okB0:Ok (d::((Ls++L2)++(L1++F))) W:=okA0.perm (Afm d (by
    rw[Afg,Afg];exact(EE L1 L2 F).append_left Ls))
   have x1:=hv.2 (L1++F) W okB0
   have x2:Ok (d1::((L1++L2')++(Ls++F))) W:=x1.perm (Afm d1 (by
    rw[Afg,Afg];exact((EE L2' L1 F).append_left Ls).trans ((EE Ls L1 _).trans ((EE Ls L2' F).append_left L1))))
   refine Dc.mono (fun b w hw=>hw.le hv.1) _ _ _ _ (taken (d:=d1) r1 (hb2 i hil) ho' hdec r2 (GF hdis' hw2 hil r3) (okS x2) hop fun v h4=>?_)
   have hoff:Off DB ρ (put ρ op.dst v):=Off.H8 (fun t ht=>hdb t (hdst t ht)) v
   exact ih a s' ga gs (l.setIfInBounds i true) _ d1 L1 L2' k W (by omega) (by rw[En hil];exact DZ a (Sb.self l i) hca) (by rw[DS];exact hck) hga hgs hpa hpl hda (fun t ht=>hdb t (hds t ht))
     hra (fun t ht=>hrb t (hrd t ht)) hdd (H2 (Fu sa) ga hpa hra (fun t ht hm=>hdd t (hda t ht) hm) Ls ρ _ d d1 L1 hoff hv.1 h1) h4 x2 (hle.trans hv.1) (hld.trans hv.1) hk (ho.trans fun t ht=>hoff t fun hm=>ht (by simp[hm])) (by omega)
  |none=>
  have hsteps:1≤a.steps+b.steps:=by
   cases ea:a.fin with
   |false=>have:=(F8 a hca hfa ea).2.2;omega
   |true=>cases eb:b.fin with
    |false=>have:=(F8 b hcb hfb eb).2.2;omega
    |true=>exact absurd ⟨ea,eb⟩ hab
  obtain⟨k,rfl⟩:∃k',k=k'+1:=⟨k - 1,by omega⟩
  have okA:Ok (d::((Ls++L1)++(L2++F))) W:=hOk.perm (Afm d (by
   rw[Afg,Afg];exact((EE L2 Ls F).append_left L1).trans (EE L1 Ls _)))
  have okB:Ok (d::((Ls++L2)++(L1++F))) W:=okA.perm (Afm d (by
   rw[Afg,Afg];exact(EE L1 L2 F).append_left Ls))
  have outA:∀{e:Aa}{X M Y:List Aa}{W':World},Ok (e::((Ls++(X++M))++(Y++F))) W'→Ok (e::(X++(M++(Y++(Ls++F))))) W':=by
   intro e X M Y W' x;refine x.perm (Afm e ?_);rw[Afg,Afg];exact(EE Ls X _).trans (((EE Ls M _).trans ((EE Ls Y F).append_left M)).append_left X)
  have stepA:∀i∈a.C7,wpOp P ops (lift n ds F W0 d0 Q) i (fun a' w'=>St false d Ls F (bs.getD i false) w'∧Dc P ops (lift n ds F W0 d0 Q) (St false d Ls F) bs k (l.setIfInBounds i true) a' w') (act n ρ ds) W:=by
   intro i hi;have hil:=Gq a hca i hi;obtain⟨o,op,gs,s',ho',hdec,hgs,hck,hst,hpl,hrd,hds,hdst,d1,La,M,hv,hop⟩:=XR a true (marked l lb) l l ga ρ d L1 (fun _ h=>h) (cov la lb l hdis) hfa hca hga hpa h1 i hi;have hOk1:=outA (hv.2 (L2++F) W okA);refine Ie (F:=M++(L2++(Ls++F))) ho' hdec hOk1 (fun q hq=>hOk1.2 q (by simp at hq;rcases hq with hq|hq<;>simp[hq])) (fun B hB=>⟨M++(L2++F),by rw[←Aiu hB];exact((Agw _ _ _).append_left _).trans (Agw _ _ _)⟩) (NF hop) ?_ ?_
   ·intro ρ' d' L' W' g1 g2 g3 ⟨⟨v,hρ⟩,_,d2,L2',hv2,h4⟩;have h5:=hv2.2 (L2++(Ls++F)) W' (by rw[Afg];exact g1);have hle2:Le d d2:=hv.1.trans (g2.trans hv2.1);have hoff:Off DA ρ ρ':=by rw[hρ];exact Off.H8 (fun t ht=>hda t (hdst t ht)) v
    have g1':Ok (d'::((L'++(M++L2))++(Ls++F))) W':=by simpa [Afg] using g1
    have h5':Ok (d2::((L2'++L2)++(Ls++F))) W':=by rw[Afg];exact h5
    refine⟨(okS g1').le (hv.1.trans g2),Dc.mono (fun b w hw=>hw.le hle2) _ _ _ _ (ih s' b gs gb (l.setIfInBounds i true) ρ' d2 L2' L2 k W' (by omega) (by rw[DS];exact hck) (by rw[En hil];exact DZ b (Sb.self l i) hcb) hgs hgb hpl hpb (fun t ht=>hda t (hds t ht)) hdb
     (fun t ht=>hra t (hrd t ht)) hrb hdd h4 (H2 (Fu sb) gb hpb hrb (fun t ht hm=>hdd t hm (hdb t ht)) Ls ρ ρ' d d2 L2 hoff hle2 h2) h5' (hle.trans hle2) (hld.trans hle2) (hk.trans g3) (ho.trans fun t ht=>hoff t fun hm=>ht (by simp[hm])) (by omega))⟩
   ·intro c d' L' W' _ _ _ h;exact h.elim
  have stepB:∀i∈b.C7,wpOp P ops (lift n ds F W0 d0 Q) i (fun a' w'=>St false d Ls F (bs.getD i false) w'∧Dc P ops (lift n ds F W0 d0 Q) (St false d Ls F) bs k (l.setIfInBounds i true) a' w') (act n ρ ds) W:=by
   intro i hi;have hil:=Gq b hcb i hi;obtain⟨o,op,gs,s',ho',hdec,hgs,hck,hst,hpl,hrd,hds,hdst,d1,La,M,hv,hop⟩:=XR b true (marked l la) l l gb ρ d L2 (fun _ h=>h) (cov lb la l hdis') hfb hcb hgb hpb h2 i hi;have hOk1:=outA (hv.2 (L1++F) W okB);refine Ie (F:=M++(L1++(Ls++F))) ho' hdec hOk1 (fun q hq=>hOk1.2 q (by simp at hq;rcases hq with hq|hq<;>simp[hq])) (fun B hB=>⟨M++(L1++F),by rw[←Aiu hB];exact((Agw _ _ _).append_left _).trans (Agw _ _ _)⟩) (NF hop) ?_ ?_
   ·intro ρ' d' L' W' g1 g2 g3 ⟨⟨v,hρ⟩,_,d2,L2',hv2,h4⟩;have h5:=hv2.2 (L1++(Ls++F)) W' (by rw[Afg];exact g1);have hle2:Le d d2:=hv.1.trans (g2.trans hv2.1);have hoff:Off DB ρ ρ':=by rw[hρ];exact Off.H8 (fun t ht=>hdb t (hdst t ht)) v
    have g1':Ok (d'::((L'++(M++L1))++(Ls++F))) W':=by simpa [Afg] using g1
    have h5':Ok (d2::((L1++L2')++(Ls++F))) W':=by rw[Afg];exact h5.perm (Afm d2 (EE L2' L1 _))
    refine⟨(okS g1').le (hv.1.trans g2),Dc.mono (fun b w hw=>hw.le hle2) _ _ _ _ (ih a s' ga gs (l.setIfInBounds i true) ρ' d2 L1 L2' k W' (by omega) (by rw[En hil];exact DZ a (Sb.self l i) hca) (by rw[DS];exact hck) hga hgs hpa hpl hda (fun t ht=>hdb t (hds t ht))
     hra (fun t ht=>hrb t (hrd t ht)) hdd (H2 (Fu sa) ga hpa hra (fun t ht hm=>hdd t (hda t ht) hm) Ls ρ ρ' d d2 L1 hoff hle2 h1) h4 h5' (hle.trans hle2) (hld.trans hle2) (hk.trans g3) (ho.trans fun t ht=>hoff t fun hm=>ht (by simp[hm])) (by omega))⟩
   ·intro c d' L' W' _ _ _ h;exact h.elim
  have hr:=Ry (l:=l) hap ht1 ht2 (Gq a hca) (Gq b hcb) (fun e=>(F8 a hca hfa e).1) (fun e=>(F8 b hcb hfb e).1) (Fi a hca) (Fi b hcb) (JO a) (JO b) hab
  refine fun _=>⟨fun h0=>?_,fun i hi=>?_⟩
  ·exfalso
   have none:∀i,¬(i∈a.C7∨i∈b.C7):=fun i h=>by have:=(hr i).2 h;rw[h0] at this;cases this
   cases ea:a.fin with
   |false=>exact(F8 a hca hfa ea).2.1 (List.eq_nil_iff_forall_not_mem.2 fun i h=>none i (.inl h))
   |true=>cases eb:b.fin with
    |false=>exact(F8 b hcb hfb eb).2.1 (List.eq_nil_iff_forall_not_mem.2 fun i h=>none i (.inr h))
    |true=>exact hab ⟨ea,eb⟩
  ·rcases (hr i).1 hi with h|h
   ·exact stepA i h
   ·exact stepB i h
def RU{P:Program}{n:Nat}{ds:List Deferred}{ops:Array Oper}{Q:Co}{F:List Aa}{W0:World}{d0:Aa}{bs:List Bool}(hsel:Region.noSelect ops=true)(hlast:I3 ops bs=true):
  ∀(si:SI) (top past:Bool) (listed:Array Bool) (s:GS) (ρ:Env) (d:Aa) (L Ls:List Aa) (k:Nat) (W:World),chk ops (quietAt P ops) bs top past listed si=true→CQ P n ops si=some s→(past=true→Ls=[])→
   gws P Q.pan Q.n s Ls ρ d L→Ok (d::(L++(Ls++F))) W→Le d0 d→AL W0 W→si.steps≤k→
   (top=true→Dc P ops (lift n ds F W0 d0 Q) (St past d Ls F) bs k listed (act n ρ ds) W)∧
   (top=false→∀i∈si.C7,wpOp P ops (lift n ds F W0 d0 Q) i (fun a' w'=>St past d Ls F (bs.getD i false) w'∧Dc P ops (lift n ds F W0 d0 Q) (St past d Ls F) bs (k - 1) (listed.setIfInBounds i true) a' w') (act n ρ ds) W):=by
 have okS:∀{past:Bool}{d:Aa}{L Ls F:List Aa}{W:World}{b:Bool},Ok (d::(L++(Ls++F))) W→past=b→St past d Ls F b W:=by
  intro past d L Ls F W b x e;have x1:Ok (d::(Ls++F)) W:=x.sub (Ahj d (Agv L _));exact⟨x1.sub (Ahj d (Agv Ls F)),fun hb=>⟨e.trans hb,x1⟩⟩
 have front:∀{d:Aa}{L Ls F:List Aa}{W:World},Ok (d::(L++(Ls++F))) W→Ok (d::((Ls++L)++F)) W:=by
  intro d L Ls F W x;exact x.perm (Afm d (by rw[←Afg];exact(Afi).append_right F))
 intro si
 induction si with
 |done=>
  intro top past listed s ρ d L Ls k W hc hs hp h hOk hle hk hst
  simp only[chk,Afb,beq_iff_eq] at hc
  simp[CQ] at hs;subst hs
  obtain⟨d1,L1,hv,hq⟩:=h
  exact⟨fun _=>Dc.done hc.2 ⟨ρ,d1,L1,Z,hv.2 F W (front hOk),hle.trans hv.1,hk,hq⟩ k,fun ht=>by rw[ht] at hc;simp at hc⟩
 |op tk i si ih=>
  intro top past listed s ρ d L Ls k W hc hs hp h hOk hle hk hst
  simp only[CQ] at hs
  split at hs<;>try cases hs
  rename_i g s' hg hs'
  rw[Agm] at hg
  obtain⟨o,ho,hd⟩:=hg
  obtain⟨hop,hdst,_,hdi,hgd,hgu⟩:=HE hd
  simp only[SI.steps] at hst
  obtain⟨k,rfl⟩:∃k',k=k'+1:=⟨k - 1,by omega⟩
  cases tk with
  |true=>
   simp only[chk,Afb,beq_iff_eq] at hc
   obtain⟨⟨⟨⟨⟨ht,hqi⟩,hpb⟩,hf⟩,hr⟩,hc'⟩:=hc
   have hquiet:g.i.quiet=true:=by
    simp only[quietAt,ho,Ahd,hdi,Option.any_some] at hqi;exact hqi
   refine⟨fun _=>?_,fun ht'=>by rw[ht'] at ht;cases ht⟩
   have goOn:∀v,YieldsIf P ops (St past d Ls F (bs.getD i false)) o v (act n ρ ds)→gws P Q.pan Q.n s' Ls (put ρ g.dst v) d L→
     Dc P ops (lift n ds F W0 d0 Q) (St past d Ls F) bs (k+1) listed (act n ρ ds) W:=by
    intro v hy hw
    refine Dc.first ho (Region.noSelect_spec hsel) (fun c a w hh=>?_) hlast (fun w hw=>⟨hw.1,fun e=>by cases e⟩) k listed _ W (Region.free_spec ho hf) (by simpa using hr) hy (okS hOk hpb) ?_
    ·obtain⟨h1,h2⟩:=hh
     refine⟨?_,h2⟩
     cases hdd:o.dst with
     |none=>rw[hdd] at h1;exact h1
     |some t=>rw[hdd] at h1;exact h1
    ·rw[FH hdst,←hgd]
     exact((ih true past _ s' _ d L Ls k W hc' hs' hp hw hOk hle hk (by omega)).1 Z)
   have look:∀w,St past d Ls F (bs.getD i false) w→∀a v,HC d Ls a v→w.cell? a=some v:=by
    intro w hw a v hc;refine hc.cell hw.1.head (fun q hq=>?_);cases hbi:bs.getD i false with
    |true=>rw[hbi] at hpb;rw[hp hpb] at hq;cases hq
    |false=>exact(hw.2 hbi).2.2 q (by simp[hq])
   rcases hgu with ⟨hgn,hg'⟩|⟨j,want,t,hgn,ht2,htn,hg'⟩
   ·simp only[gws,gop,hg'] at h
    rw[EV hquiet] at h
    obtain⟨v,hv,hK⟩:=h
    refine goOn v (.inl ⟨by simp[Region.wanted,hgn],fun w hw=>?_⟩) hK
    exact Hj hdi hquiet hv (fun x hx=>Bn (hop x hx)) (look w hw)
   ·simp only[gws,gop,hg'] at h
    rcases h with ⟨b,hb,h1,h2⟩|⟨hb,h2⟩
    case inr=>exact goOn undef (.inr ⟨Ju hgn ht2 htn hb,Z⟩) h2
    by_cases e:b=want
    ·have h1:=h1 e
     rw[EV hquiet] at h1
     obtain⟨v,hv,hK⟩:=h1
     refine goOn v (.inl ⟨by rw[Hu hgn ht2 htn hb];simp[e],fun w hw=>?_⟩) hK
     exact Hj hdi hquiet hv (fun x hx=>Bn (hop x hx)) (look w hw)
    ·refine goOn undef (.inr ⟨by rw[Hu hgn ht2 htn hb];simpa using e,Z⟩) (h2 (by cases b<;>cases want<;>simp_all))
  |false=>
   simp only[chk,Afb,beq_iff_eq] at hc
   obtain⟨⟨hr,hpb⟩,hc'⟩:=hc
   obtain⟨d1,L1,hv,h⟩:=h
   have hOk1:=hv.2 (Ls++F) W hOk
   have step:wpOp P ops (lift n ds F W0 d0 Q) i (fun a' w'=>St past d Ls F (bs.getD i false) w'∧Dc P ops (lift n ds F W0 d0 Q) (St past d Ls F) bs k (listed.setIfInBounds i true) a' w') (act n ρ ds) W:=by
    refine Ie ho hd hOk1 (fun q hq=>hOk1.2 q (by simp at hq;rcases hq with hq|hq<;>simp[hq])) (fun B hB=>⟨F,by rw[←Aiu hB]⟩) h ?_ ?_
    ·intro ρ' d' L' W' h1 h2 h3 ⟨d2,L2,hv2,h4⟩;have hdd:=hv.1.trans h2;refine⟨(okS h1 hpb).le hdd,?_⟩
     exact Dc.mono (fun b w hw=>hw.le (hdd.trans hv2.1)) _ _ _ _ ((ih true past _ s' ρ' d2 L2 Ls k W' hc' hs' hp h4 (hv2.2 _ W' h1) (hle.trans (hdd.trans hv2.1)) (hk.trans h3) (by omega)).1 Z)
    ·intro c d' L' W' h1 h2 h3 h4;exact⟨Z,d',Ls++L',front h1,hle.trans (hv.1.trans h2),hk.trans h3,h4⟩
   refine⟨fun ht=>?_,fun _ j hj=>?_⟩
   ·rw[ht] at hr
    simp only[Bool.not_true,Akc,beq_iff_eq] at hr
    refine fun _=>⟨fun h0=>by rw[h0] at hr;simp at hr,fun j hj=>?_⟩
    rw[hr] at hj
    simp at hj;subst hj
    exact step
   ·simp only[SI.C7,Afz] at hj
    subst hj
    exact step
 |alt i si ti ih1 ih2=>
  intro top past listed s ρ d L Ls k W hc hs hp h hOk hle hk hst
  simp only[CQ] at hs
  split at hs<;>try cases hs
  rename_i g s' t' hg hs' ht'
  rw[Agm] at hg
  obtain⟨o,ho,hd⟩:=hg
  simp only[SI.steps] at hst
  obtain⟨k,rfl⟩:∃k',k=k'+1:=⟨k - 1,by omega⟩
  simp only[chk,Afb,beq_iff_eq] at hc
  obtain⟨⟨⟨hr,hpb⟩,hc1⟩,hc2⟩:=hc
  obtain⟨⟨d1,L1,hv,h⟩,hrest⟩:=h
  have hOk1:=hv.2 (Ls++F) W hOk
  have step:wpOp P ops (lift n ds F W0 d0 Q) i (fun a' w'=>St past d Ls F (bs.getD i false) w'∧Dc P ops (lift n ds F W0 d0 Q) (St past d Ls F) bs k (listed.setIfInBounds i true) a' w') (act n ρ ds) W:=by
   refine Ie ho hd hOk1 (fun q hq=>hOk1.2 q (by simp at hq;rcases hq with hq|hq<;>simp[hq])) (fun B hB=>⟨F,by rw[←Aiu hB]⟩) h ?_ ?_
   ·intro ρ' d' L' W' h1 h2 h3 ⟨d2,L2,hv2,h4⟩;have hdd:=hv.1.trans h2;refine⟨(okS h1 hpb).le hdd,?_⟩
    exact Dc.mono (fun b w hw=>hw.le (hdd.trans hv2.1)) _ _ _ _ ((ih1 true past _ s' ρ' d2 L2 Ls k W' hc1 hs' hp h4 (hv2.2 _ W' h1) (hle.trans (hdd.trans hv2.1)) (hk.trans h3) (by omega)).1 Z)
   ·intro c d' L' W' h1 h2 h3 h4;exact⟨Z,d',Ls++L',front h1,hle.trans (hv.1.trans h2),hk.trans h3,h4⟩
  have others:=(ih2 false past listed t' ρ d L Ls (k+1) W hc2 ht' hp hrest hOk hle hk (by omega)).2 Z
  have all:∀j∈i::ti.C7,wpOp P ops (lift n ds F W0 d0 Q) j (fun a' w'=>St past d Ls F (bs.getD j false) w'∧Dc P ops (lift n ds F W0 d0 Q) (St past d Ls F) bs k (listed.setIfInBounds j true) a' w') (act n ρ ds) W:=by
   intro j hj;rcases Afv.1 hj with rfl|hj
   ·exact step
   ·exact others j hj
  refine⟨fun ht=>?_,fun _ j hj=>all j hj⟩
  rw[ht] at hr
  simp only[Bool.not_true,Akc,beq_iff_eq] at hr
  refine fun _=>⟨fun h0=>by rw[h0] at hr;simp at hr,fun j hj=>?_⟩
  rw[hr] at hj
  exact all j hj
 |bar si ih=>
  intro top past listed s ρ d L Ls k W hc hs hp h hOk hle hk hst
  simp only[chk,Afb,Ahu] at hc
  obtain⟨⟨ht,hpf⟩,hc'⟩:=hc
  simp only[CQ,Agn] at hs
  obtain⟨s',hs',rfl⟩:=hs
  simp only[gws] at h
  refine⟨fun _=>?_,fun ht'=>by rw[ht'] at ht;cases ht⟩
  have:=(ih true true listed s' ρ d (Ls++L) [] k W hc' hs' (fun _=>Z) h (by simpa using front hOk) hle hk hst).1 Z
  exact Dc.mono (fun b w hw=>⟨hw.1,fun e=>by have:=(hw.2 e).1;cases this⟩) _ _ _ _ this
 |par la lb a b si iha ihb ih=>
  intro top past listed s ρ d L Ls k W hc hs hp h hOk hle hk hst
  simp only[chk,Afb,Ahu,beq_iff_eq] at hc
  obtain⟨⟨⟨⟨⟨⟨ht,hpf⟩,hap⟩,hmm⟩,hca⟩,hcb⟩,hc'⟩:=hc
  subst hpf
  rw[←hmm] at hcb
  simp only[CQ] at hs
  split at hs<;>try cases hs
  rename_i a' b' s' ha hb hs'
  split at hs<;>try cases hs
  rename_i hsep
  simp only[Afb,Afs,Ahu] at hsep
  obtain⟨⟨⟨hpa,hpb⟩,hs1⟩,hs2⟩:=hsep
  refine⟨fun _=>?_,fun ht'=>by rw[ht'] at ht;cases ht⟩
  obtain⟨Ra,Rb,d1,L1,L2,hv,sa,sb,h1,h2,hrest⟩:=h
  simp only[SI.steps] at hst
  have:=Yl (m:=si.steps) (q:=quietAt P ops) (Q:=Q) (F:=F) (W0:=W0) (d0:=d0) (ds:=ds) (P:=P) (n:=n) (ρ0:=ρ) (dd:=d1) (l0:=marked listed lb) (l1:=marked listed la) hsel hlast (fun i o op h1 h2 h3=>by
    obtain⟨_,_,_,hdi,_,_⟩:=HE h3;simp only[quietAt,h2,Ahd,hdi,Option.any_some] at h1;exact h1) hap Z hmm sa sb
   (fun k ρ' d' M1 M2 W' hkm hr1 hr2 ho hl hok hle' hk'=>(ih true false _ s' ρ' d' (M1++M2) Ls k W' hc' hs' hp (hrest ρ' d' M1 M2 hl ho hr1 hr2) hok hle' hk' hkm).1 Z)
   (a.steps+b.steps) a b a' b' listed ρ d1 L1 L2 k W (Afe _) hca hcb ha hb hpa hpb (fun _ h=>h) (fun _ h=>h)
   (fun t ht hm=>by have:=hs2 t hm;simp[ht] at this) (fun t ht hm=>by have:=(hs1 t hm).1;simp[ht] at this) (fun t ht hm=>by have:=(hs1 t ht).2;simp[hm] at this) h1 h2 (hv.2 _ W hOk) (hle.trans hv.1) (Le.refl d1) hk (fun _ _=>Z) hst
  exact Dc.mono (fun b w hw=>hw.le hv.1) _ _ _ _ this
def VW(ops:Array Oper):Closed ops (Array.replicate ops.size false):=by
 intro j oj _ hl;rcases Nat.lt_or_ge j ops.size with h|h
 ·simp[h] at hl
 ·simp[Nat.not_lt.2 h] at hl
def US{pr:Bool}{P}{n:Nat}{ds ops}{Q:Co}{F W0 d0}{id:Nat}(hm:P.follows .mixedOrders=true)
  {s}(hs:MH pr P n ops true=some s) {ρ d L Ls W}(h:gws P Q.pan Q.n s Ls ρ d L) (hOk:Ok (d::(L++(Ls++F))) W) (hle:Le d0 d) (hk:AL W0 W):
  (Code.region id ops true).wp P (lift n ds F W0 d0 Q) (act n ρ ds) W:=by
 simp only[MH] at hs
 split at hs
 ·rename_i hc
  simp only[Afb,decide_eq_true_eq] at hc
  obtain⟨⟨⟨h1,h2⟩,h3⟩,h4⟩:=hc
  refine wp_region_any hm (Dc.any _ _ _ _ (VW ops) ((RU h1 h2 _ true false _ s ρ d L Ls ops.size _ h4 hs (fun e=>by cases e) h hOk.drew hle ?_ h3).1 Z))
  exact hk.trans ⟨Z,Z,Z,Afe _⟩
 ·cases hs
def FU{pr:Bool}{P}{n:Nat}{ds F W0 d0}(hm:P.follows .mixedOrders=true):
  ∀(c:Code) (Q:Co) (ρ:Env) (d:Aa) (L:List Aa) (W:World),gwp P (ET pr P n c) Q ρ d L→Ok (d::(L++F)) W→Le d0 d→AL W0 W→c.wp P (lift n ds F W0 d0 Q) (act n ρ ds) W:=by
 intro c
 induction c with
 |skip=>
  intro Q ρ d L W h hOk hle hk
  exact wp_skip ⟨ρ,d,L,Z,hOk,hle,hk,h⟩
 |region id ops drawn=>
  intro Q ρ d L W h hOk hle hk
  simp only[ET] at h
  cases hs:MH pr P n ops drawn with
  |none=>rw[hs] at h;exact h.elim
  |some s=>
  rw[hs] at h
  cases drawn with
  |false=>
   simp only[MH] at hs
   exact wp_region (E5 _ s hs ρ d L W h hOk hle hk)
  |true=>
   obtain⟨d1,Ls,L1,hv,h⟩:=h
   have hOk1:=hv.2 F W hOk
   refine US hm hs h (hOk1.perm (Afm d1 ?_)) (hle.trans hv.1) hk
   rw[←Afg]
   exact(Afi).append_right F
 |seq a b iha ihb=>
  intro Q ρ d L W h hOk hle hk
  refine wp_seq (wp_mono (iha _ ρ d L W h hOk hle hk) ?_)
  intro e a w hq
  cases e with
  |normal=>
   obtain⟨ρ',d',L',rfl,h1,h2,h3,h4⟩:=hq
   exact ihb Q ρ' d' L' w h4 h1 h2 h3
  |_=>exact hq
 |cond c a b iha ihb=>
  intro Q ρ d L W h hOk hle hk
  simp only[ET] at h
  split at h
  ·rename_i hc
   obtain⟨t,ht,h1,h2⟩:=h
   exact wp_cond_split (by rw[Bn hc];exact ht) (fun e=>iha Q ρ d L W (h1 e) hOk hle hk) (fun e=>ihb Q ρ d L W (h2 e) hOk hle hk)
  ·exact h.elim
 |block id a iha=>
  intro Q ρ d L W h hOk hle hk
  refine wp_block (wp_mono (iha _ ρ d L W h hOk hle hk) ?_)
  intro e a w hq
  cases e with
  |exit i=>
   obtain⟨ρ',d',L',rfl,h1,h2,h3,h4⟩:=hq
   simp only[Exit.inBlock]
   by_cases e:i=id
   ·simp only[e,if_true] at h4⊢
    exact⟨ρ',d',L',Z,h1,h2,h3,h4⟩
   ·simp only[if_neg e] at h4⊢
    exact⟨ρ',d',L',Z,h1,h2,h3,h4⟩
  |_=>exact hq
 |loop a iha=>
  intro Q ρ d L W h hOk hle hk
  obtain⟨I,⟨m,hI⟩,round⟩:=h
  refine wp_loop_ghost (fun m a w=>∃ρ d L,a=act n ρ ds∧Ok (d::(L++F)) w∧Le d0 d∧AL W0 w∧I m ρ d L) m ⟨ρ,d,L,Z,hOk,hle,hk,hI⟩ ?_
  rintro m a w ⟨ρ',d',L',rfl,h1,h2,h3,h4⟩
  refine wp_mono (iha _ ρ' d' L' w (round m ρ' d' L' h4) h1 h2 h3) ?_
  intro e a w hq
  cases e with
  |normal=>
   obtain⟨ρ'',d'',L'',rfl,k1,k2,k3,m',k4,k5⟩:=hq
   exact⟨m',k4,ρ'',d'',L'',Z,k1,k2,k3,k5⟩
  |_=>exact hq
 |exit id=>
  intro Q ρ d L W h hOk hle hk
  exact wp_exit ⟨ρ,d,L,Z,hOk,hle,hk,h⟩
 |ret=>
  intro Q ρ d L W h hOk hle hk
  exact wp_ret ⟨ρ,d,L,Z,hOk,hle,hk,h⟩
 |_=>intro Q ρ d L W h;exact h.elim
def MU(ρ:Env)(C:Addr→Value→Prop):Hc→Value→Prop
 |.tmp t,v=>v=ρ t
 |.cell t n,v=>evq ρ C (.ld n (.tmp t)) v
def Hq(ρ:Env)(C:Addr→Value→Prop):List Hc→List Value→Prop
 |[],[]=>True
 |r::rs,v::vs=>MU ρ C r v∧Hq ρ C rs vs
 |_,_=>False
def Lh:List Value→Value
 |[v]=>v
 |vs=>.tuple vs.toArray
def C9(res:List Hc)(R:Ending→Aa→List Aa→Prop)(ρ:Env)(d:Aa)(L:List Aa):Prop:=
 ∃vs,Hq ρ (HC d L) res vs∧∃d' L',Vs d L d' L'∧R (.returned (Lh vs)) d' L'
def mkPost(res:List Hc)(R:Ending→Aa→List Aa→Prop):Co:=
 {n:=C9 res R,ex:=fun _ _ _ _=>False,ret:=C9 res R,pan:=fun c d L=>∃d' L',Vs d L d' L'∧R (.panicked c) d' L'}
def GP(args:List Value):Env:=fun i=>args.getD i undef
def Rr(tmps:Array Value):ResultVar→Sem Value
 |.tmp t=>pure (tmps.getD t undef)
 |.cell a t=>do loadVar t (←asAddr (tmps.getD a undef))
def IG(fn:Func)(tmps:Array Value):results fn tmps=(do let vs←fn.results.mapM (Rr tmps);pure (if h:vs.size=1 then vs[0] else .tuple vs)):=Z
def HX{P:Program}{n:Nat}{ρ:Env}{ds:List Deferred}{d:Aa}{L:List Aa}{W:World}(hl:∀a v,HC d L a v→W.cell? a=some v):
  ∀(rs:List ResultVar) (gs:List Hc) (vs:List Value),rs.mapM (H3 P n)=some gs→Hq ρ (HC d L) gs vs→
   (rs.mapM (Rr (act n ρ ds).tmps)).run P W=.ok vs W
 |[],gs,vs,hg,h=>by
  simp at hg;subst hg;cases vs with
  |nil=>simp
  |cons=>simp[Hq] at h
 |r::rs,gs,vs,hg,h=>by
  simp only[Akf,Option.bind_eq_bind,Agm,Option.pure_def,Option.some.injEq] at hg;obtain⟨g,hr,gs',hgs,rfl⟩:=hg;cases vs with
  |nil=>simp[Hq] at h
  |cons v vs=>
   obtain⟨h1,h2⟩:=h
   have ih:=HX (ds:=ds) hl rs gs' vs hgs h2
   have get:∀t,t<n→(act n ρ ds).tmps.getD t undef=ρ t:=by
    intro t ht;simp[act,ht,Array.getD]
   simp only[Akf,Sem.run_bind]
   have one:(Rr (act n ρ ds).tmps r).run P W=.ok v W:=by
    cases r with
    |tmp t=>
     simp only[H3] at hr
     split at hr<;>try cases hr
     rename_i ht
     simp only[MU] at h1;subst h1
     simp only[Rr,get t ht,Sem.run_pure]
    |cell t ty=>
     simp only[H3] at hr
     split at hr<;>try cases hr
     rename_i ht
     simp only[Agn] at hr
     obtain⟨m,hm,rfl⟩:=hr
     simp only[MU] at h1
     have ldv:∀a,(loadVar ty a).run P W=(Instr.loadAt ty (.pointer (some a))).run P W:=by intro a;simp[Instr.loadAt,Instr.sureAddr]
     cases m with
     |none=>
      obtain⟨b,o,e1,e2⟩:=h1
      have e1:ρ t=.pointer (some ⟨b,o,none⟩):=e1
      simp only[Rr,Sem.run_bind,get t ht,e1,asAddr,Sem.run_pure,Result.andThen,ldv,VN hm _ _ W (hl _ _ e2)]
     |some m=>
      obtain⟨b,o,cs,e1,e2,e3,rfl⟩:=h1
      have e1:ρ t=.pointer (some ⟨b,o,none⟩):=e1
      simp only[Rr,Sem.run_bind,get t ht,e1,asAddr,Sem.run_pure,Result.andThen,ldv,V5 hm b o cs e2 W (fun i u hu=>hl _ _ (e3 i u hu))]
   rw[one]
   simp only[Result.andThen,ih,Sem.run_pure]
def Dp{pr:Bool}{P f}{g:A9}(hd:Jk pr P f=some g){args}(ha:args.length≤g.n){L R}
  (h:gwp P g.code (mkPost g.res R) (GP args) d L):Ao P f args d L R:=by
 simp only[Jk] at hd
 split at hd<;>try cases hd
 rename_i fn hf
 split at hd<;>try cases hd
 rename_i hn
 split at hd<;>try cases hd
 rename_i c hb
 rw[Agn] at hd
 obtain⟨rs,hr,rfl⟩:=hd
 simp only[Agl,not_or,Ahx,Aiv] at hn
 refine⟨⟨fn,hf,by rw[hb];rfl,hn.1⟩,fun F W hOk=>?_⟩
 refine calls_of_wp hf hb ?_
 have hinit:({tmps:=args.toArray++Array.replicate (fn.ntmps - args.toArray.size) undef,defers:=[]}:Act)=act fn.ntmps (GP args) []:=by
  simp only[act,Act.mk.injEq,and_true];apply Array.ext
  ·simp at ha⊢;omega
  ·intro i h1 h2;simp only[Array.getElem_ofFn,GP];by_cases hi:i<args.length
   ·rw[Array.getElem_append_left (by simpa using hi)];simp[hi]
   ·rw[Array.getElem_append_right (by simpa using hi)];simp[Aix,Ago (Ajp hi)]
 rw[hinit]
 have hs:=FU (ds:=[]) (F:=F) (W0:=W) (d0:=d) (by simpa using hn.2) c _ _ d L W h hOk (Le.refl d) (AL.refl W)
 refine wp_mono hs ?_
 have fin:∀a w,(∃ρ d' L',a=act fn.ntmps ρ []∧Ok (d'::(L'++F)) w∧Le d d'∧AL W w∧C9 rs R ρ d' L')→
   a.defers=[]∧∃v,(results fn a.tmps).run P w=.ok v w∧(∃d' L',Ok (d'::(L'++F)) w∧Le d d'∧AL W w∧R (.returned v) d' L'):=by
  rintro a w ⟨ρ,d',L',rfl,h1,h2,h3,vs,h4,d'',L'',h5,h6⟩
  refine⟨Z,Lh vs,?_,d'',L'',h5.2 F w h1,h2.trans h5.1,h3,h6⟩
  have hl:∀a v,HC d' L' a v→w.cell? a=some v:=fun a v hc=>hc.cell h1.head (fun q hq=>h1.2 q (by simp[hq]))
  have:=HX (P:=P) (n:=fn.ntmps) (ρ:=ρ) (ds:=[]) hl fn.results.toList rs vs hr h4
  rw[IG,Array.mapM_eq_mapM_toList]
  simp only[Sem.run_bind,Sem.run_map,this,Result.andThen,Sem.run_pure]
  cases vs with
  |nil=>rfl
  |cons v vs=>cases vs with
   |nil=>rfl
   |cons v' vs=>rfl
 intro e a w hq
 cases e with
 |normal=>exact fin a w hq
 |ret=>exact fin a w hq
 |panic c=>
  obtain⟨h1,d',L',h2,h3,h4,d'',L'',h5,h6⟩:=hq
  exact⟨h1,d'',L'',h5.2 F w h2,h3.trans h5.1,h4,h6⟩
 |exit i=>obtain⟨_,_,_,_,_,_,_,hh⟩:=hq;exact hh.elim
 |goto l=>exact hq.elim
 |outgrown=>exact hq.elim
end
section
def lk(tk:Bool)(Ls L:List Aa):List Aa:=match tk with|true=>Ls|false=>Ls++L
def DC(d:Aa)(b o:Nat)(v:Value):Prop:=∃c T fr,d b (.cells c T fr)∧c[o]?=some v
def DCs(d:Aa)(b o:Nat)(vs:List Value):Prop:=∃c T fr,d b (.cells c T fr)∧∀i u,vs[i]?=some u→c[o+i]?=some u
def DCs.at{d}{b o:Nat}{vs}(h:DCs d b o vs){i:Nat}{u}(hi:vs[i]?=some u):DC d b (o+i) u:=
 let ⟨c,T,fr,h1,h2⟩:=h
 ⟨c,T,fr,h1,h2 i u hi⟩
def DC.mono{d d'}{b o:Nat}(h:DC d b o v)(hl:Le d d'):DC d' b o v:=
 let ⟨c,T,fr,h1,h2⟩:=h
 ⟨c,T,fr,hl _ _ h1,h2⟩
def DCs.mono{d d'}{b o:Nat}{vs}(h:DCs d b o vs)(hl:Le d d'):DCs d' b o vs:=
 let ⟨c,T,fr,h1,h2⟩:=h
 ⟨c,T,fr,hl _ _ h1,h2⟩
def DC.cells{d}{b o:Nat}(h:DC d b o v):DCs d b o [v]:=
 let ⟨c,T,fr,h1,h2⟩:=h
 ⟨c,T,fr,h1,fun i u hi=>by
  cases i with
  |zero=>simp at hi;subst hi;exact h2
  |succ i=>simp at hi⟩
def DCs.one{d}{b o:Nat}(h:DCs d b o [v]):DC d b o v:=h.at (i:=0) Z
def BR{d Lk}{b o:Nat}(h:DC d b o v):HC d Lk ⟨b,o,none⟩ v:=
 let ⟨c,T,fr,h1,h2⟩:=h
 ⟨Z,d,.inl Z,c,T,fr,h1,h2⟩
def Cr{d Lk}{b o:Nat}{vs}{i:Nat}(h:DCs d b o vs)(hi:vs[i]?=some v):HC d Lk ⟨b,o+i,none⟩ v:=BR (h.at hi)
def BO{d Lk}{b o:Nat}{vs}(h:DCs d b o vs)(hi:vs[0]?=some v):HC d Lk ⟨b,o,none⟩ v:=BR (h.at hi)
def AG{d Lk}{b o:Nat}{l}(i:Nat)(h:Lk[i]?=some (bx b T l))(ho:l[o]?=some v):HC d Lk ⟨b,o,none⟩ v:=
 ⟨Z,bx b T l,.inr (Ahr h),l.toArray,T,(0,0),Db _ _,by simpa using ho⟩
section
variable {P:Program}{pan:List PanicEntry→AP}{Qn:Env→AP}{Ls L:List Aa}{ρ:Env}{d:Aa}{tk:Bool}{s:GS}{t:Nat}
def B1{g:GOp}(d1:Aa)(L1:List Aa)(hv:Vs d L d1 L1):gws P pan Qn (.op false g s) Ls ρ d1 L1→gws P pan Qn (.op false g s) Ls ρ d L
 |⟨d2,L2,h1,h2⟩=>⟨d2,L2,hv.trans h1,h2⟩
def Ww(d1:Aa)(L1:List Aa)(hv:Vs d L d1 L1)(h:Qn ρ d1 L1):gws P pan Qn .done [] ρ d L:=⟨d1,L1,hv,h⟩
def HZ{g:GOp}{h}(k:∀d',Le d d'→Le h d'→gws P pan Qn (.op false g s) Ls ρ d' L):gws P pan Qn (.op false g s) Ls ρ d (h::L):=
 B1 (join d h) L Vs.freeze (k _ (Le.Ar d h) (Le.Bc d h))
def w_q{q:GI}(hq:q.quiet=true)(hv:evq ρ (HC d (lk tk Ls L)) q v)(h:gws P pan Qn s Ls (upd ρ t v) d L):
  gws P pan Qn (.op tk ⟨some t,none,q⟩ s) Ls ρ d L:=by
 cases tk with
 |true=>simp only[gws,gop];rw[EV hq];exact⟨v,hv,h⟩
 |false=>exact⟨d,L,Vs.refl d L,by simp only[gop];rw[EV hq];exact⟨v,hv,d,L,Vs.refl d L,h⟩⟩
def AK(h:gws P pan Qn s Ls (upd ρ t (ev ρ x)) d L):gws P pan Qn (.op tk ⟨some t,none,.mv x⟩ s) Ls ρ d L:=w_q Z Z h
def Ab(e:ev ρ x=.int k a)(h:gws P pan Qn s Ls (upd ρ t (.int k a)) d L):gws P pan Qn (.op tk ⟨some t,none,.mv x⟩ s) Ls ρ d L:=w_q Z e.symm h
def Ad{a:Bool}(e:ev ρ x=.bool a)(h:gws P pan Qn s Ls (upd ρ t (.bool a)) d L):gws P pan Qn (.op tk ⟨some t,none,.mv x⟩ s) Ls ρ d L:=w_q Z e.symm h
def Ae{a}{n c:Nat}(e:ev ρ x=.slice a n c)(h:gws P pan Qn s Ls (upd ρ t (.slice a n c)) d L):gws P pan Qn (.op tk ⟨some t,none,.mv x⟩ s) Ls ρ d L:=w_q Z e.symm h
def Ag{a}(e:ev ρ x=.pointer a)(h:gws P pan Qn s Ls (upd ρ t (.pointer a)) d L):gws P pan Qn (.op tk ⟨some t,none,.mv x⟩ s) Ls ρ d L:=w_q Z e.symm h
def EG{l}(e:ev ρ x=BQ l)(h:gws P pan Qn s Ls (upd ρ t (BQ l)) d L):gws P pan Qn (.op tk ⟨some t,none,.mv x⟩ s) Ls ρ d L:=w_q Z e.symm h
def AO{l:Array Value}(e:ev ρ x=.tuple l)(h:gws P pan Qn s Ls (upd ρ t (.tuple l)) d L):gws P pan Qn (.op tk ⟨some t,none,.mv x⟩ s) Ls ρ d L:=w_q Z e.symm h
def FZ{f:Fn}{a b:Array Value}(e:ev ρ x=.func f a b)(h:gws P pan Qn s Ls (upd ρ t (.func f a b)) d L):gws P pan Qn (.op tk ⟨some t,none,.mv x⟩ s) Ls ρ d L:=w_q Z e.symm h
def AbU{a b}(e:ev ρ c=.bool true)(ea:ev ρ a=v)(h:gws P pan Qn s Ls (upd ρ t v) d L):gws P pan Qn (.op tk ⟨some t,none,.pick c a b⟩ s) Ls ρ d L:=
 w_q Z ⟨true,e,by simp[ea]⟩ h
def Ac7{a b}(e:ev ρ c=.bool false)(eb:ev ρ b=v)(h:gws P pan Qn s Ls (upd ρ t v) d L):gws P pan Qn (.op tk ⟨some t,none,.pick c a b⟩ s) Ls ρ d L:=
 w_q Z ⟨false,e,by simp[eb]⟩ h
def As{a b}{v:Bool}(e:ev ρ c=.bool true)(ea:ev ρ a=.bool v)(h:gws P pan Qn s Ls (upd ρ t (.bool v)) d L):gws P pan Qn (.op tk ⟨some t,none,.pick c a b⟩ s) Ls ρ d L:=AbU e ea h
def Aj{a b}{v:Bool}(e:ev ρ c=.bool false)(eb:ev ρ b=.bool v)(h:gws P pan Qn s Ls (upd ρ t (.bool v)) d L):gws P pan Qn (.op tk ⟨some t,none,.pick c a b⟩ s) Ls ρ d L:=Ac7 e eb h
def Am{off b o:Nat}(e:ev ρ x=.pointer (some ⟨b,o,none⟩))(h:gws P pan Qn s Ls (upd ρ t (.pointer (some ⟨b,o+off,none⟩))) d L):
  gws P pan Qn (.op tk ⟨some t,none,.fld off x⟩ s) Ls ρ d L:=w_q Z ⟨b,o,e,Z⟩ h
def Ah{b o:Nat}(e:ev ρ x=.pointer (some ⟨b,o,none⟩))(hc:HC d (lk tk Ls L) ⟨b,o,none⟩ v)(h:gws P pan Qn s Ls (upd ρ t v) d L):
  gws P pan Qn (.op tk ⟨some t,none,.ld none x⟩ s) Ls ρ d L:=w_q Z ⟨b,o,e,hc⟩ h
def Bk{n b:Nat}{l}(i:Nat)(e:ev ρ x=pZ b)(hi:(lk tk Ls L)[i]?=some (bx b T l))(hn:l.length=n)
  (h:gws P pan Qn s Ls (upd ρ t (.agg l.toArray)) d L):gws P pan Qn (.op tk ⟨some t,none,.ld (some n) x⟩ s) Ls ρ d L:=
 w_q Z ⟨b,0,l,e,hn,fun j u hu=>by rw[Ahg];exact AG i hi hu,Z⟩ h
def XE{n b o:Nat}{l}(e:ev ρ x=.pointer (some ⟨b,o,none⟩))(hd:DCs d b o l)(hn:l.length=n)
  (h:gws P pan Qn s Ls (upd ρ t (.agg l.toArray)) d L):gws P pan Qn (.op tk ⟨some t,none,.ld (some n) x⟩ s) Ls ρ d L:=
 w_q Z ⟨b,o,l,e,hn,fun _ _ hu=>Cr hd hu,Z⟩ h
def DQ{op:BinOp}(e:Dz op (ev ρ x) (ev ρ y)=some v)(h:gws P pan Qn s Ls (upd ρ t v) d L):
  gws P pan Qn (.op tk ⟨some t,none,.bin op x y⟩ s) Ls ρ d L:=w_q Z e h
def D3(h1: -9223372036854775808≤a)(h2:a≤9223372036854775807):IntKind.i64.wrap a=a:=by
 simp[IntKind.wrap,IntKind.signed,IntKind.bits];omega
def LA(ex:ev ρ x=vZ a)(ey:ev ρ y=vZ b)(h1: -9223372036854775808≤a+b)(h2:a+b≤9223372036854775807)
  (h:gws P pan Qn s Ls (upd ρ t (vZ (a+b))) d L):gws P pan Qn (.op tk ⟨some t,none,.bin .add x y⟩ s) Ls ρ d L:=
 DQ (by rw[ex,ey];simp[Dz,D3 h1 h2]) h
def XH(ex:ev ρ x=vZ a)(ey:ev ρ y=vZ b)(h1: -9223372036854775808≤a - b)(h2:a - b≤9223372036854775807)
  (h:gws P pan Qn s Ls (upd ρ t (vZ (a - b))) d L):gws P pan Qn (.op tk ⟨some t,none,.bin .sub x y⟩ s) Ls ρ d L:=
 DQ (by rw[ex,ey];simp[Dz,D3 h1 h2]) h
def JW(ex:ev ρ x=vZ a)(ey:ev ρ y=vZ b)(h1: -9223372036854775808≤a*b)(h2:a*b≤9223372036854775807)
  (h:gws P pan Qn s Ls (upd ρ t (vZ (a*b))) d L):gws P pan Qn (.op tk ⟨some t,none,.bin .mul x y⟩ s) Ls ρ d L:=
 DQ (by rw[ex,ey];simp[Dz,D3 h1 h2]) h
def WY(ex:ev ρ x=.int k a)(ey:ev ρ y=.int k b)(h1:0≤a)(h2:0<b)
  (h:gws P pan Qn s Ls (upd ρ t (.int k (a % b))) d L):gws P pan Qn (.op tk ⟨some t,none,.bin .rem x y⟩ s) Ls ρ d L:=by
 refine DQ ?_ h
 have h4:¬b=0:=by omega
 have h5:a.tmod b=a % b:=Int.tmod_eq_emod_of_nonneg h1
 rw[ex,ey];simp[Dz,h4,h5]
def Au(ex:ev ρ x=.int k a)(ey:ev ρ y=.int k b)(h:gws P pan Qn s Ls (upd ρ t (.bool (decide (a<b)))) d L):
  gws P pan Qn (.op tk ⟨some t,none,.bin .lss x y⟩ s) Ls ρ d L:=DQ (by rw[ex,ey];simp[Dz]) h
def G3(ex:ev ρ x=.int k a)(ey:ev ρ y=.int k b)(h:gws P pan Qn s Ls (upd ρ t (.bool (decide (a≤b)))) d L):
  gws P pan Qn (.op tk ⟨some t,none,.bin .leq x y⟩ s) Ls ρ d L:=DQ (by rw[ex,ey];simp[Dz]) h
def Bu(ex:ev ρ x=.int k a)(ey:ev ρ y=.int k b)(h:gws P pan Qn s Ls (upd ρ t (.bool (decide (b<a)))) d L):
  gws P pan Qn (.op tk ⟨some t,none,.bin .gtr x y⟩ s) Ls ρ d L:=DQ (by rw[ex,ey];simp[Dz]) h
def Dk(ex:ev ρ x=.int k a)(ey:ev ρ y=.int k b)(h:gws P pan Qn s Ls (upd ρ t (.bool (decide (b≤a)))) d L):
  gws P pan Qn (.op tk ⟨some t,none,.bin .geq x y⟩ s) Ls ρ d L:=DQ (by rw[ex,ey];simp[Dz]) h
def AI(ex:ev ρ x=.int k a)(ey:ev ρ y=.int k b)(h:gws P pan Qn s Ls (upd ρ t (.bool (decide (a=b)))) d L):
  gws P pan Qn (.op tk ⟨some t,none,.bin .eql x y⟩ s) Ls ρ d L:=DQ (by rw[ex,ey];simp[Dz];rfl) h
def AJ(ex:ev ρ x=.int k a)(ey:ev ρ y=.int k b)(h:gws P pan Qn s Ls (upd ρ t (.bool (decide (a≠b)))) d L):
  gws P pan Qn (.op tk ⟨some t,none,.bin .neq x y⟩ s) Ls ρ d L:=DQ (by rw[ex,ey];simp[Dz];by_cases e:a=b<;>simp[e]) h
def Qq{a b}(ex:ev ρ x=BQ a)(ey:ev ρ y=BQ b)(h:gws P pan Qn s Ls (upd ρ t (.bool (decide (a=b)))) d L):
  gws P pan Qn (.op tk ⟨some t,none,.bin .eql x y⟩ s) Ls ρ d L:=DQ (by rw[ex,ey];simp[Dz,BQ];by_cases e:a=b<;>simp[e]) h
def SH{a b}(ex:ev ρ x=BQ a)(ey:ev ρ y=BQ b)(h:gws P pan Qn s Ls (upd ρ t (.bool (decide (a≠b)))) d L):
  gws P pan Qn (.op tk ⟨some t,none,.bin .neq x y⟩ s) Ls ρ d L:=DQ (by rw[ex,ey];simp[Dz,BQ];by_cases e:a=b<;>simp[e]) h
def Gj{a b}(ex:ev ρ x=BQ a)(ey:ev ρ y=BQ b)(h:gws P pan Qn s Ls (upd ρ t (.bool (Op.bytesLess a b))) d L):
  gws P pan Qn (.op tk ⟨some t,none,.bin .lss x y⟩ s) Ls ρ d L:=DQ (by rw[ex,ey];simp[Dz,BQ]) h
def G2{a b}(ex:ev ρ x=BQ a)(ey:ev ρ y=BQ b)(h:gws P pan Qn s Ls (upd ρ t (.bool (Op.bytesLess a b||decide (a=b)))) d L):
  gws P pan Qn (.op tk ⟨some t,none,.bin .leq x y⟩ s) Ls ρ d L:=DQ (by rw[ex,ey];simp[Dz,BQ];by_cases e:a=b<;>simp[e]) h
def Bm{b:Bool}(ex:ev ρ x=.bool b)(h:gws P pan Qn s Ls (upd ρ t (.bool (!b))) d L):gws P pan Qn (.op tk ⟨some t,none,.un .not x⟩ s) Ls ρ d L:=
 w_q Z (by simp[evq,unV,ex]) h
def AbN(ex:ev ρ x=vZ a)(h1: -9223372036854775807≤a)(h2:a≤9223372036854775807)(h:gws P pan Qn s Ls (upd ρ t (vZ (-a))) d L):
  gws P pan Qn (.op tk ⟨some t,none,.un .neg x⟩ s) Ls ρ d L:=
 w_q Z (by have:=D3 (a:= -a) (by omega) (by omega);simp[evq,unV,ex,this]) h
def Xn{j}(ex:ev ρ x=.int j a)(h:gws P pan Qn s Ls (upd ρ t (.int k (k.wrap a))) d L):gws P pan Qn (.op tk ⟨some t,none,.cvi k x⟩ s) Ls ρ d L:=
 w_q Z ⟨j,a,ex,Z⟩ h
def EP{j}(ex:ev ρ x=.int j a)(h1: -9223372036854775808≤a)(h2:a≤9223372036854775807)(h:gws P pan Qn s Ls (upd ρ t (vZ a)) d L):
  gws P pan Qn (.op tk ⟨some t,none,.cvi .i64 x⟩ s) Ls ρ d L:=Xn ex (by rw[D3 h1 h2];exact h)
def AA{a}{n c:Nat}(ex:ev ρ x=.slice a n c)(h:gws P pan Qn s Ls (upd ρ t (vZ n)) d L):gws P pan Qn (.op tk ⟨some t,none,.len x⟩ s) Ls ρ d L:=
 w_q Z ⟨a,n,c,ex,Z⟩ h
def SE{a}{n c:Nat}(ex:ev ρ x=.slice a n c)(h:gws P pan Qn s Ls (upd ρ t (vZ c)) d L):gws P pan Qn (.op tk ⟨some t,none,.cap x⟩ s) Ls ρ d L:=
 w_q Z ⟨a,n,c,ex,Z⟩ h
def AbE(ex:ev ρ x=.int k a)(ey:ev ρ y=.int k b)(h:gws P pan Qn s Ls (upd ρ t (.int k (max a b))) d L):
  gws P pan Qn (.op tk ⟨some t,none,.mx2 x y⟩ s) Ls ρ d L:=w_q Z ⟨k,a,b,ex,ey,by congr 1;split<;>omega⟩ h
def Aeh(ex:ev ρ x=.int k a)(ey:ev ρ y=.int k b)(h:gws P pan Qn s Ls (upd ρ t (.int k (min a b))) d L):
  gws P pan Qn (.op tk ⟨some t,none,.mn2 x y⟩ s) Ls ρ d L:=w_q Z ⟨k,a,b,ex,ey,by congr 1;split<;>omega⟩ h
def Dl{i:Nat}{vs:Array Value}(ex:ev ρ x=.tuple vs)(e:vs[i]?=some v)(h:gws P pan Qn s Ls (upd ρ t v) d L):
  gws P pan Qn (.op tk ⟨some t,none,.ext x i⟩ s) Ls ρ d L:=w_q Z ⟨vs,ex,e⟩ h
def SAd(a:Option Addr)(n b o:Nat):Prop:=n≠0→a=some ⟨b,o,none⟩
def SAd.some(n b o:Nat):SAd (some ⟨b,o,none⟩) n b o:=fun _=>Z
def B3{i}{sz b o n c:Nat}{a}{j:Int}(m:Nat)(ex:ev ρ x=.slice a n c)(ei:ev ρ i=.int k j)(hm:j=(m:Int))(hl:m<n)(hA:SAd a n b o)
  (h:gws P pan Qn s Ls (upd ρ t (.pointer (some ⟨b,o+m*sz,none⟩))) d L):gws P pan Qn (.op tk ⟨some t,none,.idx sz x i⟩ s) Ls ρ d L:=by
 subst hm
 rw[hA (by omega)] at ex
 exact w_q Z ⟨b,o,n,c,k,m,ex,ei,by omega,by omega,Z⟩ h
def ND{fn:Fn}{first cap}(h:gws P pan Qn s Ls (upd ρ t (.func fn (first.map (ev ρ)).toArray (cap.map (ev ρ)).toArray)) d L):
  gws P pan Qn (.op tk ⟨some t,none,.mkf fn first cap⟩ s) Ls ρ d L:=w_q Z Z h
def Ad0(h:gws P pan Qn s Ls (upd ρ t (.iface T (ev ρ x))) d L):gws P pan Qn (.op tk ⟨some t,none,.mki T x⟩ s) Ls ρ d L:=w_q Z Z h
def BY{pl:List (Nat×Nat)}{z:List Value}{ps:List (Nat×Operand)}{cs:List Value}(e:Instr.fill (pl[·]?) z.toArray (ps.map fun p=>(p.1,ev ρ p.2))=some cs.toArray)
  (h:gws P pan Qn s Ls (upd ρ t (.agg cs.toArray)) d L):gws P pan Qn (.op tk ⟨some t,none,.bld pl z ps⟩ s) Ls ρ d L:=w_q Z ⟨cs.toArray,e,Z⟩ h
def Ad4{a}{n c b o:Nat}{l}(ex:ev ρ x=.slice a n c)(hn:n=l.length)(hA:SAd a n b o)
  (hc:∀i u,l[i]?=some u→HC d (lk tk Ls L) ⟨b,o+i,none⟩ (Al u)) (h:gws P pan Qn s Ls (upd ρ t (BQ l)) d L):gws P pan Qn (.op tk ⟨some t,none,.b2s x⟩ s) Ls ρ d L:=by
 subst hn
 refine w_q Z ⟨a,l,c,ex,?_,?_,Z⟩ h
 ·intro e
  cases l with
  |nil=>rfl
  |cons u l=>have:=hA (by simp);rw[e] at this;cases this
 ·intro a' e i u hu
  have hl:l.length≠0:=by
   intro h0;have:=List.length_eq_zero_iff.1 h0;subst this;simp at hu
  have:=hA hl
  rw[e] at this;cases this
  rw[Addr.add_lit]
  exact hc i u hu
def AdQ{l m}(hx:Ga (HC d (lk tk Ls L)) (ev ρ x) l)(hy:Ga (HC d (lk tk Ls L)) (ev ρ y) m)(h:gws P pan Qn s Ls (upd ρ t (vZ (Lib.compareBytes l m))) d L):
  gws P pan Qn (.op tk ⟨some t,none,.bcmp x y⟩ s) Ls ρ d L:=w_q Z ⟨l,m,hx,hy,Z⟩ h
def Ap{a:Addr}(ex:ev ρ x=.pointer (some a))(h:gws P pan Qn s Ls (upd ρ t (.pointer (some a))) d L):gws P pan Qn (.op tk ⟨some t,none,.nilc x⟩ s) Ls ρ d L:=
 w_q Z ⟨⟨a,ex⟩,ex.symm⟩ h
def PC{neg:Bool}(ex:ev ρ x=.pointer none)(ey:ev ρ y=.pointer none)(h:gws P pan Qn s Ls (upd ρ t (.bool (!neg))) d L):
  gws P pan Qn (.op tk ⟨some t,none,.eqp neg x y⟩ s) Ls ρ d L:=w_q Z ⟨none,none,ex,ey,.inl Z,by cases neg<;>rfl⟩ h
def CG{neg:Bool}{a:Addr}(ex:ev ρ x=.pointer (some a))(ey:ev ρ y=.pointer none)(h:gws P pan Qn s Ls (upd ρ t (.bool neg)) d L):
  gws P pan Qn (.op tk ⟨some t,none,.eqp neg x y⟩ s) Ls ρ d L:=w_q Z ⟨some a,none,ex,ey,.inr (.inl Z),by cases neg<;>rfl⟩ h
def PY{neg:Bool}{n c n' c':Nat}(ex:ev ρ x=.slice none n c)(ey:ev ρ y=.slice none n' c')(h:gws P pan Qn s Ls (upd ρ t (.bool (!neg))) d L):
  gws P pan Qn (.op tk ⟨some t,none,.eqs neg x y⟩ s) Ls ρ d L:=w_q Z ⟨none,n,c,ex,⟨n',c',ey⟩,by cases neg<;>rfl⟩ h
def Nh{neg:Bool}{a:Addr}{n c n' c':Nat}(ex:ev ρ x=.slice (some a) n c)(ey:ev ρ y=.slice none n' c')(h:gws P pan Qn s Ls (upd ρ t (.bool neg)) d L):
  gws P pan Qn (.op tk ⟨some t,none,.eqs neg x y⟩ s) Ls ρ d L:=w_q Z ⟨some a,n,c,ex,⟨n',c',ey⟩,by cases neg<;>rfl⟩ h
def HV{neg:Bool}{a b:Bool}(ex:ev ρ x=.bool a)(ey:ev ρ y=.bool b)(h:gws P pan Qn s Ls (upd ρ t (.bool (neg ^^(a==b)))) d L):
  gws P pan Qn (.op tk ⟨some t,none,.eqb neg x y⟩ s) Ls ρ d L:=w_q Z ⟨a,b,ex,ey,Z⟩ h
def Ac{g:Nat}{want:Bool}{dst:Option Nat}(e:ρ g=.bool want)(h:gws P pan Qn (.op tk ⟨dst,none,i⟩ s) Ls ρ d L):gws P pan Qn (.op tk ⟨dst,some (g,want),i⟩ s) Ls ρ d L:=by
 cases tk with
 |true=>simp only[gws,gop] at h⊢;exact .inl ⟨want,e,fun _=>h,fun e=>by cases want<;>cases e⟩
 |false=>obtain⟨d1,L1,h1,h2⟩:=h;exact⟨d1,L1,h1,by simp only[gop] at h2⊢;exact .inl ⟨want,e,fun _=>h2,fun e=>by cases want<;>cases e⟩⟩
def AdZ{g:Nat}{want:Bool}{dst:Option Nat}(e:ρ g=.bool (!want))(h:gws P pan Qn s Ls (put ρ dst undef) d L):gws P pan Qn (.op tk ⟨dst,some (g,want),i⟩ s) Ls ρ d L:=by
 cases tk with
 |true=>simp only[gws,gop] at h⊢;exact .inl ⟨!want,e,(fun e=>by cases want<;>cases e),fun _=>h⟩
 |false=>exact⟨d,L,Vs.refl d L,by simp only[gop];exact .inl ⟨!want,e,(fun e=>by cases want<;>cases e),fun _=>⟨d,L,Vs.refl d L,h⟩⟩⟩
def Ad9{g:Nat}{want:Bool}{dst:Option Nat}(e:ρ g=undef)(h:gws P pan Qn s Ls (put ρ dst undef) d L):gws P pan Qn (.op tk ⟨dst,some (g,want),i⟩ s) Ls ρ d L:=by
 cases tk with
 |true=>simp only[gws,gop] at h⊢;exact .inr ⟨e,h⟩
 |false=>exact⟨d,L,Vs.refl d L,by simp only[gop];exact .inr ⟨e,d,L,Vs.refl d L,h⟩⟩
def Cp{g t:Nat}{want:Bool}(e:ρ g=undef)(h:gws P pan Qn s Ls (upd ρ t undef) d L):gws P pan Qn (.op tk ⟨some t,some (g,want),i⟩ s) Ls ρ d L:=Ad9 e h
def BP{g t:Nat}{want:Bool}(e:ρ g=.bool (!want))(h:gws P pan Qn s Ls (upd ρ t undef) d L):gws P pan Qn (.op tk ⟨some t,some (g,want),i⟩ s) Ls ρ d L:=AdZ e h
def Uo{g:Nat}(e:ρ g=v):upd ρ g v=ρ:=by
 funext i;simp only[upd];cases h:Nat.beq i g with
 |false=>rfl
 |true=>have:=Ajy h;subst this;exact e.symm
def Fj{g:Nat}(e:ρ g=v)(h:gws P pan Qn s Ls (upd ρ g v) d L):gws P pan Qn s Ls ρ d L:=by rwa [Uo e] at h
def UD{g:Nat}{want b:Bool}{dst:Option Nat}(e:ρ g=.bool b)(h1:b=true→gws P pan Qn (.op tk ⟨dst,some (g,want),i⟩ s) Ls (upd ρ g (.bool true)) d L)
  (h2:b=false→gws P pan Qn (.op tk ⟨dst,some (g,want),i⟩ s) Ls (upd ρ g (.bool false)) d L):gws P pan Qn (.op tk ⟨dst,some (g,want),i⟩ s) Ls ρ d L:=by
 cases b with
 |true=>exact Fj e (h1 Z)
 |false=>exact Fj e (h2 Z)
def SL{g:Nat}{want:Bool}{dst:Option Nat}[Decidable p](e:ρ g=.bool (decide p))(h1:p→gws P pan Qn (.op tk ⟨dst,some (g,want),i⟩ s) Ls (upd ρ g (.bool true)) d L)
  (h2:¬p→gws P pan Qn (.op tk ⟨dst,some (g,want),i⟩ s) Ls (upd ρ g (.bool false)) d L):gws P pan Qn (.op tk ⟨dst,some (g,want),i⟩ s) Ls ρ d L:=
 UD e (fun h=>h1 (of_decide_eq_true h)) (fun h=>h2 (of_decide_eq_false h))
def Nv{g:Nat}{want:Bool}{dst:Option Nat}[Decidable p](e:ρ g=.bool (decide p))(hp:p)(h:gws P pan Qn (.op tk ⟨dst,some (g,want),i⟩ s) Ls (upd ρ g (.bool true)) d L):
  gws P pan Qn (.op tk ⟨dst,some (g,want),i⟩ s) Ls ρ d L:=Fj (by rw[e];simp[hp]) h
def Is{g:Nat}{want:Bool}{dst:Option Nat}[Decidable p](e:ρ g=.bool (decide p))(hp:¬p)(h:gws P pan Qn (.op tk ⟨dst,some (g,want),i⟩ s) Ls (upd ρ g (.bool false)) d L):
  gws P pan Qn (.op tk ⟨dst,some (g,want),i⟩ s) Ls ρ d L:=Fj (by rw[e];simp[hp]) h
def G6{g:Nat}{want b:Bool}{dst:Option Nat}(e:ρ g=.bool b)(hp:b=true)(h:gws P pan Qn (.op tk ⟨dst,some (g,want),i⟩ s) Ls (upd ρ g (.bool true)) d L):
  gws P pan Qn (.op tk ⟨dst,some (g,want),i⟩ s) Ls ρ d L:=Fj (by rw[e,hp]) h
def G5{g:Nat}{want b:Bool}{dst:Option Nat}(e:ρ g=.bool b)(hp:b=false)(h:gws P pan Qn (.op tk ⟨dst,some (g,want),i⟩ s) Ls (upd ρ g (.bool false)) d L):
  gws P pan Qn (.op tk ⟨dst,some (g,want),i⟩ s) Ls ρ d L:=Fj (by rw[e,hp]) h
def An(h:Qn ρ d L):gws P pan Qn .done [] ρ d L:=⟨d,L,Vs.refl _ _,h⟩
def A8(h:Qn ρ d (Ls++L)):gws P pan Qn .done Ls ρ d L:=⟨d,Ls++L,Vs.refl _ _,h⟩
def Cw(h:gws P pan Qn s [] ρ d (Ls++L)):gws P pan Qn (.bar s) Ls ρ d L:=h
def Fv(ex:ev ρ x=v)(h:∀b T,gws P pan Qn s Ls (upd ρ t (pZ b)) d (bx b T v.cells.toList::L)):
  gws P pan Qn (.op false ⟨some t,none,.box x⟩ s) Ls ρ d L:=⟨d,L,Vs.refl d L,fun b T=>⟨_,_,Vs.refl _ _,by subst ex;exact h b T⟩⟩
def CF{l}(ex:ev ρ x=.agg l.toArray)(h:∀b T,gws P pan Qn s Ls (upd ρ t (pZ b)) d (bx b T l::L)):
  gws P pan Qn (.op false ⟨some t,none,.box x⟩ s) Ls ρ d L:=Fv ex h
def DD{z}(h:∀b T,gws P pan Qn s Ls (upd ρ t (pZ b)) d (bx b T z.cells.toList::L)):
  gws P pan Qn (.op false ⟨some t,none,.alo z⟩ s) Ls ρ d L:=⟨d,L,Vs.refl d L,fun b T=>⟨_,_,Vs.refl _ _,h b T⟩⟩
def Cg{n:Nat}{b o:Nat}{l}(i:Nat)(hi:L[i]?=some (bx b T l))(ex:ev ρ x=.pointer (some ⟨b,o,none⟩))(ey:ev ρ y=v)
  (hn:v.cells.size=n) (hl:o+n≤l.length) (h1:(v.cells.toList.all (·.oneCell'))=true) (h:gws P pan Qn s Ls ρ d (L.set i (bx b T (patch l o v.cells.toList)))):
  gws P pan Qn (.op false ⟨none,none,.st n x y⟩ s) Ls ρ d L:=⟨d,L,Vs.refl d L,i,b,o,T,l,hi,ex,by rw[ey];exact hn,hl,by rw[ey];exact h1,_,_,Vs.refl _ _,by rw[ey];exact h⟩
def Dq{n sz:Nat}{z}{ps:List (Nat×Operand)}{cs}(hn:n*sz≤16777216)(e:Instr.fill (fun i=>some (i*sz,sz)) (BD z (n*sz)).toArray (ps.map fun p=>(p.1,ev ρ p.2))=some cs.toArray)
  (h:∀b T,gws P pan Qn s Ls (upd ρ t (.slice (some ⟨b,0,none⟩) n n)) d (bx b T cs::L)):gws P pan Qn (.op false ⟨some t,none,.bsl n sz z ps⟩ s) Ls ρ d L:=
 ⟨d,L,Vs.refl d L,hn,cs.toArray,e,fun b T=>⟨_,_,Vs.refl _ _,h b T⟩⟩
def Iv{sz by_:Nat}{z k'}{n c:Nat}(ex:ev ρ x=.int k (n:Nat))(ey:ev ρ y=.int k' (c:Nat))(h1:n≤c)(h2:c≤9223372036854775807)(h3:by_*c≤281474976710656)
  (h:∀b T,gws P pan Qn s Ls (upd ρ t (.slice (some ⟨b,0,none⟩) n c)) d (bx b T (BD z (c*sz))::L)):gws P pan Qn (.op false ⟨some t,none,.mks sz by_ z x y⟩ s) Ls ρ d L:=
 ⟨d,L,Vs.refl d L,k,k',n,c,ex,ey,h1,h2,h3,fun b T=>⟨_,_,Vs.refl _ _,h b T⟩⟩
def Bz{f args R vs}(ea:args.map (ev ρ)=vs)(hc:Ao P f vs d [] (Ret R))
  (h:∀v d' L',Le d d'→R v d' L'→gws P pan Qn s Ls (upd ρ t v) d' (L'++L)):gws P pan Qn (.op false ⟨some t,none,.call f args⟩ s) Ls ρ d L:=
 ⟨d,L,Vs.refl d L,.inl ⟨[],L,Ret R,Z,by rw[ea];exact hc,fun e d' L' hl hr=>by
  cases e with
  |returned v=>exact⟨_,_,Vs.refl _ _,h v d' L' hl hr⟩
  |panicked c=>exact hr.elim
  |outgrown=>exact hr⟩⟩
def Gb(n:Nat){f args R vs}(ea:args.map (ev ρ)=vs)(hc:Ao P f vs d (L.take n) (Ret R))
  (h:∀v d' L',Le d d'→R v d' L'→gws P pan Qn s Ls (upd ρ t v) d' (L'++L.drop n)):gws P pan Qn (.op false ⟨some t,none,.call f args⟩ s) Ls ρ d L:=
 ⟨d,L,Vs.refl d L,.inl ⟨L.take n,L.drop n,Ret R,by simp,by rw[ea];exact hc,fun e d' L' hl hr=>by
  cases e with
  |returned v=>exact⟨_,_,Vs.refl _ _,h v d' L' hl hr⟩
  |panicked c=>exact hr.elim
  |outgrown=>exact hr⟩⟩
def KC(n:Nat){f g}{first cap:Array Value}{args R vs}(ef:ev ρ f=.func (.func g) first cap)
  (ea:first.toList++args.map (ev ρ)++cap.toList=vs) (hc:Ao P g vs d (L.take n) (Ret R))
  (h:∀v d' L',Le d d'→R v d' L'→gws P pan Qn s Ls (upd ρ t v) d' (L'++L.drop n)):gws P pan Qn (.op false ⟨some t,none,.callv f args⟩ s) Ls ρ d L:=
 ⟨d,L,Vs.refl d L,g,first,cap,L.take n,L.drop n,Ret R,ef,by simp,by rw[ea];exact hc,fun e d' L' hl hr=>by
  cases e with
  |returned v=>exact⟨_,_,Vs.refl _ _,h v d' L' hl hr⟩
  |panicked c=>exact hr.elim
  |outgrown=>exact hr⟩
end
def PA{P}{pan:List PanicEntry→AP}{g:GOp}{ρ d Lk L}{K K':Env→AP}(hk:∀ρ d L,K ρ d L→K' ρ d L)(h:gop P pan g ρ d Lk L K):gop P pan g ρ d Lk L K':=JV hk h
def DX{P}{pan:List PanicEntry→AP}{Qn Qn':Env→AP}(hq:∀ρ d L,Qn ρ d L→Qn' ρ d L):∀(s:GS) {Ls ρ d L},gws P pan Qn s Ls ρ d L→gws P pan Qn' s Ls ρ d L
 |.done,_,_,_,_,⟨d1,L1,h1,h2⟩=>⟨d1,L1,h1,hq _ _ _ h2⟩
 |.op true _ s,_,_,_,_,h=>PA (fun _ _ _ h=>DX hq s h) h
 |.op false _ s,_,_,_,_,⟨d1,L1,h1,h2⟩=>⟨d1,L1,h1,PA (fun _ _ _ ⟨d3,L3,h3,h⟩=>⟨d3,L3,h3,DX hq s h⟩) h2⟩
 |.alt _ s t,_,_,_,_,⟨⟨d1,L1,h1,h2⟩,h3⟩=>⟨⟨d1,L1,h1,PA (fun _ _ _ ⟨d3,L3,h3,h⟩=>⟨d3,L3,h3,DX hq s h⟩) h2⟩,DX hq t h3⟩
 |.bar s,_,_,_,_,h=>DX hq s h
 |.par _ _ s,_,_,_,_,⟨Ra,Rb,d1,L1,L2,hv,sa,sb,h1,h2,h3⟩=>⟨Ra,Rb,d1,L1,L2,hv,sa,sb,h1,h2,fun ρ' d' M1 M2 hl ho r1 r2=>DX hq s (h3 ρ' d' M1 M2 hl ho r1 r2)⟩
def Fk{P}:∀(c:CC) {Q Q':Co}{ρ d L},gwp P c Q ρ d L→(∀ρ d L,Q.n ρ d L→Q'.n ρ d L)→(∀i ρ d L,Q.ex i ρ d L→Q'.ex i ρ d L)→
  (∀ρ d L,Q.ret ρ d L→Q'.ret ρ d L)→Q.pan=Q'.pan→gwp P c Q' ρ d L
 |.skip,_,_,_,_,_,h,h1,_,_,_=>h1 _ _ _ h
 |.reg false s,_,_,_,_,_,h,h1,_,_,h4=>by simp only[gwp] at h⊢;rw[←h4];exact DX h1 s h
 |.reg true s,_,_,_,_,_,h,h1,_,_,h4=>by
  simp only[gwp] at h⊢;obtain⟨d1,Ls,L1,hv,h⟩:=h;exact⟨d1,Ls,L1,hv,by rw[←h4];exact DX h1 s h⟩
 |.seq a b,_,_,_,_,_,h,h1,h2,h3,h4=>by
  simp only[gwp] at h⊢;exact Fk a h (fun ρ d L h=>Fk b h h1 h2 h3 h4) h2 h3 h4
 |.cond c a b,_,_,_,_,_,h,h1,h2,h3,h4=>by
  simp only[gwp] at h⊢;obtain⟨t,ht,ha,hb⟩:=h;exact⟨t,ht,fun e=>Fk a (ha e) h1 h2 h3 h4,fun e=>Fk b (hb e) h1 h2 h3 h4⟩
 |.block id a,_,_,_,_,_,h,h1,h2,h3,h4=>by
  simp only[gwp] at h⊢;refine Fk a h h1 (fun i ρ d L h=>?_) h3 h4;simp only at h⊢;split
  ·rename_i e;rw[if_pos e] at h;exact h1 _ _ _ h
  ·rename_i e;rw[if_neg e] at h;exact h2 _ _ _ _ h
 |.loop a,_,_,_,_,_,h,_,h2,h3,h4=>by
  simp only[gwp] at h⊢;obtain⟨I,hI,round⟩:=h;exact⟨I,hI,fun m ρ d L hm=>Fk a (round m ρ d L hm) (fun _ _ _ h=>h) h2 h3 h4⟩
 |.exit i,_,_,_,_,_,h,_,h2,_,_=>h2 i _ _ _ h
 |.ret,_,_,_,_,_,h,_,_,h3,_=>h3 _ _ _ h
 |.bad,_,_,_,_,_,h,_,_,_,_=>h.elim
def KW{P}{c:CC}{Q:Co}{N N':Env→AP}(hn:∀ρ d L,N ρ d L→N' ρ d L){ρ d L}(h:gwp P c {Q with n:=N} ρ d L):gwp P c {Q with n:=N'} ρ d L:=
 Fk c h hn (fun _ _ _ _ h=>h) (fun _ _ _ h=>h) Z
def Nf{d}{b:Nat}{l}(h:Le (bx b T l) d):DCs d b 0 l:=
 ⟨l.toArray,T,(0,0),h _ _ (Db _ _),fun i u hu=>by simpa using hu⟩
section
variable {P:Program}{Q:Co}{ρ:Env}{d:Aa}{L:List Aa}
def Av{s}(h:gws P Q.pan Q.n s [] ρ d L):gwp P (.reg false s) Q ρ d L:=h
def BI{s}(h:gws P Q.pan Q.n s L ρ d []):gwp P (.reg true s) Q ρ d L:=⟨d,L,[],by rw[Agj];exact Vs.refl d L,h⟩
def O9{s}(is js:List Nat)(hp:(is++js).isPerm (Agf L.length)=true)(h:gws P Q.pan Q.n s (pick L is) ρ d (pick L js)):gwp P (.reg true s) Q ρ d L:=
 ⟨d,pick L is,pick L js,by have:=Vs.pick (d:=d) (L:=L) (is++js) hp;simpa [pick] using this,h⟩
def Aw{a b:CC}(h:gwp P a {Q with n:=gwp P b Q} ρ d L):gwp P (.seq a b) Q ρ d L:=h
def AH(h:Q.n ρ d L):gwp P .skip Q ρ d L:=h
def DE(h:Q.ret ρ d L):gwp P .ret Q ρ d L:=h
def Bl{i:Nat}(h:Q.ex i ρ d L):gwp P (.exit i) Q ρ d L:=h
def Aq{i:Nat}{a:CC}(h:gwp P a {Q with ex:=fun j=>if j=i then Q.n else Q.ex j} ρ d L):gwp P (.block i a) Q ρ d L:=h
def Np{a b:CC}{t:Bool}(e:ev ρ c=.bool t)(h1:t=true→gwp P a Q ρ d L)(h2:t=false→gwp P b Q ρ d L):gwp P (.cond c a b) Q ρ d L:=⟨t,e,h1,h2⟩
def JN{a b:CC}[Decidable p](e:ev ρ c=.bool (decide p))(h1:p→gwp P a Q ρ d L)(h2:¬p→gwp P b Q ρ d L):gwp P (.cond c a b) Q ρ d L:=
 ⟨decide p,e,fun h=>h1 (of_decide_eq_true h),fun h=>h2 (of_decide_eq_false h)⟩
def Er{a b:CC}(e:ev ρ c=.bool true)(h:gwp P a Q ρ d L):gwp P (.cond c a b) Q ρ d L:=⟨true,e,fun _=>h,fun e=>by cases e⟩
def Cn{a b:CC}(e:ev ρ c=.bool false)(h:gwp P b Q ρ d L):gwp P (.cond c a b) Q ρ d L:=⟨false,e,(fun e=>by cases e),fun _=>h⟩
def EO{a b:CC}[Decidable p](e:ev ρ c=.bool (decide p))(hp:p)(h:gwp P a Q ρ d L):gwp P (.cond c a b) Q ρ d L:=Er (by rw[e];simp[hp]) h
def Fs{a b:CC}[Decidable p](e:ev ρ c=.bool (decide p))(hp:¬p)(h:gwp P b Q ρ d L):gwp P (.cond c a b) Q ρ d L:=Cn (by rw[e];simp[hp]) h
def UB{a b:CC}{t:Bool}(e:ev ρ c=.bool t)(hp:t=true)(h:gwp P a Q ρ d L):gwp P (.cond c a b) Q ρ d L:=Er (by rw[e,hp]) h
def YQ{a b:CC}{t:Bool}(e:ev ρ c=.bool t)(hp:t=false)(h:gwp P b Q ρ d L):gwp P (.cond c a b) Q ρ d L:=Cn (by rw[e,hp]) h
def Adk{a:CC}(I:Nat→Env→AP)(m:Nat)(h0:I m ρ d L)(round:∀m ρ d L,I m ρ d L→gwp P a {Q with n:=fun ρ d L=>∃m',m'<m∧I m' ρ d L} ρ d L):gwp P (.loop a) Q ρ d L:=
 ⟨I,⟨m,h0⟩,round⟩
def BN(ρ:Env):List (Nat×Value)→Prop
 |[]=>True
 |p::l=>ρ p.1=p.2∧BN ρ l
def J4(ρ:Env):List (Nat×Value)→Env
 |[]=>ρ
 |p::l=>upd (J4 ρ l) p.1 p.2
def JG{ρ}:∀{l:List (Nat×Value)},BN ρ l→J4 ρ l=ρ
 |[],_=>rfl
 |p::l,⟨h1,h2⟩=>by simp only[J4];rw[JG h2];exact Uo h1
def CU{c:CC}(l:List (Nat×Value))(e:BN ρ l)(h:gwp P c Q (J4 ρ l) d L):gwp P c Q ρ d L:=by rwa [JG e] at h
def BN.app{ρ}:∀{l m:List (Nat×Value)},BN ρ l→BN ρ m→BN ρ (l++m)
 |[],_,_,h=>h
 |_::_,_,⟨h1,h2⟩,h=>⟨h1,h2.app h⟩
def BN.off{X:List Nat}{ρ ρ'}(ho:Off X ρ ρ'):∀{l:List (Nat×Value)},(l.all fun p=> !X.contains p.1)=true→BN ρ l→BN ρ' l
 |[],_,_=>trivial
 |p::l,h,⟨h1,h2⟩=>by
  simp only[Akp,Afb] at h;exact⟨(ho p.1 (fun hm=>by have:=h.1;simp[hm] at this)).trans h1,BN.off ho h.2 h2⟩
def Gh{Qn:Env→AP}{pan:List PanicEntry→AP}{Ls β a b s}(keep:List (Nat×Value))(sa:α→List (Nat×Value))(Ia:α→AP)(sb:β→List (Nat×Value))(Ib:β→AP)(L1 L2:List Aa)(hv:L=L1++L2)
  (ma:∀x d d' M,Le d d'→Ia x d M→Ia x d' M) (mb:∀x d d' M,Le d d'→Ib x d M→Ib x d' M) (ka:∀x,((sa x).all fun p=> !b.B5.contains p.1)=true) (kb:∀x,((sb x).all fun p=> !a.B5.contains p.1)=true)
  (kk:(keep.all fun p=> !(a.B5++b.B5).contains p.1)=true) (hk:BN ρ keep)
  (h1:gws P CN (G4 Ls fun ρ d M=>∃x,BN ρ (sa x)∧Ia x d M) a Ls ρ d L1) (h2:gws P CN (G4 Ls fun ρ d M=>∃x,BN ρ (sb x)∧Ib x d M) b Ls ρ d L2)
  (h3:∀x y ρ d' M1 M2,Le d d'→Ia x d' M1→Ib y d' M2→gws P pan Qn s Ls (J4 ρ (sa x++(sb y++keep))) d' (M1++M2)):gws P pan Qn (.par a b s) Ls ρ d L:=by
 refine⟨_,_,d,L1,L2,hv▸Vs.refl d L,?_,?_,h1,h2,fun ρ' d' M1 M2 hl ho ⟨x,hx,ix⟩ ⟨y,hy,iy⟩=>?_⟩
 ·rintro ρ ρ' d d' M ho hl ⟨x,hx,ix⟩
  exact⟨x,hx.off ho (ka x),ma x d d' M hl ix⟩
 ·rintro ρ ρ' d d' M ho hl ⟨x,hx,ix⟩
  exact⟨x,hx.off ho (kb x),mb x d d' M hl ix⟩
 ·have:=h3 x y ρ' d' M1 M2 hl ix iy
  rwa [JG (hx.app (hy.app (hk.off ho kk)))] at this
def Cs{a:CC}(slots:α→List (Nat×Value))(inv:α→Aa→List Aa→Prop)(meas:α→Nat)(x0:α)(h0:BN ρ (slots x0))(i0:inv x0 d L)
  (round:∀x ρ d L,inv x d L→gwp P a {Q with n:=fun ρ d L=>∃x',meas x'<meas x∧BN ρ (slots x')∧inv x' d L} (J4 ρ (slots x)) d L):gwp P (.loop a) Q ρ d L:=by
 refine Adk (fun m ρ d L=>∃x,meas x=m∧BN ρ (slots x)∧inv x d L) (meas x0) ⟨x0,Z,h0,i0⟩ ?_
 rintro m ρ d L ⟨x,rfl,h1,h2⟩
 refine CU _ h1 (KW (fun ρ' d' L' ⟨x',k1,k2,k3⟩=>⟨meas x',k1,x',Z,k2,k3⟩) (round x ρ d L h2))
def DF{a:CC}(slots:α→List (Nat×Value))(Lx:α→List Aa)(ok:α→Prop)(meas:α→Nat)(x0:α)(h0:BN ρ (slots x0))(hL:L=Lx x0)(hok:ok x0)
  (round:∀x ρ,ok x→gwp P a {Q with n:=fun ρ d' L'=>∃x',meas x'<meas x∧BN ρ (slots x')∧d'=d∧L'=Lx x'∧ok x'} (J4 ρ (slots x)) d (Lx x)):gwp P (.loop a) Q ρ d L:=
 Cs slots (fun x d' L'=>d'=d∧L'=Lx x∧ok x) meas x0 h0 ⟨Z,hL,hok⟩ (fun x ρ d' L' ⟨h1,h2,h3⟩=>by subst h1;subst h2;exact round x ρ h3)
def G1{a b:CC}(M:Env→AP)(h1:gwp P a {Q with n:=M} ρ d L)(h2:∀ρ d L,M ρ d L→gwp P b Q ρ d L):gwp P (.seq a b) Q ρ d L:=
 Aw (KW h2 h1)
def Vs.Ii(d:Aa):∀L:List Aa,∃d',Vs d L d' []∧Le d d'∧∀h∈L,Le h d'
 |[]=>⟨d,Vs.refl d [],Le.refl d,fun _ h=>by cases h⟩
 |h::L=>by
  obtain⟨d',h1,h2,h3⟩:=Vs.Ii (Gk.join d h) L;refine⟨d',Vs.freeze.trans h1,(Le.Ar d h).trans h2,fun k hk=>?_⟩
  rcases Afv.1 hk with rfl|hk
  ·exact(Le.Bc d k).trans h2
  ·exact h3 k hk
def Aex{R}{t:Nat}(e:ρ t=v)(h:∀d',Le d d'→(∀k∈L,Le k d')→R (.returned v) d' []):C9 [.tmp t] R ρ d L:=
 let ⟨d',h1,h2,h3⟩:=Vs.Ii d L
 ⟨[v],⟨e.symm,trivial⟩,d',[],h1,h d' h2 h3⟩
def BZ{R}{t:Nat}{L'}(e:ρ t=v)(hs:L'.Sublist L)(h:R (.returned v) d L'):C9 [.tmp t] R ρ d L:=
 ⟨[v],⟨e.symm,trivial⟩,d,L',Vs.drop hs,h⟩
def KX{R}{t:Nat}(e:ρ t=v)(h:R (.returned v) d []):C9 [.tmp t] R ρ d L:=BZ e (Agp L) h
def CJ{R}{t u:Nat}{w L'}(e:ρ t=v)(e':ρ u=w)(hs:L'.Sublist L)(h:R (.returned (.tuple #[v,w])) d L'):C9 [.tmp t,.tmp u] R ρ d L:=
 ⟨[v,w],⟨e.symm,e'.symm,trivial⟩,d,L',Vs.drop hs,h⟩
def SC{R}{t u:Nat}{w}(e:ρ t=v)(e':ρ u=w)(h:R (.returned (.tuple #[v,w])) d []):C9 [.tmp t,.tmp u] R ρ d L:=CJ e e' (Agp L) h
end
end
def Ak{P}{Q:Co}{ρ L s}{b:CC}(h:gws P Q.pan (gwp P b Q) s [] ρ d L):gwp P (.seq (.reg false s) b) Q ρ d L:=h
section
def Dj(P:Program)(f:FuncId)(args:List Value)(d:Aa)(v:Value):Prop:=Ao P f args d [] (Ret fun r d' L'=>r=v∧d'=d∧L'=[])
section
variable {P:Program}{pan:List PanicEntry→AP}{Qn:Env→AP}{Ls L:List Aa}{ρ:Env}{d:Aa}{tk:Bool}{s:GS}{t:Nat}
def BH{f args vs}(ea:args.map (ev ρ)=vs)(hc:Dj P f vs d v)
  (h:gws P pan Qn s Ls (upd ρ t v) d L):gws P pan Qn (.op false ⟨some t,none,.call f args⟩ s) Ls ρ d L:=
 Bz ea hc (fun r d' L' _ ⟨h1,h2,h3⟩=>by subst h1;subst h2;subst h3;exact h)
end
section
variable {P:Program}{pan:List PanicEntry→AP}{Qn:Env→AP}{Ls L:List Aa}{ρ:Env}{d:Aa}{tk:Bool}{s:GS}{t:Nat}
def V9{f g}{first cap:Array Value}{args vs}(ef:ev ρ f=.func (.func g) first cap)(ea:first.toList++args.map (ev ρ)++cap.toList=vs)(hc:Dj P g vs d v)
  (h:gws P pan Qn s Ls (upd ρ t v) d L):gws P pan Qn (.op false ⟨some t,none,.callv f args⟩ s) Ls ρ d L:=
 KC 0 ef ea hc (fun r d' L' _ ⟨h1,h2,h3⟩=>by subst h1;subst h2;subst h3;exact h)
end
def int_eq(h:a=b):Value.int k a=Value.int k b:=by rw[h]
def IF{ρ d L}{t:Nat}(e:ρ t=.int k a)(h:a=b):C9 [.tmp t] (Ret fun r d' L'=>r=.int k b∧d'=d∧L'=[]) ρ d L:=
 KX e ⟨by rw[h],Z,Z⟩
def Fa{ρ d L}{t:Nat}{a b:Bool}(e:ρ t=.bool a)(h:a=b):C9 [.tmp t] (Ret fun r d' L'=>r=.bool b∧d'=d∧L'=[]) ρ d L:=
 KX e ⟨by rw[h],Z,Z⟩
def AbB{ρ d L}{t:Nat}(e:ρ t=v):C9 [.tmp t] (Ret fun r d' L'=>r=v∧d'=d∧L'=[]) ρ d L:=KX e ⟨Z,Z,Z⟩
def Kn{ρ d L}{t u:Nat}{a':Int}{p q:Bool}(e:ρ t=.int k a)(e':ρ u=.bool p)(h:a=a')(h':p=q):
  C9 [.tmp t,.tmp u] (Ret fun r d' L'=>r=.tuple #[.int k a',.bool q]∧d'=d∧L'=[]) ρ d L:=SC e e' ⟨by rw[h,h'],Z,Z⟩
def RSl{α}(sz:Nat)(R:Aa→List Value→α→Prop)(d:Aa)(v:Value)(xs:List α):Prop:=
 ∃a c b o,v=.slice a xs.length c∧SAd a xs.length b o∧(c≠0→∀a',a=some a'→a'.spot=none)∧(a=none→c=0)∧xs.length≤c∧c≤9223372036854775807∧xs.length≤140737488355328∧
  ∀i (h:i<xs.length),∃cs,cs.length=sz∧DCs d b (o+i*sz) cs∧R d cs xs[i]
def RSl.mono{sz:Nat}{R}(hR:∀{d d' cs x},Le d d'→R d cs x→R d' cs x){d d'}{xs:List α}(h:RSl sz R d v xs)(hl:Le d d'):RSl sz R d' v xs:=
 let ⟨a,c,b,o,h1,h2,h3,h4,h5,h6,h7,h8⟩:=h
 ⟨a,c,b,o,h1,h2,h3,h4,h5,h6,h7,fun i hi=>let ⟨cs,k1,k2,k3⟩:=h8 i hi;⟨cs,k1,k2.mono hl,hR hl k3⟩⟩
def RSl.nil{sz:Nat}{R d}:RSl sz R d nV ([]:List α):=
 ⟨none,0,0,0,Z,fun h=>absurd Z h,fun _ _ h=>(nomatch h),fun _=>Z,Afe _,by omega,Agd _,fun i h=>absurd h (Nat.not_lt_zero i)⟩
def RSl.BW{sz:Nat}{R d}{xs:List α}(h:RSl sz R d v xs):xs.length≤140737488355328:=
 let ⟨_,_,_,_,_,_,_,_,_,_,h7,_⟩:=h
 h7
def Ax(_:Aa)(cs:List Value)(x:UInt8):Prop:=cs=[Al x]
def Bh(_:Aa)(cs:List Value)(x:Int):Prop:=cs=[vZ x]∧ -9223372036854775808≤x∧x≤9223372036854775807
def Mh(_:Aa)(cs:List Value)(x:List UInt8):Prop:=cs=[BQ x]∧x.length≤140737488355328
def Ay(d:Aa)(v:Value)(l:List UInt8):Prop:=RSl 1 Ax d v l
def D9(d:Aa)(v:Value)(l:List Int):Prop:=RSl 1 Bh d v l
def Qg(d:Aa)(v:Value)(l:List (List UInt8)):Prop:=RSl 1 Mh d v l
def RBs(d:Aa)(cs:List Value)(l:List UInt8):Prop:=∃u,cs=[u]∧Ay d u l
def DG(d:Aa)(v:Value)(l:List (List UInt8)):Prop:=RSl 1 RBs d v l
def Ay.BW{d l}(h:Ay d v l):l.length≤140737488355328:=RSl.BW h
def Ay.mono{d d' l}(h:Ay d v l)(hl:Le d d'):Ay d' v l:=RSl.mono (fun _ h=>h) h hl
def D9.mono{d d'}{l:List Int}(h:D9 d v l)(hl:Le d d'):D9 d' v l:=RSl.mono (fun _ h=>h) h hl
def Qg.mono{d d' l}(h:Qg d v l)(hl:Le d d'):Qg d' v l:=RSl.mono (fun _ h=>h) h hl
def DG.mono{d d' l}(h:DG d v l)(hl:Le d d'):DG d' v l:=RSl.mono (fun hl ⟨u,h1,h2⟩=>⟨u,h1,h2.mono hl⟩) h hl
section
variable {P:Program}{pan:List PanicEntry→AP}{Qn:Env→AP}{Ls L:List Aa}{ρ:Env}{d:Aa}{tk:Bool}{s:GS}{t:Nat}
def BX{sz:Nat}{R}{xs:List α}(ex:ev ρ x=v)(hr:RSl sz R d v xs)(h:gws P pan Qn s Ls (upd ρ t (vZ xs.length)) d L):
  gws P pan Qn (.op tk ⟨some t,none,.len x⟩ s) Ls ρ d L:=by
 obtain⟨a,c,b,o,rfl,_⟩:=hr
 exact AA ex h
def Bv{l}(ex:ev ρ x=v)(hr:Ay d v l)(h:gws P pan Qn s Ls (upd ρ t (BQ l)) d L):gws P pan Qn (.op tk ⟨some t,none,.b2s x⟩ s) Ls ρ d L:=by
 obtain⟨a,c,b,o,rfl,h2,h3,h4,h5,h6,h7,h8⟩:=hr;refine Ad4 (b:=b) (o:=o) ex Z h2 (fun i u hu=>?_) h;obtain⟨hi,rfl⟩:=Afp.1 hu;obtain⟨cs,k1,k2,k3⟩:=h8 i hi;have k3:cs=[Al l[i]]:=k3;subst k3;rw[Aho] at k2;exact BR k2.one
def Rw{C:Addr→Value→Prop}{l}(hr:Ay d v l)(hC:∀b o u,DC d b o u→C ⟨b,o,none⟩ u):Ga C v l:=by
 obtain⟨a,c,b,o,rfl,h2,h3,h4,h5,h6,h7,h8⟩:=hr;refine .inr ⟨a,c,Z,fun e=>?_,fun a' ha i u hu=>?_⟩
 ·cases l with
  |nil=>rfl
  |cons u us=>have:=h2 (by simp);rw[e] at this;cases this
 ·obtain⟨hi,rfl⟩:=Afp.1 hu;have e:=h2 (by omega);rw[ha] at e;cases e;obtain⟨cs,k1,k2,k3⟩:=h8 i hi;have k3:cs=[Al l[i]]:=k3;subst k3;rw[Aho] at k2;rw[Addr.add_lit];exact hC _ _ _ k2.one
def Ac4{w l m}(ex:ev ρ x=v)(ey:ev ρ y=w)(hr:Ay d v l)(hr':Ay d w m)(h:gws P pan Qn s Ls (upd ρ t (vZ (Lib.compareBytes l m))) d L):
  gws P pan Qn (.op tk ⟨some t,none,.bcmp x y⟩ s) Ls ρ d L:=by
 subst ex;subst ey
 exact AdQ (Rw hr fun _ _ _ h=>BR h) (Rw hr' fun _ _ _ h=>BR h) h
end
def Fp:∀a:List UInt8,Op.bytesLess a a=false
 |[]=>rfl
 |a::l=>by simp[Op.bytesLess,Fp l]
def K8:∀{a b c},Op.bytesLess a b=true→Op.bytesLess b c=true→Op.bytesLess a c=true
 |_,[],_,h,_=>by cases ‹List UInt8›<;>simp[Op.bytesLess] at h
 |_,_::_,[],_,h=>by simp[Op.bytesLess] at h
 |[],_::_,_::_,_,_=>by simp[Op.bytesLess]
 |a::l,b::m,c::n,h1,h2=>by
  simp only[Op.bytesLess,Agl,Afb,decide_eq_true_eq,beq_iff_eq,UInt8.lt_iff_toNat_lt] at h1 h2⊢;rcases h1 with h1|⟨rfl,h1⟩
  ·rcases h2 with h2|⟨rfl,h2⟩
   ·exact .inl (by omega)
   ·exact .inl h1
  ·rcases h2 with h2|⟨rfl,h2⟩
   ·exact .inl h2
   ·exact .inr ⟨Z,K8 h1 h2⟩
def K0:∀a b:List UInt8,Op.bytesLess a b=true∨a=b∨Op.bytesLess b a=true
 |[],[]=>.inr (.inl Z)
 |[],_::_=>.inl Z
 |_::_,[]=>.inr (.inr Z)
 |a::l,b::m=>by
  simp only[Op.bytesLess,Agl,Afb,decide_eq_true_eq,beq_iff_eq,UInt8.lt_iff_toNat_lt,List.cons.injEq];rcases Nat.lt_trichotomy a.toNat b.toNat with h|h|h
  ·exact .inl (.inl h)
  ·have h:a=b:=UInt8.toNat_inj.1 h;subst h;rcases K0 l m with h|h|h
   ·exact .inl (.inr ⟨Z,h⟩)
   ·exact .inr (.inl ⟨Z,h⟩)
   ·exact .inr (.inr (.inr ⟨Z,h⟩))
  ·exact .inr (.inr (.inl h))
def ZM{a b}(h:Op.bytesLess a b=true):Op.bytesLess b a=false:=by
 cases e:Op.bytesLess b a with
 |false=>rfl
 |true=>have:=K8 h e;rw[Fp] at this;cases this
def Gl:∀a b:List UInt8,Lib.compareBytes a b<0↔Op.bytesLess a b=true
 |[],[]=>by simp[Lib.compareBytes,Op.bytesLess]
 |[],_::_=>by simp[Lib.compareBytes,Op.bytesLess]
 |_::_,[]=>by simp[Lib.compareBytes,Op.bytesLess]
 |a::l,b::m=>by
  have ih:=Gl l m;simp only[Lib.compareBytes,Op.bytesLess,Agl,Afb,decide_eq_true_eq,beq_iff_eq,UInt8.lt_iff_toNat_lt];split
  ·simp_all
  ·split
   ·rename_i h1 h2;constructor
    ·intro h;omega
    ·rintro(h|⟨rfl,_⟩)<;>omega
   ·rename_i h1 h2;have:a=b:=UInt8.toNat_inj.1 (by omega);subst this;rw[ih];simp
end
end Go.Gk
end
section
namespace Go.Gk
open Go Go.ChangeShapes Go.WideShapes Go.ChangeAt Go.RowKit
variable{W W':World}{apart fresh handsOn again:Bool}
section
def hw(W:World):Aa:=fun b o=>W.heap[b]?=some o
def Ok.hw(W:World):Ok [Gk.hw W] W:=⟨by simp,by simp;exact fun b o h=>h⟩
def SF(hs:Sub (hw W) W'){b:Nat}(hb:b<W.heap.size):W'.heap[b]?=W.heap[b]?:=by
 rw[hs b _ (Array.getElem?_eq_getElem hb),Array.getElem?_eq_getElem hb]
def Xj(hs:Sub (hw W) W')(hk:AL W W')(may:MemPlace→Prop):W.keptBut W' may:=by
 refine⟨hk.os,hk.output,fun i hi=>?_⟩
 rw[SF hs hi];exact(World.keptBut_refl W may).2.2 i hi
def Zn(hs:Sub (hw W) W'):∀(p:MemPlace),p.block<W.heap.size→W.sameAt W' p
 |.cell b o,h=>by
  have:=SF hs (b:=b) h;simp only[World.sameAt,World.cell?,this]
 |.map b,h=>SF hs h
def ZD(hs:Sub (hw W) W'){a:Addr}(h:a.block<W.heap.size):W'.frozen? a=W.frozen? a:=by
 simp only[World.frozen?,SF hs h]
section
variable {H:Type}{enc:TypeId×Value→H}{P:Program}
def R9(hl:laidOutB P=true){sp:Nat→Bool}:∀{ts:List TypeId}{vs}{ds:List (DataW H)}{ps:List MemPlace},(ts.all fun t=>P.readableRec t && decide (t<P.types.size))=true→
  DataW.TrodAll enc P W 0 (fun _=>true) true ts vs ds ps→(∀p∈ps,W.sameAt W' p)→(∀p∈ps,sp p.block=true)→DataW.TrodAll enc P W' 0 sp true ts vs ds ps
 |[],[],[],_,_,h,_,_=>h
 |t::ts,_::_,_::_,_,hr,⟨p,q,h1,h2,e⟩,hsame,hsp=>by
  simp only[Akp,Afb,decide_eq_true_eq] at hr;exact⟨p,q,WideElems.Trod_stays hl hr.1.1 hr.1.2 h1 (fun x hx=>hsame x (by rw[e];exact Aga _ hx)) (fun x hx=>hsp x (by rw[e];exact Aga _ hx)),
   R9 hl hr.2 h2 (fun x hx=>hsame x (by rw[e];exact Agc _ hx)) (fun x hx=>hsp x (by rw[e];exact Agc _ hx)),e⟩
def YP{fn:Func}{s:ChangeSpec}{args:Array Value}{ds gs:List (DataW H)}{before:List MemPlace}
  (hl:laidOutB P=true) (hp:(fn.params.toList.all fun t=>P.readableRec t && decide (t<P.types.size))=true)
  (hW:DataW.Whole enc P fn.params.toList s.vars apart W args.toList ds gs before) (hv:s.vars=[])
  (hs:s.fn H (ds++gs)={results:=[.lit (.bool true)],args:=ds}) {tb}(ht:fn.resultTypes= #[tb]) (hb:P.underlying tb=some .bool)
  (hsub:Sub (hw W) W') (hk:AL W W'):s.post enc P fn apart fresh handsOn again W args (.bool true) W':=by
 have hlt:=hW.lt
 have hres:∀(b:Nat) (sp:Nat→Bool) (hd:Bool),DataW.TrodAll enc P W' b sp hd fn.resultTypes.toList ((Value.bool true).resultList fn.resultTypes.size) (s.fn H (ds++gs)).results []:=by
  intro b sp hd;rw[hs,ht];exact trodAll_cons_mk (shut_bool hb true) trodAll_mk0
 have hW':=hW
 obtain⟨p,q,hA,hV,rfl,hz,hn⟩:=hW'
 rw[hv] at hV
 obtain⟨hg0,rfl⟩:=trodVars_none hV
 have hargs:∀sp:Nat→Bool,(∀x∈p++[],sp x.block=true)→DataW.TrodAll enc P W' 0 sp true fn.params.toList args.toList (s.fn H (ds++gs)).args p:=by
  intro sp h;rw[hs];exact R9 hl hp hA (fun x hx=>Zn hsub x (hlt x (by simpa using hx))) (fun x hx=>h x (by simpa using hx))
 have hvars:∀sp:Nat→Bool,DataW.TrodVars enc P W' sp s.vars (s.fn H (ds++gs)).vars []:=by
  intro sp;rw[hs,hv];rfl
 have hok:∀(j:Nat) (t:TypeId) (r:Value),fn.resultTypes[j]?=some t→((Value.bool true).resultList fn.resultTypes.size)[j]?=some r→Value.okWide P W' .any 0 t r:=
  ok_one ht Z (okWide_bool_mk hb true)
 refine⟨ds,gs,p++[],[],p,[],hW,hres _ _ _,hargs _ (fun x hx=>by simpa using hlt x hx),hvars _,Xj hsub hk _,fun _=>?_⟩
 refine⟨hok,_,_,([]++p)++[],⟨[]++p,[],trodAll_append (hargs _ (fun _ _=>Z)) (hres _ _ _),hvars _,Z,?_,?_⟩,?_⟩
 ·intro b off hp
  rw[ZD hsub (by have:=hlt _ (by simpa using hp);exact this)]
  exact hz b off (by simpa using hp)
 ·intro ha
  simpa using hn ha
 ·intro x hx _
  simpa using hx
def WU{f}{fn:Func}{s:ChangeSpec}{args:Array Value}{ds gs:List (DataW H)}{before:List MemPlace}
  (hl:laidOutB P=true) (hp:(fn.params.toList.all fun t=>P.readableRec t && decide (t<P.types.size))=true)
  (hW:DataW.Whole enc P fn.params.toList s.vars apart W args.toList ds gs before) (hv:s.vars=[])
  (hs:s.fn H (ds++gs)={results:=[.lit (.bool true)],args:=ds}) {tb}(ht:fn.resultTypes= #[tb]) (hb:P.underlying tb=some .bool)
  (hc:Ao P f args.toList (hw W) [] (Ret fun v _ _=>v=.bool true)):
  Calls P f args W fun e W'=>∃v,e=.returned v∧s.post enc P fn apart fresh handsOn again W args v W':=by
 have:=hc.2 [] W (by simpa using Ok.hw W)
 rw[show args.toList.toArray=args from by simp] at this
 refine this.mono fun e W' ⟨d',L',h1,h2,h3,h4⟩=>?_
 cases e with
 |returned v=>
  have hv':v=.bool true:=h4
  subst hv'
  exact⟨_,Z,YP hl hp hW hv hs ht hb (h1.head.le h2) h3⟩
 |panicked c=>exact h4.elim
 |outgrown=>exact h4.elim
end
end
end Go.Gk
end
section
namespace Go.Gk
open Go
variable{v:Value}
section
def Cf(sz:Nat)(v:Value)(n:Nat)(xs:List Value)(h:Aa):Prop:=
 xs.length=n*sz∧n≤140737488355328∧((v=nV∧n=0∧h=emp)∨
  ∃b T l c,v=.slice (some ⟨b,0,none⟩) n c∧h=bx b T l∧n≤c∧c≤9223372036854775807∧c*sz≤l.length∧l.take xs.length=xs)
def Cf.nil(sz:Nat):Cf sz nV 0 [] emp:=⟨by simp,by omega,.inl ⟨Z,Z,Z⟩⟩
def Cf.mk{sz n c b:Nat}{T l xs}(h1:xs.length=n*sz)(h2:n≤140737488355328)(h3:n≤c)(h4:c≤9223372036854775807)(h5:c*sz≤l.length)(h6:l.take xs.length=xs):
  Cf sz (.slice (some ⟨b,0,none⟩) n c) n xs (bx b T l):=⟨h1,h2,.inr ⟨b,T,l,c,Z,Z,h3,h4,h5,h6⟩⟩
def Cf.lit{sz n b:Nat}{T l}(h1:l.length=n*sz)(h2:n≤140737488355328):Cf sz (.slice (some ⟨b,0,none⟩) n n) n l (bx b T l):=
 Cf.mk h1 h2 (Afe n) (by omega) (by rw[h1];exact Afe _) (by simp)
def Cf.slice{sz n:Nat}{xs h}(o:Cf sz v n xs h):∃a b c,v=.slice a n c∧SAd a n b 0∧n≤c∧(c≠0→∀a',a=some a'→a'.spot=none)∧(a=none→c=0)∧c≤9223372036854775807∧
  ∀i u,xs[i]?=some u→∀d Lk,h∈Lk→HC d Lk ⟨b,i,none⟩ u:=by
 obtain⟨h1,h2,⟨rfl,rfl,rfl⟩|⟨b,T,l,c,rfl,rfl,h3,h4,h5,h6⟩⟩:=o
 ·refine⟨none,0,0,Z,fun h=>absurd Z h,Afe 0,(fun _ _ h=>nomatch h),fun _=>Z,by omega,fun i u hu=>?_⟩
  have:xs=[]:=Afl (by simpa using h1)
  subst this;simp at hu
 ·refine⟨_,b,c,Z,SAd.some n b 0,h3,(fun _ _ h=>by cases h;rfl),(fun h=>nomatch h),h4,fun i u hu d Lk hk=>⟨Z,bx b T l,.inr hk,l.toArray,T,(0,0),Db _ _,?_⟩⟩
  have hi:i<xs.length:=(Afp.1 hu).1
  rw[←h6] at hu
  rw[Ahc (by omega)] at hu
  simpa using hu
def Vs.put{d h h' L}{i:Nat}(hi:L[i]?=some h):Vs d (h'::L) d (L.set i h'):=by
 obtain⟨A,B,rfl,e2⟩:=FP hi h';rw[e2];refine(Vs.perm (L':=h::(A++h'::B)) ?_).trans (Vs.drop (Age _ _));refine(Afm h' Agi).trans ((Afx h h' _).trans (Afm h List.perm_middle.symm))
def RdX(d:Aa)(Lk:List Aa)(v:Value)(m sz:Nat)(news:List Value):Prop:=
 ∃a c,v=.slice a m c∧news.length=m*sz∧(a=none→news=[])∧∀a',a=some a'→∀i u,news[i]?=some u→HC d Lk (a'.add i) u
def RdX.lit{d Lk}{b n c sz:Nat}{T l}(i:Nat)(hi:Lk[i]?=some (bx b T l))(hl:l.length=n*sz):RdX d Lk (.slice (some ⟨b,0,none⟩) n c) n sz l:=
 ⟨_,c,Z,hl,(fun h=>nomatch h),fun a' h j u hu=>by cases h;rw[Addr.add_lit,Ahg];exact AG i hi hu⟩
def Cf.rdx{sz n:Nat}{xs h d Lk}(o:Cf sz v n xs h)(hk:h∈Lk):RdX d Lk v n sz xs:=by
 have hl:=o.1;obtain⟨a,b,c,rfl,h2,h3,h4,h5,h6,h7⟩:=o.slice;refine⟨a,c,Z,hl,?_,?_⟩
 ·intro e;cases xs with
  |nil=>rfl
  |cons u us=>
   have:n≠0:=by rintro rfl;simp at hl
   rw[h2 this] at e;cases e
 ·intro a' ha i u hu;have:n≠0:=by
   rintro rfl;have:xs=[]:=Afl (by simpa using hl);subst this;simp at hu
  have e:=h2 this;rw[ha] at e;cases e;rw[Addr.add_lit,Ahg];exact h7 i u hu d Lk hk
section
variable {P:Program}{pan:List PanicEntry→AP}{Qn:Env→AP}{Ls L:List Aa}{ρ:Env}{d:Aa}{s:GS}{t:Nat}
def Qx{sz by_:Nat}{z x y}(i:Nat){n m:Nat}{xs news h}(ex:ev ρ x=v)(hi:L[i]?=some h)(ho:Cf sz v n xs h)
  {w}(ey:ev ρ y=w) (hx:RdX d (Ls++L++L) w m sz news) (h1:(news.all (·.oneCell'))=true) (_hsz:0<sz) (hm:n+m≤140737488355328) (hb:(n+m)*by_≤140737488355328)
  (k:∀v' h',Cf sz v' (n+m) (xs++news) h'→∃d2 L2,Vs d (L.set i h') d2 L2∧gws P pan Qn s Ls (upd ρ t v') d2 L2):gws P pan Qn (.op false ⟨some t,none,.app sz by_ z x y⟩ s) Ls ρ d L:=by
 obtain⟨xa,xc,rfl,hl,hx0,hxc⟩:=hx
 have hxl:=ho.1
 have hlen:(xs++news).length=(n+m)*sz:=by rw[Afk,hxl,hl,Aht]
 refine⟨d,L,Vs.refl d L,?_⟩
 simp only[gop,gi,maxLen]
 obtain⟨h2,h3,⟨rfl,rfl,rfl⟩|⟨b,T,l,c,rfl,rfl,h4,h5,h6,h7⟩⟩:=ho
 ·have hxs:xs=[]:=Afl (by simpa using hxl)
  subst hxs
  refine⟨none,0,0,xa,m,xc,news,ex,ey,hl,h1,hx0,hxc,by omega,by omega,fun hle=>.inl ?_,fun hlt=>⟨by simpa using hb,[],by simp,fun _=>Z,(fun _ h=>nomatch h),fun b T c' hc1 hc2=>?_⟩⟩
  ·have hm0:m=0:=by omega
   subst hm0
   have hn:news=[]:=Afl (by simpa using hl)
   subst hn
   obtain⟨d2,L2,hv,hg⟩:=k nV emp (by simpa using Cf.nil sz)
   have e:L.set i emp=L:=by
    obtain⟨hlt,he⟩:=Afp.1 hi;rw[←he];simp
   rw[e] at hv
   exact⟨Z,d2,L2,hv,by simpa [put] using hg⟩
  ·have o:Cf sz (.slice (some ⟨b,0,none⟩) (0+m) c') (0+m) ([]++news) (bx b T (news++BD z ((c' - (0+m))*sz))):=by
    refine Cf.mk hlen hm (by omega) hc2 ?_ ?_
    ·simp only[Afk,hl,BD,Agu,List.length_range];rw[←Aht];exact Nat.le_of_eq (by congr 1;omega)
    ·simp
   obtain⟨d2,L2,hv,hg⟩:=k _ _ o
   exact⟨d2,L2,(Vs.put hi).trans hv,by simpa [put] using hg⟩
 ·refine⟨_,n,c,xa,m,xc,news,ex,ey,hl,h1,hx0,hxc,by omega,h5,fun hle=>.inr ⟨i,b,0,T,l,Z,hi,?_,?_⟩,fun hlt=>⟨hb,xs,hxl,(fun h=>nomatch h),fun a' ha j u hu=>?_,fun b' T' c' hc1 hc2=>?_⟩⟩
  ·rw[Ahg];exact Ahq (Agr sz hle) h6
  ·have h8:(n+m)*sz≤l.length:=Ahq (Agr sz hle) h6
   rw[Aht] at h8
   refine k (.slice (some ⟨b,0,none⟩) (n+m) c) (bx b T (patch l (0+n*sz) news)) (Cf.mk hlen hm hle h5 ?_ ?_)
   ·simp only[patch,Afk,Aft,Afo]
    have:=hl
    omega
   ·rw[hlen,Aht]
    have e1:l.take (n*sz)=xs:=by rw[←hxl];exact h7
    simp only[patch,Ahg,e1]
    rw[←hl,←hxl,←Afk]
    exact Ajr
  ·cases ha
   rw[Addr.add_lit,Ahg]
   refine⟨Z,bx b T l,.inr (Agc _ (Ahr hi)),l.toArray,T,(0,0),Db _ _,?_⟩
   have hj:j<xs.length:=(Afp.1 hu).1
   rw[←h7] at hu
   rw[Ahc (by omega)] at hu
   simpa using hu
  ·have o:Cf sz (.slice (some ⟨b',0,none⟩) (n+m) c') (n+m) (xs++news) (bx b' T' (xs++news++BD z ((c' - (n+m))*sz))):=by
    refine Cf.mk hlen hm hc1 hc2 ?_ ?_
    ·simp only[Afk,hxl,hl,BD,Agu,List.length_range];rw[←Aht,←Aht];exact Nat.le_of_eq (by congr 1;omega)
    ·exact Ajr
   obtain⟨d2,L2,hv,hg⟩:=k _ _ o
   exact⟨d2,L2,(Vs.put hi).trans hv,by simpa [put] using hg⟩
def Aeq{sz by_:Nat}{z x y}(i:Nat){n m:Nat}{xs news h}(ex:ev ρ x=v)(hi:L[i]?=some h)(ho:Cf sz v n xs h)
  {w}(ey:ev ρ y=w) (hx:RdX d (Ls++L++L) w m sz news) (h1:(news.all (·.oneCell'))=true) (hsz:0<sz) (hm:n+m≤140737488355328) (hb:(n+m)*by_≤140737488355328)
  (k:∀v' h',Cf sz v' (n+m) (xs++news) h'→gws P pan Qn s Ls (upd ρ t v') d (L.set i h')):gws P pan Qn (.op false ⟨some t,none,.app sz by_ z x y⟩ s) Ls ρ d L:=
 Qx i ex hi ho ey hx h1 hsz hm hb (fun v' h' o=>⟨d,_,Vs.refl _ _,k v' h' o⟩)
end
def Cf.dcs{sz n:Nat}{xs h d}(o:Cf sz v n xs h)(hl:Le h d):∃a b c,v=.slice a n c∧SAd a n b 0∧n≤c∧(c≠0→∀a',a=some a'→a'.spot=none)∧(a=none→c=0)∧c≤9223372036854775807∧
  (xs≠[]→∃(l:Array Value) (T:TypeId) (fr:Nat×Nat),d b (.cells l T fr)∧∀(i:Nat) (u:Value),xs[i]?=some u→l[i]?=some u):=by
 obtain⟨h1,h2,⟨rfl,rfl,rfl⟩|⟨b,T,l,c,rfl,rfl,h3,h4,h5,h6⟩⟩:=o
 ·have:xs=[]:=Afl (by simpa using h1)
  subst this
  exact⟨none,0,0,Z,fun h=>absurd Z h,Afe 0,(fun _ _ h=>nomatch h),fun _=>Z,by omega,fun h=>absurd Z h⟩
 ·refine⟨_,b,c,Z,SAd.some n b 0,h3,(fun _ _ h=>by cases h;rfl),(fun h=>nomatch h),h4,fun _=>⟨l.toArray,T,(0,0),hl _ _ (Db _ _),fun i u hu=>?_⟩⟩
  have hi:i<xs.length:=(Afp.1 hu).1
  rw[←h6] at hu
  rw[Ahc (by omega)] at hu
  simpa using hu
def Cf.rsl{α}{sz n:Nat}{R cs}{xs:List α}{h d}(o:Cf sz v n cs h)(hl:Le h d)(hn:n=xs.length)(hsz:0<sz)
  (hR:∀i (hi:i<xs.length),R d ((cs.drop (i*sz)).take sz) xs[i]):RSl sz R d v xs:=by
 have h1:=o.1
 have h2:=o.2.1
 obtain⟨a,b,c,rfl,k1,k2,k3,k4,k5,k6⟩:=o.dcs hl
 subst hn
 refine⟨a,c,b,0,Z,k1,k3,k4,k2,k5,h2,fun i hi=>⟨(cs.drop (i*sz)).take sz,?_,?_,hR i hi⟩⟩
 ·have:(i+1)*sz≤xs.length*sz:=Agr sz hi
  rw[Aht] at this
  simp only[Aft,Afo,h1]
  omega
 ·have:cs≠[]:=by
   rintro rfl;have h3:(i+1)*sz≤xs.length*sz:=Agr sz hi;have h4:xs.length*sz=0:=by rw[←h1];rfl
   rw[Aht,Nat.one_mul] at h3;omega
  obtain⟨l,T,fr,e1,e2⟩:=k6 this
  refine⟨l,T,fr,e1,fun j u hu=>?_⟩
  rw[List.getElem?_take] at hu
  split at hu
  ·rw[List.getElem?_drop] at hu
   rw[Ahg]
   exact e2 _ _ hu
  ·cases hu
def Cf.Z2{α}{n:Nat}{R cs}{xs:List α}{h d}(o:Cf 1 v n cs h)(hl:Le h d)(hn:n=xs.length)
  (hR:∀i (hi:i<xs.length),∃u,cs[i]?=some u∧R d [u] xs[i]):RSl 1 R d v xs:=by
 refine o.rsl hl hn (by omega) (fun i hi=>?_)
 obtain⟨u,hu,hr⟩:=hR i hi
 have:(cs.drop (i*1)).take 1=[u]:=by
  rw[Aho];obtain⟨hlt,he⟩:=Afp.1 hu;rw[Afy hlt,he];rfl
 rw[this];exact hr
def Cf.bytes{n:Nat}{xs h d}(o:Cf 1 v n (xs.map Al) h)(hl:Le h d):Ay d v xs:=by
 have hn:=o.1;refine o.Z2 hl (by simpa using hn.symm) (fun i hi=>⟨Al xs[i],by simp[hi],Z⟩)
def RSl.rdx{α R d}{xs:List α}{f:α→Value}(h:RSl 1 R d v xs)(hf:∀cs x,R d cs x→cs=[f x])(Lk:List Aa):RdX d Lk v xs.length 1 (xs.map f):=by
 obtain⟨a,c,b,o,rfl,h2,h3,h4,h5,h6,h7,h8⟩:=h;refine⟨a,c,Z,by simp,?_,?_⟩
 ·intro e;cases xs with
  |nil=>rfl
  |cons u us=>have:=h2 (by simp);rw[e] at this;cases this
 ·intro a' ha i u hu;have hi:i<xs.length:=by
   have:=(Afp.1 hu).1;simpa using this
  have e:=h2 (by omega);rw[ha] at e;cases e;obtain⟨cs,k1,k2,k3⟩:=h8 i hi;have:=hf _ _ k3;subst this;rw[Ahs,Afc hi] at hu;simp only[Aij,Option.some.injEq] at hu;subst hu;rw[Aho] at k2;rw[Addr.add_lit];exact BR k2.one
def Ay.rdx{d xs}(h:Ay d v xs)(Lk:List Aa):RdX d Lk v xs.length 1 (xs.map Al):=RSl.rdx h (fun _ _ h=>h) Lk
def D9.rdx{d}{xs:List Int}(h:D9 d v xs)(Lk:List Aa):RdX d Lk v xs.length 1 (xs.map (Value.int .i64)):=RSl.rdx h (fun _ _ h=>h.1) Lk
def Qg.rdx{d xs}(h:Qg d v xs)(Lk:List Aa):RdX d Lk v xs.length 1 (xs.map BQ):=RSl.rdx h (fun _ _ h=>h.1) Lk
end
end Go.Gk
end
section
namespace Go.Gk
open Go Go.ChangeShapes Go.WideShapes Go.ChangeAt Go.RowKit
section
variable {H:Type}{enc:TypeId×Value→H}{P:Program}{W:World}
def Rd(enc:TypeId×Value→H)(P:Program)(W:World)(t:TypeId){α}(R:Aa→List Value→α→Prop):Prop:=
 ∀(held:Bool) (fuel:Nat) (cs:List Value) (x:DataW H×List MemPlace),DataW.trod enc P W 0 (fun _=>true) held fuel t cs=some x→(∀n∈x.1.weights P t,n≤reachBytes)→∃a:α,R (hw W) cs a
def AaG{n:Nat}(h:n≤reachBytes):n≤140737488355328:=Nat.le_of_lt (Nat.lt_of_le_of_lt h (by decide))
def V3{t}(ht:P.underlying t=some (.int .u8)):Rd enc P W t Ax:=by
 intro held fuel cs x h _;obtain⟨n,h1,h2,h3⟩:=DataW.trod_int ht h;have hb:=bounds_u8 h3;refine⟨UInt8.ofNat n.toNat,?_⟩
 subst h1;simp only[Ax,Al,List.cons.injEq,Value.int.injEq,true_and,and_true];have:n.toNat<256:=by omega
 simp[Ain this];omega
def YA{t}(ht:P.underlying t=some (.int .i64)):Rd enc P W t Bh:=by
 intro held fuel cs x h _;obtain⟨n,h1,h2,h3⟩:=DataW.trod_int ht h;have hb:=bounds_i64 h3;exact⟨n,h1,hb.1,hb.2⟩
def QB{a:Addr}{v}(h:W.cell? a=some v):a.spot=none∧DC (hw W) a.block a.off v:=by
 refine⟨RX h,?_⟩
 unfold World.cell? at h;split at h
 ·rename_i c T fr hb;split at h
  ·cases h
  ·exact⟨c,T,fr,hb,h⟩
 ·cases h
def Oz{a:Addr}{n:Nat}{cs}(h:W.cells? 0 a n=some cs)(hn:0<n):a.spot=none∧cs.length=n∧DCs (hw W) a.block a.off cs:=by
 unfold World.cells? at h;rw[if_pos (Agd _)] at h;have hl:cs.length=n:=by simpa using mapM_some_length h
 have one:∀i,i<n→∀u,cs[i]?=some u→W.cell? (a.add i)=some u:=by
  intro i hi u hu;have:=mapM_some_get h i i (by simp[hi]);rw[this,hu]
 have hs:a.spot=none:=by
  have:=one 0 hn cs[0] (Afc (by omega));rw[add_zero] at this;exact(QB this).1
 obtain⟨b,o,s⟩:=a;simp only at hs;subst hs;have h0:=one 0 hn cs[0] (Afc (by omega));rw[Addr.add_lit] at h0;obtain⟨_,c,T,fr,hb,_⟩:=QB h0;refine⟨Z,hl,c,T,fr,hb,fun i u hu=>?_⟩
 have hi:i<n:=by have:=(Afp.1 hu).1;omega
 have:=one i hi u hu;rw[Addr.add_lit] at this;obtain⟨_,c',T',fr',hb',hc'⟩:=QB this;simp only[Gk.hw] at hb hb';rw[hb] at hb';cases hb';exact hc'
def OT{t e:TypeId}{sz:Nat}{α:Type}{R:Aa→List Value→α→Prop}(ht:P.underlying t=some (.slice e))(hc:P.cellsOf e=sz)(hsz:0<sz)(hb:1≤P.bytesOf e)(he:Rd enc P W e R):
  Rd enc P W t (fun d cs (xs:List α)=>∃v,cs=[v]∧RSl sz R d v xs):=by
 subst hc
 intro held fuel cs x h hw
 rcases DataW.trod_slice ht h with ⟨rfl,rfl⟩|⟨a,len,cap,elems,rest,n,rfl,rfl,rfl,_,hlc,hcm,hlen,hel,hsp,_⟩
 ·exact⟨[],_,Z,RSl.nil⟩
 ·have hwt:(elems.length+rest.length)*P.bytesOf e≤reachBytes:=hw _ (by simp[DataW.weights,ht])
  obtain⟨hrl,hre⟩:=hsp Z
  have hcap:cap≤140737488355328:=by
   have h1:(elems.length+rest.length)*1≤(elems.length+rest.length)*P.bytesOf e:=Nat.mul_le_mul_left _ hb;have h2:=AaG (Ahq h1 hwt);omega
  have one:∀i (hi:i<len),∃u:α,∃cs,cs.length=P.cellsOf e∧a.spot=none∧DCs (Gk.hw W) a.block (a.off+i*P.cellsOf e) cs∧R (Gk.hw W) cs u:=by
   intro i hi;have h1:=hel i hi;have hi':i<elems.length:=by omega
   rw[Afc hi',Agm] at h1;obtain⟨cs,h2,h3⟩:=h1;obtain⟨k1,k2,k3⟩:=Oz h2 hsz;have hmem:∀(l:List (DataW H)) (y:DataW H),y∈l→∀n∈y.weights P e,n∈DataW.weightsAll P e l:=by
    intro l;induction l with
    |nil=>intro y hy;cases hy
    |cons z l ih=>
     intro y hy n hn
     simp only[DataW.weightsAll,Afj]
     rcases Afv.1 hy with rfl|hy
     ·exact .inl hn
     ·exact .inr (ih y hy n hn)
   obtain⟨u,hu⟩:=he held n cs elems[i] h3 (fun m hm=>hw m (by
    simp only[DataW.weights,ht,Afv,Afj];exact .inr (.inl (hmem _ _ (Ajc.2 ⟨elems[i],List.getElem_mem hi',Z⟩) m hm))))
   have hs:a.spot=none:=by
    obtain⟨b,o,s⟩:=a;by_cases h0:i*P.cellsOf e=0
    ·rw[h0,add_zero] at k1;exact k1
    ·have:=hel 0 (by omega);rw[Afc (by omega),Agm] at this;obtain⟨cs',h2',_⟩:=this;rw[Nat.zero_mul,add_zero] at h2';exact(Oz h2' hsz).1
   obtain⟨b,o,s⟩:=a;simp only at hs;subst hs;rw[Addr.add_lit] at k3;exact⟨u,cs,k2,Z,k3,hu⟩
  have hspot:cap≠0→a.spot=none:=by
   intro h0;by_cases h1:0<len
   ·obtain⟨_,_,_,hs,_⟩:=one 0 h1;exact hs
   ·have:=hre 0 (by omega);have hl0:len=0:=by omega
    rw[Afc (by omega),Agm] at this;obtain⟨cs',h2',_⟩:=this;rw[hl0,Ahg,Nat.zero_mul,add_zero] at h2';exact(Oz h2' hsz).1
  refine⟨List.ofFn (n:=len) fun i=>(one i i.isLt).choose,_,Z,some a,cap,a.block,a.off,?_,?_,fun h0 a' ha=>?_,(fun h=>nomatch h),?_,by omega,?_,?_⟩
  ·simp
  ·intro h0
   have h0':len≠0:=by simpa using h0
   have:=hspot (by omega)
   obtain⟨b,o,s⟩:=a;simp only at this;subst this;rfl
  ·cases ha;exact hspot h0
  ·simpa using hlc
  ·simp;omega
  ·intro i hi
   have hi':i<len:=by simpa using hi
   obtain⟨cs,k1,_,k3,k4⟩:=(one i hi').choose_spec
   exact⟨cs,k1,k3,by simpa using k4⟩
def X0{t}{fs:Array Field}(ht:P.underlying t=some (.struct fs)){held:Bool}{fuel:Nat}{cs}{x:DataW H×List MemPlace}(h:DataW.trod enc P W 0 (fun _=>true) held fuel t cs=some x)
  (hw:∀n∈x.1.weights P t,n≤reachBytes):cs.length=P.cellsOf t∧∀(i o ty sz:Nat),(fs[i]?).map (fun f=>(f.offset,f.type))=some (o,ty)→P.cellsOf ty=sz→∀{α R},Rd enc P W ty R→
   ∃a:α,R (Gk.hw W) ((cs.drop o).take sz) a:=by
 obtain⟨xs,n,rfl,rfl,hl,hxl,hf⟩:=DataW.trod_struct ht h
 refine⟨hl,fun i o ty sz hi hsz α R hr=>?_⟩
 subst hsz
 rw[Agn] at hi
 obtain⟨f,hi,e⟩:=hi
 simp only[Prod.mk.injEq] at e
 obtain⟨rfl,rfl⟩:=e
 have h1:=hf i f hi
 have hi':i<fs.size:=(Array.getElem?_eq_some_iff.1 hi).1
 rw[Afc (by omega)] at h1
 refine hr held n _ _ h1 (fun m hm=>hw m ?_)
 simp only[DataW.weights,ht]
 refine DataW.weights_mem_each (j:=i) (t:=f.type) ?_ ?_ m hm
 ·rw[Ahs,Array.getElem?_toList,hi];rfl
 ·rw[Ahs,Afc (by omega)];rfl
def Od{ts:List TypeId}{ds:List (DataW H)}(h:(DataW.weightsEach P ts ds).all (·≤reachBytes)=true){j:Nat}{t}{d:DataW H}(ht:ts[j]?=some t)(hd:ds[j]?=some d):∀n∈d.weights P t,n≤reachBytes:=by
 intro n hn;simpa using Afs.1 h _ (DataW.weights_mem_each ht hd n hn)
def Ze{t α R}(hr:Rd enc P W t R){v}{d:DataW H}{ps:List MemPlace}(h:DataW.Trod enc P W 0 (fun _=>true) true t v d ps)
  (hw:∀n∈d.weights P t,n≤reachBytes):∃a:α,R (Gk.hw W) v.cells.toList a:=by
 obtain⟨fuel,hf⟩:=h
 exact hr true fuel _ _ hf hw
def YX{base:Nat}{r:Reach}{t e:TypeId}{sz:Nat}{α:Type}{R:Aa→List Value→α→Prop}(ht:P.underlying t=some (.slice e))(hc:P.cellsOf e=sz)(hsz:0<sz)(hb:1≤P.bytesOf e)(he:Rd enc P W e R)
  {v:Value}{d:DataW H}{ps:List MemPlace}(hok:Value.okWide P W r base t v) (h:DataW.Trod enc P W 0 (fun _=>true) true t v d ps) (hw:∀n∈d.weights P t,n≤reachBytes):∃xs:List α,RSl sz R (Gk.hw W) v xs:=by
 obtain⟨a,len,cap,rfl⟩:=okWide_slice ht hok
 obtain⟨xs,v',e1,h2⟩:=Ze (OT ht hc hsz hb he) h hw
 have e1:[Value.slice a len cap]=[v']:=e1
 cases e1
 exact⟨xs,h2⟩
def Ab3{base:Nat}{r:Reach}{t}(ht:P.underlying t=some (.int .i64)){v}{d:DataW H}{ps:List MemPlace}(hok:Value.okWide P W r base t v)(h:DataW.Trod enc P W 0 (fun _=>true) true t v d ps)
  (hw:∀n∈d.weights P t,n≤reachBytes):∃k:Int,v=vZ k∧ -9223372036854775808≤k∧k≤9223372036854775807:=by
 obtain⟨n,rfl⟩:=okWide_int ht hok
 obtain⟨x,e,h2⟩:=Ze (YA ht) h hw
 have e:[Value.int .i64 n]=[vZ x]:=e
 cases e
 exact⟨n,Z,h2⟩
end
end Go.Gk
namespace Go.Gk
end Go.Gk
end
section
namespace Go.Gk
open Go
section
def FW(r:Option Nat):Fence:={Fence.wide with round:=r}
def Wo(l:Nat):FW (some l)=Fence.wide.inRound l:=Z
def Xo{r:Option Nat}{P}{m m':Machine}:StepsIn (Machine.fenced P (FW r)) P m m'↔Steps P m m':=
 ⟨StepsIn.steps,fun h=>(StepsIn.of_steps h).mono fun m _=>fenced_wide P m⟩
def WL{r:Option Nat}{n:Nat}{P f}{args:Array Value}{w}{R:Ending→World→Prop}(h:Calls P f args w R):CallsIn (FW r) n P f args w R:=by
 cases r with
 |none=>exact callsIn_wide.2 h
 |some l=>exact(callsIn_wide.2 h).inRound l
def GD:Op→Bool|.defer _=>true|_=>false
section
variable {P:Program}{r:Option Nat}{n:Nat}
def AbF{o:Oper}{a:Act}{w next Q}(hnd:GD o.op=false)(h:o.wp P a w next Q):o.wpIn (FW r) n P a w next Q:=by
 refine⟨fun _ _=>trivial,?_⟩
 unfold Oper.wp at h;have e:o.semAt (FW r).round a.eval=execOp a.eval o:=Oper.semAt_eq _ _ _ (fun c hc=>by rw[hc] at hnd;cases hnd);rw[e];generalize (execOp a.eval o).run P w=res at h⊢;cases res with
 |ok x w'=>
  cases x<;>simp only[Oper.upon,Oper.uponIn] at h⊢<;>
   first
    |exact h
    |exact⟨fun h=>by simp[FW,Fence.wide] at h,WL h⟩
    |exact⟨fun h=>by simp[FW,Fence.wide] at h,fun c cs _=>let ⟨v,w1,hr,hs⟩:=h c cs;⟨v,w1,hr,Xo.2 hs⟩⟩
 |halt x w'=>cases x<;>simp only[Oper.upon,Oper.uponIn] at h⊢<;>exact h
def HK{ops Q}(hQ:¬LetsOut Q)(hnd:∀(i:Nat) (o:Oper),ops[i]?=some o→GD o.op=false):∀(l:List Nat) (a:Act) (w:World),wpOps P ops Q l a w→wpOpsIn (FW r) n P ops Q l a w
 |[],_,_,h=>h
 |i::l,a,w,h=>by
  simp only[wpOps,wpOpsIn] at h⊢;cases ho:ops[i]? with
  |none=>rw[ho] at h;exact HK hQ hnd l a w h
  |some o=>
   rw[ho] at h
   simp only at h⊢
   split
   ·rename_i hw
    rw[if_pos hw] at h
    rcases h with h|⟨_,h⟩
    ·exact Oper.wpIn_mono (fun a w h=>HK hQ hnd l a w h) (AbF (hnd i o ho) h)
    ·exact absurd h hQ
   ·rename_i hw
    rw[if_neg hw] at h
    exact⟨fun _ _=>trivial,HK hQ hnd l _ w h⟩
def KF{md:Region.Mode}{ops Q}(hQ:¬LetsOut Q)(hnd:∀(i:Nat) (o:Oper),ops[i]?=some o→GD o.op=false):∀(k:Nat) (listed:Array Bool) (a:Act) (w:World),wpAny P md ops Q k listed a w→wpAnyIn (FW r) n P md ops Q k listed a w
 |0,_,_,_,h=>h
 |k+1,listed,a,w,h=>by
  refine⟨h.1,fun i hi=>?_⟩
  have h:=h.2 i hi;unfold wpOp at h;unfold wpOpIn;cases ho:ops[i]? with
  |none=>rw[ho] at h;exact KF hQ hnd k _ a w h
  |some o=>
   rw[ho] at h
   simp only at h⊢
   split
   ·rename_i hw
    rw[if_pos hw] at h
    rcases h with h|⟨_,h⟩
    ·exact Oper.wpIn_mono (fun a w h=>KF hQ hnd k _ a w h) (AbF (hnd i o ho) h)
    ·exact absurd h hQ
   ·rename_i hw
    rw[if_neg hw] at h
    exact⟨fun _ _=>trivial,KF hQ hnd k _ _ w h⟩
end
def GC:Code→Bool
 |.region _ ops _=>ops.all fun o=> !GD o.op
 |.seq a b=>GC a && GC b
 |.cond _ a b=>GC a && GC b
 |.block _ a=>GC a
 |.loop a=>GC a
 |.skip|.exit _|.ret=>true
 |_=>false
def Gp{n:Nat}{ds F W0 d0}{Q:Co}:¬LetsOut (lift n ds F W0 d0 Q):=fun⟨_,_,h⟩=>h
def Rz{ops:Array Oper}(h:(ops.all fun o=> !GD o.op)=true)(i:Nat)(o:Oper)(ho:ops[i]?=some o):GD o.op=false:=by
 rw[Array.all_eq_true] at h;obtain⟨hi,rfl⟩:=Array.getElem?_eq_some_iff.1 ho;simpa using h i hi
def Ob{pr:Bool}{P}{n:Nat}{ds F W0 d0}{r:Option Nat}{m:Nat}(hm:P.follows .mixedOrders=true):
  ∀(c:Code) (Q:Co) (ρ:Env) (d:Aa) (L:List Aa) (W:World),GC c=true→gwp P (ET pr P n c) Q ρ d L→Ok (d::(L++F)) W→Le d0 d→AL W0 W→c.wpIn (FW r) m P (lift n ds F W0 d0 Q) (act n ρ ds) W:=by
 intro c
 induction c with
 |skip=>
  intro Q ρ d L W _ h hOk hle hk
  exact wpIn_skip ⟨ρ,d,L,Z,hOk,hle,hk,h⟩
 |region id ops drawn=>
  intro Q ρ d L W hn h hOk hle hk
  simp only[ET] at h
  cases hs:MH pr P n ops drawn with
  |none=>rw[hs] at h;exact h.elim
  |some s=>
  rw[hs] at h
  have hnd:=Rz hn
  cases drawn with
  |false=>
   simp only[MH] at hs
   exact wpIn_region (HK Gp hnd _ _ _ (E5 _ s hs ρ d L W h hOk hle hk))
  |true=>
   obtain⟨d1,Ls,L1,hv,h⟩:=h
   have hOk1:=hv.2 F W hOk
   have hOk2:Ok (d1::(L1++(Ls++F))) W:=hOk1.perm (Afm d1 (by
    rw[←Afg];exact(Afi).append_right F))
   simp only[MH] at hs
   split at hs
   ·rename_i hc
    simp only[Afb,decide_eq_true_eq] at hc
    obtain⟨⟨⟨h1,h2⟩,h3⟩,h4⟩:=hc
    refine wpIn_region_any hm (KF Gp hnd _ _ _ _ (Dc.any _ _ _ _ (VW ops) ((RU h1 h2 _ true false _ s ρ d1 L1 Ls ops.size _ h4 hs (fun e=>by cases e) h hOk2.drew (hle.trans hv.1) ?_ h3).1 Z)))
    exact hk.trans ⟨Z,Z,Z,Afe _⟩
   ·cases hs
 |seq a b iha ihb=>
  intro Q ρ d L W hn h hOk hle hk
  simp only[GC,Afb] at hn
  refine wpIn_seq (wpIn_mono (iha _ ρ d L W hn.1 h hOk hle hk) ?_)
  intro e a w hq
  cases e with
  |normal=>
   obtain⟨ρ',d',L',rfl,h1,h2,h3,h4⟩:=hq
   exact ihb Q ρ' d' L' w hn.2 h4 h1 h2 h3
  |_=>exact hq
 |cond c a b iha ihb=>
  intro Q ρ d L W hn h hOk hle hk
  simp only[GC,Afb] at hn
  simp only[ET] at h
  split at h
  ·rename_i hc
   obtain⟨t,ht,h1,h2⟩:=h
   exact wpIn_cond_split (by rw[Bn hc];exact ht) (fun e=>iha Q ρ d L W hn.1 (h1 e) hOk hle hk) (fun e=>ihb Q ρ d L W hn.2 (h2 e) hOk hle hk)
  ·exact h.elim
 |block id a iha=>
  intro Q ρ d L W hn h hOk hle hk
  refine wpIn_block (wpIn_mono (iha _ ρ d L W hn h hOk hle hk) ?_)
  intro e a w hq
  cases e with
  |exit i=>
   obtain⟨ρ',d',L',rfl,h1,h2,h3,h4⟩:=hq
   simp only[Exit.inBlock]
   by_cases e:i=id
   ·simp only[e,if_true] at h4⊢
    exact⟨ρ',d',L',Z,h1,h2,h3,h4⟩
   ·simp only[if_neg e] at h4⊢
    exact⟨ρ',d',L',Z,h1,h2,h3,h4⟩
  |_=>exact hq
 |loop a iha=>
  intro Q ρ d L W hn h hOk hle hk
  obtain⟨I,⟨m0,hI⟩,round⟩:=h
  refine wpIn_loop_ghost (fun m a w=>∃ρ d L,a=act n ρ ds∧Ok (d::(L++F)) w∧Le d0 d∧AL W0 w∧I m ρ d L) m0 ⟨ρ,d,L,Z,hOk,hle,hk,hI⟩ ?_
  rintro m a w ⟨ρ',d',L',rfl,h1,h2,h3,h4⟩
  refine wpIn_mono (iha _ ρ' d' L' w hn (round m ρ' d' L' h4) h1 h2 h3) ?_
  intro e a w hq
  cases e with
  |normal=>
   obtain⟨ρ'',d'',L'',rfl,k1,k2,k3,m',k4,k5⟩:=hq
   exact⟨m',k4,ρ'',d'',L'',Z,k1,k2,k3,k5⟩
  |_=>exact hq
 |exit id=>
  intro Q ρ d L W _ h hOk hle hk
  exact wpIn_exit ⟨ρ,d,L,Z,hOk,hle,hk,h⟩
 |ret=>
  intro Q ρ d L W _ h hOk hle hk
  exact wpIn_ret ⟨ρ,d,L,Z,hOk,hle,hk,h⟩
 |_=>intro Q ρ d L W _ h;exact h.elim
end
end Go.Gk
end
section
namespace Go.Gk
open Go Go.Conc
variable{P:Program}{Q:Co}{n:Nat}{d:Aa}{L F:List Aa}{W0:World}{yl:Bool}
inductive EH where
 |g (c:CC)
 |seq (a b:EH)
 |cond (c:Operand) (a b:EH)
 |block (id:Nat) (a:EH)
 |loop (a:EH)
 |yl (pre:GS) (dst:Option Nat) (f:Operand) (args:List Operand) (post:GS)
 |snd (pre:GS) (dst:Option Nat) (ch x:Operand) (post:GS)
 |sel (pre:GS) (dst:Option Nat) (ch:Operand) (zero:Value) (post:GS)
 |rf (f:Operand) (ps:List Nat) (as bd:CC)
 |bad
structure Sz (P:Program) (ρ:Env) (ps:List Nat) (as bd:CC) (rc:Loop):Prop where
 h:∃pr n,P.follows .mixedOrders=true∧rc.tmps=(act n ρ []).tmps∧rc.params.toList=ps∧(∀t∈ps,t<n)∧ET pr P n rc.assign=as∧ET pr P n rc.body=bd∧GC rc.assign=true∧GC rc.body=true
def Dh(ρ:Env):List Nat→List Value→Env
 |p::ps,v::vs=>Dh (upd ρ p v) ps vs
 |_,_=>ρ
def Kg(P:Program)(l:Nat)(vs:List Value)(d:Aa)(L:List Aa)(R:Value→Aa→List Aa→Prop):Prop:=
 ∀F W,Ok (d::(L++F)) W→∃rc:Loop,W.heap[l]?=some (.loop rc)∧vs.length=rc.params.size∧
  ∀m,RoundIn Fence.wide m P l rc.fn ((rc.params.zip vs.toArray).foldl (fun tmps (t,a)=>tmps.setIfInBounds t a) rc.tmps) rc.assign rc.body W
   (fun e W'=>∃v d' L',e=.returned v∧Ok (d'::(L'++F)) W'∧Le d d'∧AL W W'∧R v d' L')
def Sx(P:Program)(Q:Co)(dst:Option Nat)(f:Operand)(args:List Operand)(post:GS):Env→AP:=fun ρ1 d1 L1=>∃l A B R,ev ρ1 f=.func (.yield l) #[] #[]∧L1=A++B∧Kg P l (args.map (ev ρ1)) d1 A R∧
 ∀v d2 L2,Le d1 d2→R v d2 L2→gws P Q.pan Q.n post [] (put ρ1 dst v) d2 (L2++B)
def PK(P:Program)(Q:Co)(dst:Option Nat)(ch x:Operand)(post:GS):Env→AP:=fun ρ1 d1 L1=>∃i c cap buf s r tm,ev ρ1 ch=.chan (some c)∧L1[i]?=some (sg c (.chan cap (Ajb buf) false s r tm))∧buf.length<cap∧
 gws P Q.pan Q.n post [] (put ρ1 dst undef) d1 (L1.set i (sg c (.chan cap (buf++[ev ρ1 x]).toArray false (s+1) r tm)))
def Mo(P:Program)(Q:Co)(dst:Option Nat)(ch:Operand)(z:Value)(post:GS):Env→AP:=fun ρ1 d1 L1=>∃i c cap buf s r tm,ev ρ1 ch=.chan (some c)∧L1[i]?=some (sg c (.chan cap (Ajb buf) false s r tm))∧
 (∀v rest,buf=v::rest→gws P Q.pan Q.n post [] (put ρ1 dst (.tuple #[vZ 0,.bool true,v])) d1 (L1.set i (sg c (.chan cap rest.toArray false s (r+1) tm))))∧
 (buf=[]→gws P Q.pan Q.n post [] (put ρ1 dst (.tuple #[vZ (-1),.bool false,z])) d1 L1)
def xwp(P:Program):EH→Co→Env→AP
 |.g c,Q=>gwp P c Q
 |.seq a b,Q=>xwp P a {Q with n:=xwp P b Q}
 |.cond c a b,Q=>fun ρ d L=>∃t,ev ρ c=.bool t∧(t=true→xwp P a Q ρ d L)∧(t=false→xwp P b Q ρ d L)
 |.block id a,Q=>xwp P a {Q with ex:=fun j=>if j=id then Q.n else Q.ex j}
 |.loop a,Q=>fun ρ d L=>∃I:Nat→Env→AP,(∃m,I m ρ d L)∧∀m ρ d L,I m ρ d L→xwp P a {Q with n:=fun ρ d L=>∃m',m'<m∧I m' ρ d L} ρ d L
 |.yl pre dst f args post,Q=>gws P Q.pan (Sx P Q dst f args post) pre []
 |.snd pre dst ch x post,Q=>gws P Q.pan (PK P Q dst ch x post) pre []
 |.sel pre dst ch z post,Q=>gws P Q.pan (Mo P Q dst ch z post) pre []
 |.rf f ps as bd,Q=>fun ρ d L=>∃g first cap,ev ρ f=.func (.func g) first cap∧∀l rc,Sz P ρ ps as bd rc→rc.state=.ready→rc.pending=none→
   ∃R,Ao P g (first.toList++[.func (.yield l) #[] #[]]++cap.toList) d (sg l (.loop rc)::L) R∧∀e d' L',Le d d'→R e d' L'→
    ∃v rc' L'',e=.returned v∧L'=sg l (.loop rc')::L''∧rc'.state≠.busy∧
     (match rc'.pending with|none=>Q.n ρ d' L''|some (.exit id)=>Q.ex id ρ d' L''|some .ret=>Q.ret ρ d' L''|_=>False)
 |.bad,_=>fun _ _ _=>False
def Adw(yl:Bool)(o:Oper):Bool:=match o.op with
 |.send .. =>true
 |.select .. =>true
 |.call ⟨.value (.tmp _),_,_⟩=>yl
 |_=>false
def Km(P:Program)(ops:Array Oper)(i:Nat):Bool:=quietAt P ops i &&((ops[i]?).all fun o=>o.guard.isNone)
def WZ(yl:Bool)(P:Program)(n:Nat)(ops:Array Oper):EH:=
 match (Agf ops.size).find? fun i=>(ops[i]?).any (Adw yl) with
 |none=>.bad
 |some k=>match CQ P n ops (Eg (Agf k)),CQ P n ops (Eg ((Agf ops.size).drop (k+1))),ops[k]? with
  |some s1,some s2,some o=>
   if o.guard.isNone &&(o.op.operands.toList.all (Et n))&& SM n o.dst then
    match o.op with
    |.send ch x=>if (Agf k).all (Km P ops) then .snd s1 o.dst ch x s2 else .bad
    |.select cs false=>match cs.toList with
     |[⟨ch,none,e⟩]=>match (P.info? e).bind (·.zero) with
      |some z=>if (Agf k).all (Km P ops) then .sel s1 o.dst ch z s2 else .bad
      |none=>.bad
     |_=>.bad
    |.call ⟨.value f,args,_⟩=>if yl then .yl s1 o.dst f args.toList s2 else .bad
    |_=>.bad
   else .bad
  |_,_,_=>.bad
def Hy(yl pr:Bool)(P:Program)(n:Nat):Code→EH
 |.region id ops drawn=>if !drawn && ops.any (Adw yl)&& ops.all (fun o=> !GD o.op) then WZ yl P n ops else .g (ET pr P n (.region id ops drawn))
 |.seq a b=>match Hy yl pr P n a,Hy yl pr P n b with|.g a',.g b'=>.g (.seq a' b')|a',b'=>.seq a' b'
 |.cond c a b=>if Et n c then(match Hy yl pr P n a,Hy yl pr P n b with|.g a',.g b'=>.g (.cond c a' b')|a',b'=>.cond c a' b') else .bad
 |.block id a=>match Hy yl pr P n a with|.g a'=>.g (.block id a')|a'=>.block id a'
 |.loop a=>match Hy yl pr P n a with|.g a'=>.g (.loop a')|a'=>.loop a'
 |.rangeFunc f ps as bd=>if Et n f && ps.all (fun t=>decide (t<n))&& GC as && GC bd then .rf f ps.toList (ET pr P n as) (ET pr P n bd) else .bad
 |.skip=>.g .skip
 |.exit id=>.g (.exit id)
 |.ret=>.g .ret
 |_=>.bad
def Aez{a b:EH}:xwp P (match a,b with|.g a',.g b'=>.g (.seq a' b')|a',b'=>.seq a' b') Q=xwp P (.seq a b) Q:=by
 cases a<;>cases b<;>rfl
def Aen{c}{a b:EH}:xwp P (match a,b with|.g a',.g b'=>.g (.cond c a' b')|a',b'=>.cond c a' b') Q=xwp P (.cond c a b) Q:=by
 cases a<;>cases b<;>rfl
def Adz{id:Nat}{a:EH}:xwp P (match a with|.g a'=>.g (.block id a')|a'=>.block id a') Q=xwp P (.block id a) Q:=by
 cases a<;>rfl
def Ad2{a:EH}:xwp P (match a with|.g a'=>.g (.loop a')|a'=>.loop a') Q=xwp P (.loop a) Q:=by
 cases a<;>rfl
structure Hn where
 n:Nat
 res:List Hc
 code:EH
def Gf(yl pr:Bool)(P:Program)(f:FuncId):Option Hn:=
 match P.funcs[f]? with
 |some fn=>
  if fn.name== "runtime.NumGoroutine" || !P.follows .mixedOrders then none else
  match fn.body with
  |some c=>(fn.results.toList.mapM (H3 P fn.ntmps)).map fun rs=>⟨fn.ntmps,rs,Hy yl pr P fn.ntmps c⟩
  |none=>none
 |none=>none
def Sc:∀(ps:List Nat) (vs:List Value) (ρ:Env),(∀t∈ps,t<n)→ps.length=vs.length→
  (ps.zip vs).foldl (fun tmps (x:Nat×Value)=>tmps.setIfInBounds x.1 x.2) (act n ρ []).tmps=(act n (Dh ρ ps vs) []).tmps
 |[],[],ρ,_,_=>rfl
 |[],_::_,_,_,h=>by simp at h
 |_::_,[],_,_,h=>by simp at h
 |p::ps,v::vs,ρ,hp,hl=>by
  have h1:=congrArg Act.tmps (FH (n:=n) (ρ:=ρ) (ds:=[]) (d:=some p) (fun t e=>by cases e;exact hp p (by simp)) v);have h2:(act n ρ []).tmps.setIfInBounds p v=(act n (upd ρ p v) []).tmps:=h1;simp only[List.zip_cons_cons,List.foldl_cons,Dh];rw[h2];exact Sc ps vs (upd ρ p v) (fun t ht=>hp t (Afr _ ht)) (by simpa using hl)
def AcC{ps:Array Tmp}{vs ρ}(hp:∀t∈ps.toList,t<n)(hl:vs.length=ps.size):
  ((ps.zip vs.toArray).foldl (fun tmps (x:Nat×Value)=>tmps.setIfInBounds x.1 x.2) (act n ρ []).tmps)=(act n (Dh ρ ps.toList vs) []).tmps:=by
 rw[←Sc ps.toList vs ρ hp (by simpa using hl.symm),←Array.foldl_toList]
 simp
def Adl(l:Nat)(rc:Loop)(R:Value→Aa→List Aa→Prop):Co where
 n:=fun _ d L=>R (.bool true) d (sg l (.loop {rc with state:=.ready,pending:=none})::L)
 ex:=fun i _ d L=>R (.bool false) d (sg l (.loop {rc with state:=.done,pending:=some (.exit i)})::L)
 ret:=fun _ d L=>R (.bool false) d (sg l (.loop {rc with state:=.done,pending:=some .ret})::L)
 pan:=fun _ _ _=>False
def Aej(N:Env→AP):Co where
 n:=N
 ex:=fun _ _ _ _=>False
 ret:=fun _ _ _=>False
 pan:=fun _ _ _=>False
def Ok.IQ{l:Nat}{o o':Obj}{W}(x:Ok (d::(L++(sg l o::F))) W):Ok (d::(L++(sg l o'::F))) (W.putObj l o'):=by
 have p:(d::(L++(sg l o::F))).Perm (sg l o::(d::(L++F))):=by
  refine(Afm d Agi).trans (Afx _ _ _)
 have p':(sg l o'::(d::(L++F))).Perm (d::(L++(sg l o'::F))):=by
  refine(Afx _ _ _).trans (Afm d List.perm_middle.symm)
 exact((x.perm p).write (W.putObj l o') Z).perm p'
def Gc(W:World)(l:Nat)(o:Obj):AL W (W.putObj l o):=⟨Z,Z,Z,by simp⟩
def Ok.I4{l:Nat}{o:Obj}{W}(x:Ok (d::(L++(sg l o::F))) W):W.heap[l]?=some o:=
 x.2 (sg l o) (by simp) l o (Db _ _)
def Ok.II{h W}:Ok (d::((h::L)++F)) W↔Ok (d::(L++(h::F))) W:=by
 have p:(d::((h::L)++F)).Perm (d::(L++(h::F))):=Afm d (by rw[Agy];exact List.perm_middle.symm);exact⟨fun x=>x.perm p,fun x=>x.perm p.symm⟩
def MG{ρ}{ps:List Nat}{as bd:CC}{rc:Loop}{l:Nat}{vs R}
  (hr:Sz P ρ ps as bd rc) (hst:rc.state=.ready) (hlen:vs.length=ps.length)
  (h:gwp P as (Aej (gwp P bd (Adl l rc R))) (Dh ρ ps vs) d L):Kg P l vs d (sg l (.loop rc)::L) R:=by
 obtain⟨pr,n,hm,ht,hps,hlt,ha,hb,na,nb⟩:=hr.h
 intro F W hOk
 have hOk1:=Ok.II.1 hOk
 have hl:=hOk1.I4
 have hsz:vs.length=rc.params.size:=by rw[hlen,←hps];simp
 refine⟨rc,hl,hsz,fun m=>roundIn_of_wpIn trivial ?_⟩
 rw[ht,AcC (by rw[hps];exact hlt) hsz,hps]
 have e0:({tmps:=(act n (Dh ρ ps vs) []).tmps,defers:=[]}:Act)=act n (Dh ρ ps vs) []:=Z
 rw[e0]
 subst ha;subst hb
 have s1:=Ob (r:=some l) (m:=m) (ds:=[]) (F:=sg l (.loop rc)::F) (W0:=W) (d0:=d) hm rc.assign _ _ d L W na h hOk1 (Le.refl d) (AL.refl W)
 rw[Wo] at s1
 refine wpIn_mono s1 ?_
 intro e a w hq
 cases e with
 |normal=>
  obtain⟨ρ1,d1,L1,rfl,k1,k2,k3,k4⟩:=hq
  have hl1:=k1.I4
  refine⟨_,run_beginRound hl1 hst,?_⟩
  have k1':=k1.IQ (o':=.loop {rc with state:=.busy})
  have s2:=Ob (r:=some l) (m:=m) (ds:=[]) (F:=sg l (.loop {rc with state:=.busy})::F) (W0:=W) (d0:=d) hm rc.body _ _ d1 L1 _ nb k4 k1' k2 (k3.trans (Gc _ _ _))
  rw[Wo] at s2
  refine wpIn_mono s2 ?_
  intro e a w hq
  cases e with
  |normal=>
   obtain⟨ρ2,d2,L2,rfl,q1,q2,q3,q4⟩:=hq
   refine⟨_,_,run_endRound none q1.I4,_,d2,_,Z,?_,q2,q3.trans (Gc _ _ _),q4⟩
   exact Ok.II.2 q1.IQ
  |exit id=>
   obtain⟨ρ2,d2,L2,rfl,q1,q2,q3,q4⟩:=hq
   refine⟨_,_,run_endRound _ q1.I4,_,d2,_,Z,?_,q2,q3.trans (Gc _ _ _),q4⟩
   exact Ok.II.2 q1.IQ
  |ret=>
   obtain⟨ρ2,d2,L2,rfl,q1,q2,q3,q4⟩:=hq
   refine⟨_,_,run_endRound _ q1.I4,_,d2,_,Z,?_,q2,q3.trans (Gc _ _ _),q4⟩
   exact Ok.II.2 q1.IQ
  |panic c=>obtain⟨_,_,_,_,_,_,h⟩:=hq;exact h
  |goto t=>exact hq.elim
  |outgrown=>exact hq.elim
 |exit id=>obtain⟨_,_,_,_,_,_,_,h⟩:=hq;exact h
 |ret=>obtain⟨_,_,_,_,_,_,_,h⟩:=hq;exact h
 |panic c=>obtain⟨_,_,_,_,_,_,h⟩:=hq;exact h
 |goto t=>exact hq.elim
 |outgrown=>exact hq.elim
section
section
variable {P:Program}{n:Nat}{ds:List Deferred}{ops:Array Oper}{F:List Aa}
def Oe{pan:List PanicEntry→AP}{Qn:Env→AP}{b:Frame}{items:List Item}{cs:List Frame}{W}{rest:List Nat}:∀(l:List Nat) (s:GS),CQ P n ops (Eg l)=some s→(∀i∈l,Km P ops i=true)→
  ∀(ρ:Env) (d:Aa) (L:List Aa),gws P pan Qn s [] ρ d L→Ok (d::(L++F)) W→
   ∃ρ' d' L',Steps P (lone (b.at (act n ρ ds) (.inRegion ops (l++rest)::items)) cs W) (lone (b.at (act n ρ' ds) (.inRegion ops rest::items)) cs W)∧Ok (d'::(L'++F)) W∧Le d d'∧Qn ρ' d' L'
 |[],s,hs,_,ρ,d,L,h,hOk=>by
  simp[Eg,CQ] at hs;subst hs;obtain⟨d1,L1,hv,hq⟩:=h;exact⟨ρ,d1,L1,Steps.refl _ _,hv.2 F W (by simpa using hOk),hv.1,hq⟩
 |i::l,s,hs,hp,ρ,d,L,h,hOk=>by
  simp only[Eg,CQ] at hs;split at hs<;>try cases hs
  rename_i g s' hg hs';rw[Agm] at hg;obtain⟨o,ho,hd⟩:=hg;obtain⟨d1,L1,hv,h⟩:=h;have hOk1:=hv.2 F W hOk;obtain⟨hop,hdst,_,hdi,hgd,hgu⟩:=HE hd;have hpi:=hp i (by simp);simp only[Km,Afb,quietAt,ho,Ahd,hdi,Option.any_some,Option.all_some] at hpi;obtain⟨hq,hng⟩:=hpi;have hng':o.guard=none:=by simpa using hng
  have hgn:g.guard=none:=by
   rcases hgu with ⟨_,h⟩|⟨j,want,t,h,_⟩
   ·exact h
   ·rw[hng'] at h;cases h
  simp only[gop,hgn] at h;rw[EV hq] at h;obtain⟨v,hev,d2,L2,hv2,hgws⟩:=h;have hl:∀a v,HC d1 ([]++L1) a v→W.cell? a=some v:=fun a v hc=>hc.cell hOk1.head (fun q hq=>hOk1.2 q (by simp at hq;simp[hq]));have hrun:=Hj (P:=P) hdi hq hev (E:=(act n ρ ds).eval) (fun x hx=>Bn (hop x hx)) hl;have hw:Region.wanted o (yielded ops (act n ρ ds).tmps)=true:=by simp[Region.wanted,hng']
  have hstep:step P (lone (b.at (act n ρ ds) (.inRegion ops (i::(l++rest))::items)) cs W)=.next (lone (b.at (act n (put ρ g.dst v) ds) (.inRegion ops (l++rest)::items)) cs W):=by
   refine step_lone_go ?_;rw[stepG_op ho hw];have hf:=Frame.finish_at b (act n ρ ds) ops i (l++rest) items v;rw[ho,Ahd,FH hdst,←hgd] at hf;rw[←hf];simp[stepG.apply,hrun]
  obtain⟨ρ',d',L',hst,k1,k2,k3⟩:=Oe l s' hs' (fun i hi=>hp i (Afr _ hi)) (put ρ g.dst v) d2 L2 hgws (hv2.2 F W hOk1);exact⟨ρ',d',L',Steps.head hstep hst,k1,(hv.1.trans hv2.1).trans k2,k3⟩
def Of{n k:Nat}(h:k<n):Agf n=Agf k++(k::(Agf n).drop (k+1)):=by
 have h1:=(List.take_append_drop k (Agf n)).symm;rw[List.take_range,Nat.min_eq_left (Nat.le_of_lt h)] at h1;rw[Afy (by simpa using h)] at h1;simpa using h1
def Aby{id k:Nat}{o:Oper}{s1 s2}{Qm:Env→AP}{d0}(ho:ops[k]?=some o)(hs1:CQ P n ops (Eg (Agf k))=some s1)(hp:(Agf k).all (Km P ops)=true)
  (hs2:CQ P n ops (Eg ((Agf ops.size).drop (k+1)))=some s2) (hdst:∀t,o.dst=some t→t<n)
  (hstep:∀ρ d L W,Ok (d::(L++F)) W→Qm ρ d L→∃v W' d' L',(∀(b:Frame) items cs rest,step P (lone (b.at (act n ρ ds) (.inRegion ops (k::rest)::items)) cs W)=.next (lone ((b.at (act n ρ ds) (.inRegion ops (k::rest)::items)).finish v) cs W'))∧
   Ok (d'::(L'++F)) W'∧Le d d'∧AL W W'∧gws P Q.pan Q.n s2 [] (put ρ o.dst v) d' L')
  {ρ d L W}(h:gws P Q.pan Qm s1 [] ρ d L) (hOk:Ok (d::(L++F)) W) (hle:Le d0 d) (hk:AL W0 W):
  (Code.region id ops false).wp P (lift n ds F W0 d0 Q) (act n ρ ds) W:=by
 intro b items cs
 have hkl:k<ops.size:=(Array.getElem?_eq_some_iff.1 ho).1
 rw[Afs] at hp
 obtain⟨ρ1,d1,L1,st1,k1,k2,k3⟩:=Oe (F:=F) (ds:=ds) (b:=b) (items:=items) (cs:=cs) (rest:=k::(Agf ops.size).drop (k+1)) _ s1 hs1 hp ρ d L h hOk
 obtain⟨v,W',d2,L2,hst,q1,q2,q3,q4⟩:=hstep ρ1 d1 L1 W k1 k3
 have st2:=hst b items cs ((Agf ops.size).drop (k+1))
 rw[Frame.finish_at,ho,Ahd,FH hdst] at st2
 obtain⟨e,a',w',hq,harr⟩:=wp_ops _ _ _ (E5 _ s2 hs2 _ d2 L2 W' q4 q1 (hle.trans (k2.trans q2)) (hk.trans q3)) b items cs
 refine⟨e,a',w',hq,.of_steps ?_ harr⟩
 refine Steps.trans (.one step_region) ?_
 have e1:lone (b.at (act n ρ ds) (.inRegion ops (Agf ops.size)::items)) cs W=lone (b.at (act n ρ ds) (.inRegion ops (Agf k++(k::(Agf ops.size).drop (k+1)))::items)) cs W:=by rw[←Of hkl]
 rw[e1]
 exact Steps.trans st1 (.one st2)
end
end
section
section
variable {P:Program}{ops:Array Oper}{k:Nat}{o:Oper}{a:Act}{W:World}{c cap s r:Nat}{buf:Array Value}{tm:Bool}
def Abg(ho:ops[k]?=some o)(hg:o.guard=none){ch x}(hop:o.op=.send ch x)(hc:a.eval ch=.chan (some c))(hh:W.heap[c]?=some (.chan cap buf false s r tm))(hroom:buf.size<cap)
  (b:Frame) (items:List Item) (cs:List Frame) (rest:List Nat):
  step P (lone (b.at a (.inRegion ops (k::rest)::items)) cs W)=.next (lone ((b.at a (.inRegion ops (k::rest)::items)).finish undef) cs (W.setChan c cap (buf.push (a.eval x)) false (s+1) r tm)):=by
 have hw:Region.wanted o (yielded ops a.tmps)=true:=by simp[Region.wanted,hg]
 have hrun:(execOp a.eval o).run P W=.ok (.comm #[scase c (a.eval x) (.tuple #[])] true .send) W:=by simp[execOp,hop,hc,scase]
 have h:=stepG_op (P:=P) (b:=b) (a:=a) (k:=items) (cs:=cs) (w:=W) (ops:=ops) (rest:=rest) ho hw
 simp only[stepG.apply,Sem.runT_eq,hrun] at h
 exact step_lone_send_room h hh hroom
def Si(ho:ops[k]?=some o)(hg:o.guard=none){ch e z}{ti:TypeInfo}(hop:o.op=.select #[⟨ch,none,e⟩] false)(hi:P.info? e=some ti)(hz:ti.zero=some z)(hc:a.eval ch=.chan (some c))(hh:W.heap[c]?=some (.chan cap buf false s r tm))(hsome:0<buf.size)
  (b:Frame) (items:List Item) (cs:List Frame) (rest:List Nat):
  step P (lone (b.at a (.inRegion ops (k::rest)::items)) cs W)=.next (lone ((b.at a (.inRegion ops (k::rest)::items)).finish (.tuple #[goInt 0,.bool true,buf.getD 0 undef])) cs (W.setChan c cap (buf.extract 1 buf.size) false s (r+1) tm)):=by
 have hw:Region.wanted o (yielded ops a.tmps)=true:=by simp[Region.wanted,hg]
 have hrun:(execOp a.eval o).run P W=.ok (.comm #[rcase c z] false .select) W:=by simp[execOp,hop,hc,rcase,Ey hi hz,Result.andThen]
 have h:=stepG_op (P:=P) (b:=b) (a:=a) (k:=items) (cs:=cs) (w:=W) (ops:=ops) (rest:=rest) ho hw
 simp only[stepG.apply,Sem.runT_eq,hrun] at h
 exact step_lone_select_recv_buf h hh hsome
def Sp(ho:ops[k]?=some o)(hg:o.guard=none){ch e z}{ti:TypeInfo}(hop:o.op=.select #[⟨ch,none,e⟩] false)(hi:P.info? e=some ti)(hz:ti.zero=some z)(hc:a.eval ch=.chan (some c))(hh:W.heap[c]?=some (.chan cap #[] false s r tm))
  (b:Frame) (items:List Item) (cs:List Frame) (rest:List Nat):
  step P (lone (b.at a (.inRegion ops (k::rest)::items)) cs W)=.next (lone ((b.at a (.inRegion ops (k::rest)::items)).finish (.tuple #[goInt (-1),.bool false,z])) cs W):=by
 have hw:Region.wanted o (yielded ops a.tmps)=true:=by simp[Region.wanted,hg]
 have hrun:(execOp a.eval o).run P W=.ok (.comm #[rcase c z] false .select) W:=by simp[execOp,hop,hc,rcase,Ey hi hz,Result.andThen]
 have h:=stepG_op (P:=P) (b:=b) (a:=a) (k:=items) (cs:=cs) (w:=W) (ops:=ops) (rest:=rest) ho hw
 simp only[stepG.apply,Sem.runT_eq,hrun] at h
 exact step_lone_select_default h hh
end
def Jv(W:World)(c cap:Nat)(buf:Array Value)(cl:Bool)(s r:Nat)(tm:Bool):(W.setChan c cap buf cl s r tm).heap=W.heap.setIfInBounds c (.chan cap buf cl s r tm):=Z
def MV(W:World)(c cap:Nat)(buf:Array Value)(cl:Bool)(s r:Nat)(tm:Bool):AL W (W.setChan c cap buf cl s r tm):=⟨Z,Z,Z,by rw[Jv];simp⟩
def Ok.YU{W W'}{i b:Nat}{o o':Obj}(x:Ok (d::(L++F)) W)(hi:L[i]?=some (sg b o))(e:W'.heap=W.heap.setIfInBounds b o'):Ok (d::(L.set i (sg b o')++F)) W':=by
 obtain⟨A,B,h1,h2⟩:=FP hi (sg b o');rw[h2];rw[h1] at x;exact Ok.front.2 ((Ok.front.1 x).write W' e)
end
section
section
variable {Fe:Fence}{m:Nat}{P:Program}
def Wr{o:Oper}{a:Act}{w K K' Q Q'}(h:∀a w,K a w→K' a w)(hp:∀c a w,Q (.panic c) a w→Q' (.panic c) a w)(hl:LetsOut Q→LetsOut Q')
  (hh:o.wpIn Fe m P a w K Q):o.wpIn Fe m P a w K' Q':=by
 unfold Oper.wpIn at*
 refine⟨hh.1,?_⟩
 have hh:=hh.2
 generalize (o.semAt Fe.round a.eval).run P w=r at*
 cases r with
 |ok x w'=>
  cases x<;>simp only[Oper.uponIn] at hh⊢<;>
   first
    |exact h _ _ hh
    |exact⟨hh.1,CallsIn.mono hh.2 (fun e w'' he=>by cases e<;>first|exact h _ _ he|exact hp _ _ _ he|exact hl he)⟩
    |exact⟨hh.1,RowsIn.mono hh.2 (fun _ _ he=>h _ _ he)⟩
    |exact⟨hh.1,RoundIn.mono hh.2 (fun e w'' he=>by cases e<;>first|exact h _ _ he|exact hp _ _ _ he|exact hl he)⟩
 |halt x w'=>cases x<;>simp only[Oper.uponIn] at hh⊢<;>exact hp _ _ _ hh
def HT{ops Q Q'}{l2:List Nat}(hn:∀a w,Q .normal a w→wpOpsIn Fe m P ops Q' l2 a w)(hp:∀c a w,Q (.panic c) a w→Q' (.panic c) a w)(hl:LetsOut Q→LetsOut Q'):
  ∀(l1:List Nat) (a:Act) (w:World),wpOpsIn Fe m P ops Q l1 a w→wpOpsIn Fe m P ops Q' (l1++l2) a w
 |[],a,w,h=>hn a w h
 |i::l1,a,w,h=>by
  simp only[wpOpsIn,Agy] at h⊢;cases ho:ops[i]? with
  |none=>rw[ho] at h;exact HT hn hp hl l1 a w h
  |some o=>
   rw[ho] at h
   simp only at h⊢
   split
   ·rename_i hw
    rw[if_pos hw] at h
    exact Wr (fun a w h=>HT hn hp hl l1 a w h) hp hl h
   ·rename_i hw
    rw[if_neg hw] at h
    exact⟨h.1,HT hn hp hl l1 _ w h.2⟩
end
section
variable {P:Program}{n:Nat}{ds:List Deferred}{ops:Array Oper}{F:List Aa}{W0:World}{d0:Aa}
def Ac5{m id k:Nat}{o:Oper}{s1 s2 f}{args:Array Operand}{ats:Array TypeId}(ho:ops[k]?=some o)(hg:o.guard=none)(hop:o.op=.call ⟨.value f,args,ats⟩)(hopn:∀x∈o.op.operands,Et n x=true)
  (hdst:∀t,o.dst=some t→t<n) (hnd:∀(i:Nat) (o:Oper),ops[i]?=some o→GD o.op=false)
  (hs1:CQ P n ops (Eg (Agf k))=some s1) (hs2:CQ P n ops (Eg ((Agf ops.size).drop (k+1)))=some s2)
  {ρ d L W}(h:xwp P (.yl s1 o.dst f args.toList s2) Q ρ d L) (hOk:Ok (d::(L++F)) W) (hle:Le d0 d) (hk:AL W0 W):
  (Code.region id ops false).wpIn Fence.wide m P (lift n ds F W0 d0 Q) (act n ρ ds) W:=by
 have hkl:k<ops.size:=(Array.getElem?_eq_some_iff.1 ho).1
 refine wpIn_region ?_
 rw[Of hkl]
 refine HT ?_ ?_ (fun h=>absurd h Gp) _ _ _ (HK (r:=none) (Q:=lift n ds F W0 d0 {Q with n:=Sx P Q o.dst f args.toList s2}) Gp hnd _ _ _ (E5 _ s1 hs1 ρ d L W h hOk hle hk))
 ·rintro a w ⟨ρ1,d1,L1,rfl,k1,k2,k3,l,A,B,R,hf,hL,hy,hR⟩
  subst hL
  have hw:Region.wanted o (yielded ops (act n ρ1 ds).tmps)=true:=by simp[Region.wanted,hg]
  obtain⟨rc,hh,hlen,hround⟩:=hy (B++F) w (by rw[←Afg];exact k1)
  have ha:=Jc (ρ:=ρ1) (ds:=ds) args (fun x hx=>hopn x (by rw[hop];simp[Op.operands,Call.operands,hx]))
  have hfv:=Bn (ρ:=ρ1) (ds:=ds) (hopn f (by rw[hop];simp[Op.operands,Call.operands]))
  have hrun:=run_yield (P:=P) hh (args:=(args.toList.map (ev ρ1)).toArray) (by simpa using hlen)
  have hexec:(execOp (act n ρ1 ds).eval o).run P w=.ok (.round l rc.fn ((rc.params.zip (args.toList.map (ev ρ1)).toArray).foldl (fun tmps (t,a)=>tmps.setIfInBounds t a) rc.tmps) rc.assign rc.body) w:=by
   simp only[execOp,hop,resolve,Sem.run_bind,hfv,hf,Deferred.ofValue,Sem.run_pure,Result.andThen,invoke,ha];simpa using hrun
  simp only[wpOpsIn,ho]
  rw[if_pos hw]
  refine⟨fun _ _=>trivial,?_⟩
  have e:o.semAt Fence.wide.round (act n ρ1 ds).eval=execOp (act n ρ1 ds).eval o:=Oper.semAt_none ..
  rw[e,hexec,Oper.uponIn_round]
  refine⟨fun h=>by simp[Fence.wide] at h,(hround _).mono ?_⟩
  rintro e w2 ⟨v,d2,L2,rfl,q1,q2,q3,q4⟩
  show wpOpsIn _ _ _ _ _ _ _ _
  rw[FH hdst]
  rw[←Afg] at q1
  exact HK (r:=none) Gp hnd _ _ _ (E5 _ s2 hs2 _ d2 (L2++B) w2 (hR v d2 L2 q2 q4) q1 (k2.trans q2) (k3.trans q3))
 ·intro c a w h;exact h
end
end
def marksOf(ms:List Nat):List Deferred:=ms.map fun r=>{target:=.collected r,args:= #[]}
def HW(ms:List Nat):List Aa:=ms.map fun r=>sg r (.deferred (some []))
def liftM(n:Nat)(F:List Aa)(W0:World)(d0:Aa)(Q:Co)(e:Exit)(a:Act)(W:World):Prop:=∃ms,lift n (marksOf ms) (HW ms++F) W0 d0 Q e a W
def Aat{ds d0}{m id:Nat}{ops}(hnd:∀(i:Nat) (o:Oper),ops[i]?=some o→GD o.op=false)
  {Q:Co}{ρ d L W}(h:xwp P (WZ yl P n ops) Q ρ d L) (hOk:Ok (d::(L++F)) W) (hle:Le d0 d) (hk:AL W0 W):
  (Code.region id ops false).wpIn Fence.wide m P (lift n ds F W0 d0 Q) (act n ρ ds) W:=by
 unfold WZ at h
 split at h
 ·exact h.elim
 rename_i k hkf
 split at h
 rotate_left
 ·exact h.elim
 rename_i s1 s2 o hs1 hs2 ho
 split at h
 rotate_left
 ·exact h.elim
 rename_i hc
 simp only[Afb] at hc
 obtain⟨⟨hg,hopn⟩,hdo⟩:=hc
 have hg:o.guard=none:=by simpa using hg
 have hopn:∀x∈o.op.operands,Et n x=true:=by
  intro x hx;exact Afs.1 hopn x (Array.mem_toList_iff.2 hx)
 have hdst:∀t,o.dst=some t→t<n:=by
  intro t e;rw[e] at hdo;simpa [SM] using hdo
 split at h
 ·rename_i ch x hop
  split at h
  rotate_left
  ·exact h.elim
  rename_i hp
  refine wpIn_wide.2 (Aby (Q:=Q) (Qm:=PK P Q o.dst ch x s2) ho hs1 hp hs2 hdst ?_ h hOk hle hk)
  rintro ρ1 d1 L1 W1 hOk1 ⟨i,c,cap,buf,s,r,tm,hch,hi,hroom,hq⟩
  have hh:W1.heap[c]?=some (.chan cap buf.toArray false s r tm):=hOk1.2 (sg c _) (by simp[Ahr hi]) c _ (Db _ _)
  have ech:=Bn (ρ:=ρ1) (ds:=ds) (hopn ch (by rw[hop];simp[Op.operands]))
  have ex:=Bn (ρ:=ρ1) (ds:=ds) (hopn x (by rw[hop];simp[Op.operands]))
  refine⟨undef,_,d1,_,fun b items cs rest=>Abg ho hg hop (ech.trans hch) hh (by simpa using hroom) b items cs rest,?_,Le.refl _,MV ..,hq⟩
  refine hOk1.YU hi ?_
  rw[Jv,ex];simp
 ·rename_i cs' hop
  split at h
  rotate_left
  ·exact h.elim
  rename_i ch e hcs
  split at h
  rotate_left
  ·exact h.elim
  rename_i z hz
  split at h
  rotate_left
  ·exact h.elim
  rename_i hp
  have hcs':cs'= #[⟨ch,none,e⟩]:=by
   apply Array.ext';simpa using hcs
  subst hcs'
  rw[Agm] at hz
  obtain⟨ti,hi',hz'⟩:=hz
  refine wpIn_wide.2 (Aby (Q:=Q) (Qm:=Mo P Q o.dst ch z s2) ho hs1 hp hs2 hdst ?_ h hOk hle hk)
  rintro ρ1 d1 L1 W1 hOk1 ⟨i,c,cap,buf,s,r,tm,hch,hi,hq1,hq2⟩
  have hh:W1.heap[c]?=some (.chan cap buf.toArray false s r tm):=hOk1.2 (sg c _) (by simp[Ahr hi]) c _ (Db _ _)
  have ech:=Bn (ρ:=ρ1) (ds:=ds) (hopn ch (by rw[hop];simp[Op.operands]))
  cases buf with
  |nil=>
   exact⟨_,W1,d1,L1,fun b items cs rest=>Sp ho hg hop hi' hz' (ech.trans hch) hh b items cs rest,hOk1,Le.refl _,AL.refl _,hq2 Z⟩
  |cons v rest'=>
   refine⟨_,_,d1,_,fun b items cs rest=>Si ho hg hop hi' hz' (ech.trans hch) hh (by simp) b items cs rest,?_,Le.refl _,MV ..,hq1 v rest' Z⟩
   refine hOk1.YU hi ?_
   rw[Jv];simp
 ·rename_i f args ats hop
  split at h
  rotate_left
  ·exact h.elim
  exact Ac5 ho hg hop hopn hdst hnd hs1 hs2 h hOk hle hk
 ·exact h.elim
def Yx{pr:Bool}{d0}{m:Nat}(hm:P.follows .mixedOrders=true):
  ∀(c:Code) (Q:Co) (ρ:Env) (d:Aa) (L:List Aa) (W:World) (ms:List Nat),xwp P (Hy yl pr P n c) Q ρ d L→Ok (d::(L++(HW ms++F))) W→Le d0 d→AL W0 W→
   c.wpIn Fence.wide m P (liftM n F W0 d0 Q) (act n ρ (marksOf ms)) W:=by
 intro c
 induction c with
 |skip=>
  intro Q ρ d L W ms h hOk hle hk
  exact wpIn_skip ⟨ms,ρ,d,L,Z,hOk,hle,hk,h⟩
 |region id ops drawn=>
  intro Q ρ d L W ms h hOk hle hk
  simp only[Hy] at h
  split at h
  ·rename_i hc
   simp only[Afb,Ahu] at hc
   obtain⟨⟨hd,_⟩,hnd⟩:=hc
   subst hd
   exact wpIn_mono (Aat (Rz hnd) h hOk hle hk) (fun e a w hq=>⟨ms,hq⟩)
  ·exact wpIn_mono (wpIn_wide.2 (FU (ds:=marksOf ms) (F:=HW ms++F) (W0:=W0) (d0:=d0) hm _ Q ρ d L W h hOk hle hk)) (fun e a w hq=>⟨ms,hq⟩)
 |seq a b iha ihb=>
  intro Q ρ d L W ms h hOk hle hk
  simp only[Hy] at h
  rw[Aez] at h
  refine wpIn_seq (wpIn_mono (iha _ ρ d L W ms h hOk hle hk) ?_)
  intro e a w hq
  cases e with
  |normal=>
   obtain⟨ms',ρ',d',L',rfl,h1,h2,h3,h4⟩:=hq
   exact ihb Q ρ' d' L' w ms' h4 h1 h2 h3
  |_=>exact hq
 |cond c a b iha ihb=>
  intro Q ρ d L W ms h hOk hle hk
  simp only[Hy] at h
  split at h
  ·rename_i hc
   rw[Aen] at h
   obtain⟨t,ht,h1,h2⟩:=h
   exact wpIn_cond_split (by rw[Bn hc];exact ht) (fun e=>iha Q ρ d L W ms (h1 e) hOk hle hk) (fun e=>ihb Q ρ d L W ms (h2 e) hOk hle hk)
  ·exact h.elim
 |block id a iha=>
  intro Q ρ d L W ms h hOk hle hk
  simp only[Hy] at h
  rw[Adz] at h
  refine wpIn_block (wpIn_mono (iha _ ρ d L W ms h hOk hle hk) ?_)
  intro e a w hq
  cases e with
  |exit i=>
   obtain⟨ms',ρ',d',L',rfl,h1,h2,h3,h4⟩:=hq
   simp only[Exit.inBlock]
   by_cases e:i=id
   ·simp only[e,if_true] at h4⊢
    exact⟨ms',ρ',d',L',Z,h1,h2,h3,h4⟩
   ·simp only[if_neg e] at h4⊢
    exact⟨ms',ρ',d',L',Z,h1,h2,h3,h4⟩
  |_=>exact hq
 |loop a iha=>
  intro Q ρ d L W ms h hOk hle hk
  simp only[Hy] at h
  rw[Ad2] at h
  obtain⟨I,⟨m0,hI⟩,round⟩:=h
  refine wpIn_loop_ghost (fun m a w=>∃ms ρ d L,a=act n ρ (marksOf ms)∧Ok (d::(L++(HW ms++F))) w∧Le d0 d∧AL W0 w∧I m ρ d L) m0 ⟨ms,ρ,d,L,Z,hOk,hle,hk,hI⟩ ?_
  rintro m a w ⟨ms',ρ',d',L',rfl,h1,h2,h3,h4⟩
  refine wpIn_mono (iha _ ρ' d' L' w ms' (round m ρ' d' L' h4) h1 h2 h3) ?_
  intro e a w hq
  cases e with
  |normal=>
   obtain⟨ms'',ρ'',d'',L'',rfl,k1,k2,k3,m',k4,k5⟩:=hq
   exact⟨m',k4,ms'',ρ'',d'',L'',Z,k1,k2,k3,k5⟩
  |_=>exact hq
 |exit id=>
  intro Q ρ d L W ms h hOk hle hk
  exact wpIn_exit ⟨ms,ρ,d,L,Z,hOk,hle,hk,h⟩
 |ret=>
  intro Q ρ d L W ms h hOk hle hk
  exact wpIn_ret ⟨ms,ρ,d,L,Z,hOk,hle,hk,h⟩
 |rangeFunc f ps as bd _ _=>
  intro Q ρ d L W ms h hOk hle hk
  simp only[Hy] at h
  split at h
  rotate_left
  ·exact h.elim
  rename_i hc
  simp only[Afb] at hc
  obtain⟨⟨⟨hf,hps⟩,hna⟩,hnb⟩:=hc
  obtain⟨g,first,cap,hfv,hit⟩:=h
  refine wpIn_rangeFunc fun fn _=>?_
  have hev:(act n ρ (marksOf ms)).eval f=.func (.func g) first cap:=(Bn hf).trans hfv
  let rc:Loop:={state:=.ready,pending:=none,fn:=fn,tmps:=(act n ρ (marksOf ms)).tmps,params:=ps,assign:=as,body:=bd,defers:=W.heap.size}
  have hrec:Sz P ρ ps.toList (ET pr P n as) (ET pr P n bd) rc:=⟨pr,n,hm,Z,Z,fun t ht=>by
   have:=Array.all_eq_true.1 hps;obtain⟨i,hi,rfl⟩:=Array.mem_iff_getElem.1 (Array.mem_toList_iff.1 ht);simpa using this i hi,Z,Z,hna,hnb⟩
  obtain⟨R,hcall,hR⟩:=hit (W.heap.size+1) rc hrec Z Z
  have hen:=run_enterLoop_outer (P:=P) (w:=W) fn (act n ρ (marksOf ms)).tmps ps as bd
  have hOk1:Ok (d::(L++(HW (W.heap.size::ms)++F))) (W.alloc (.deferred (some []))):=Ok.II.1 (hOk.push (.deferred (some [])))
  have hOk2:Ok (d::((sg (W.heap.size+1) (.loop rc)::L)++(HW (W.heap.size::ms)++F))) ((W.alloc (.deferred (some []))).alloc (.loop rc)):=by
   have:=hOk1.push (.loop rc);rwa [World.size_alloc] at this
  have hk2:AL W0 ((W.alloc (.deferred (some []))).alloc (.loop rc)):=(hk.trans (EC _ _)).trans (EC _ _)
  refine⟨W.heap.size+1,_,(W.alloc (.deferred (some []))).alloc (.loop rc),{target:=.fn (.func g) cap,args:=first++ #[.func (.yield (W.heap.size+1)) #[] #[]]},(W.alloc (.deferred (some []))).alloc (.loop rc),g,first++ #[.func (.yield (W.heap.size+1)) #[] #[]]++cap,(W.alloc (.deferred (some []))).alloc (.loop rc),hen,?_,fun _ _=>trivial,?_,fun h=>by simp[Fence.wide] at h,?_⟩
  ·simp only[resolve,hev,Deferred.ofValue,Sem.run_pure,Array.map_singleton]
   simp[Act.eval]
  ·simp only[invoke];exact FL hcall.1 _ _
  refine callsIn_wide.2 ?_
  have hc:=hcall.2 (HW (W.heap.size::ms)++F) _ hOk2
  have ha:(first.toList++[Value.func (.yield (W.heap.size+1)) #[] #[]]++cap.toList).toArray=first++ #[.func (.yield (W.heap.size+1)) #[] #[]]++cap:=by apply Array.ext';simp
  rw[ha] at hc
  refine hc.mono ?_
  rintro e w2 ⟨d2,L2,q1,q2,q3,q4⟩
  obtain⟨v,rc',L3,rfl,rfl,hst,hpend⟩:=hR e d2 L2 q2 q4
  have q1':=Ok.II.1 q1
  have hl:=q1'.I4
  refine⟨_,_,run_endLoop hl hst,?_⟩
  have q5:Ok (d2::(L3++(HW (W.heap.size::ms)++F))) (w2.putObj (W.heap.size+1) (.loop {rc' with state:=.exhausted})):=
   (q1'.IQ (o':=.loop {rc' with state:=.exhausted})).sub (Ahj _ (List.Sublist.append_left (Age _ _) _))
  have q6:=hk2.trans (q3.trans (Gc w2 (W.heap.size+1) (.loop {rc' with state:=.exhausted})))
  obtain⟨w4,hw4⟩:∃w4,w2.putObj (W.heap.size+1) (.loop {rc' with state:=.exhausted})=w4:=⟨_,Z⟩
  rw[hw4] at q5 q6⊢
  clear hw4
  cases hp:rc'.pending with
  |none=>
   rw[hp] at hpend
   exact⟨W.heap.size::ms,ρ,d2,L3,Z,q5,hle.trans q2,q6,hpend⟩
  |some j=>
   rw[hp] at hpend
   cases j with
   |exit id=>exact wpIn_exit ⟨W.heap.size::ms,ρ,d2,L3,Z,q5,hle.trans q2,q6,hpend⟩
   |ret=>exact wpIn_ret ⟨W.heap.size::ms,ρ,d2,L3,Z,q5,hle.trans q2,q6,hpend⟩
   |_=>exact hpend.elim
 |_=>intro Q ρ d L W ms h;exact h.elim
def W9{fn:Func}{tmps:Array Value}{R:Ending→World→Prop}{u:FrameMode}(hu:u≠.run)
  (fin:∀w,Ok (d::(L++F)) w→AL W0 w→LeavesIn Fence.wide 0 P fn tmps R [] u w):∀(ms:List Nat) (w:World),Ok (d::(L++(HW ms++F))) w→AL W0 w→LeavesInM Fence.wide 0 P fn tmps R (marksOf ms) u w
 |[],w,h,hk=>fin w h hk
 |r::ms,w,h,hk=>by
  refine⟨hu,.inl ⟨r,_,Z,run_takeDeferred h.I4,?_⟩⟩
  refine W9 hu fin ms _ ?_ (hk.trans (Gc _ _ _));exact(h.IQ (o':=.deferred none)).sub (Ahj _ (List.Sublist.append_left (Age _ _) _))
def Fl{pr:Bool}{f}{g:Hn}(hd:Gf yl pr P f=some g){args}(ha:args.length≤g.n){R}
  (h:xwp P g.code (mkPost g.res R) (GP args) d L):Ao P f args d L R:=by
 simp only[Gf] at hd
 split at hd<;>try cases hd
 rename_i fn hf
 split at hd<;>try cases hd
 rename_i hn
 split at hd<;>try cases hd
 rename_i c hb
 rw[Agn] at hd
 obtain⟨rs,hr,rfl⟩:=hd
 simp only[Agl,not_or,Ahx,Aiv] at hn
 refine⟨⟨fn,hf,by rw[hb];rfl,hn.1⟩,fun F W hOk=>?_⟩
 refine(callsIn_wide (n:=0)).1 (callsIn_of_wp_marks hf hb trivial ?_)
 have hinit:({tmps:=args.toArray++Array.replicate (fn.ntmps - args.toArray.size) undef,defers:=[]}:Act)=act fn.ntmps (GP args) (marksOf []):=by
  simp only[act,Act.mk.injEq,marksOf,List.map_nil,and_true];apply Array.ext
  ·simp at ha⊢;omega
  ·intro i h1 h2;simp only[Array.getElem_ofFn,GP];by_cases hi:i<args.length
   ·rw[Array.getElem_append_left (by simpa using hi)];simp[hi]
   ·rw[Array.getElem_append_right (by simpa using hi)];simp[Aix,Ago (Ajp hi)]
 rw[hinit]
 have hs:=Yx (F:=F) (W0:=W) (d0:=d) (m:=0) (by simpa using hn.2) c _ _ d L W [] h hOk (Le.refl d) (AL.refl W)
 refine wpIn_mono hs ?_
 have fin:∀ms ρ d' L' w,Ok (d'::(L'++(HW ms++F))) w→Le d d'→AL W w→C9 rs R ρ d' L'→LeavesInM Fence.wide 0 P fn (act fn.ntmps ρ []).tmps (fun e w'=>∃d' L',Ok (d'::(L'++F)) w'∧Le d d'∧AL W w'∧R e d' L') (marksOf ms) .returning w:=by
  rintro ms ρ d' L' w h1 h2 h3 ⟨vs,h4,d'',L'',h5,h6⟩;refine W9 (W0:=W) (by simp) ?_ ms w h1 h3;intro w' k1 k2;refine⟨Lh vs,?_,d'',L'',h5.2 F w' k1,h2.trans h5.1,k2,h6⟩
  have hl:∀a v,HC d' L' a v→w'.cell? a=some v:=fun a v hc=>hc.cell k1.head (fun q hq=>k1.2 q (by simp[hq]));have:=HX (P:=P) (n:=fn.ntmps) (ρ:=ρ) (ds:=[]) hl fn.results.toList rs vs hr h4;rw[IG,Array.mapM_eq_mapM_toList];simp only[Sem.run_bind,Sem.run_map,this,Result.andThen,Sem.run_pure];cases vs with
  |nil=>rfl
  |cons v vs=>cases vs with
   |nil=>rfl
   |cons v' vs=>rfl
 intro e a w hq
 cases e with
 |normal=>
  obtain⟨ms,ρ,d',L',rfl,k1,k2,k3,k4⟩:=hq
  exact fin ms ρ d' L' w k1 k2 k3 k4
 |ret=>
  obtain⟨ms,ρ,d',L',rfl,k1,k2,k3,k4⟩:=hq
  exact fin ms ρ d' L' w k1 k2 k3 k4
 |panic c=>
  obtain⟨ms,h1,d',L',h2,h3,h4,d'',L'',h5,h6⟩:=hq
  show LeavesInM Fence.wide 0 P fn a.tmps _ a.defers (.panicking c) w
  rw[h1]
  refine W9 (W0:=W) (by simp) ?_ ms w h2 h4
  intro w' k1 k2
  exact⟨d'',L'',h5.2 F w' k1,h3.trans h5.1,k2,h6⟩
 |exit i=>obtain⟨_,_,_,_,_,_,_,_,hh⟩:=hq;exact hh.elim
 |goto l=>obtain⟨_,h⟩:=hq;exact h.elim
 |outgrown=>obtain⟨_,h⟩:=hq;exact h.elim
end Go.Gk
end
section
namespace Go.Gk
open Go
section
def Fg(N:Nat)(v:Value)(c:List UInt8)(h:Aa):Prop:=
 c.length≤N∧∃b T,v=.slice (some ⟨b,0,none⟩) c.length N∧h=bx b T (c.map Al++Afu (N - c.length) (Al 0))
def Fg.full{N:Nat}{v c h}(r:Fg N v c h):∃b,v=.slice (some ⟨b,0,none⟩) c.length N∧Fg N (.slice (some ⟨b,0,none⟩) N N) (c++Afu (N - c.length) 0) h:=by
 obtain⟨hc,b,T,rfl,rfl⟩:=r;have hl:(c++Afu (N - c.length) (0:UInt8)).length=N:=by simp;omega
 refine⟨b,Z,by omega,b,T,by rw[hl],?_⟩
 rw[hl];simp
def Ace{d}{b:Nat}{T u l}(h:Le (bx b T [u]) d)(hu:Ay d u l):DG d (.slice (some ⟨b,0,none⟩) 1 1) [l]:=
 (Cf.lit (sz:=1) (l:=[u]) (T:=T) (b:=b) Z (by omega)).Z2 h Z (fun i hi=>by
  obtain rfl:i=0:=by simpa using hi
  exact⟨u,Z,u,Z,hu⟩)
def Fg.bytes{N:Nat}{v c h d}(r:Fg N v c h)(hl:Le h d)(hN:N≤140737488355328):Ay d v c:=by
 obtain⟨hc,b,T,rfl,rfl⟩:=r;exact(Cf.mk (sz:=1) (xs:=c.map Al) (n:=c.length) (c:=N) (by simp) (by omega) hc (by omega) (by simp;omega) (by simp)).bytes hl
def Ay.pre{d a}{n c:Nat}{l}(h:Ay d (.slice a n c) l){k:Nat}(hk:k≤l.length):Ay d (.slice a k c) (l.take k):=by
 obtain⟨a',c',b,o,e,h2,h3,h4,h5,h6,h7,h8⟩:=h;cases e;have hl:(l.take k).length=k:=by simp;omega
 refine⟨a,c,b,o,by rw[hl],fun h0=>?_,h3,h4,by omega,h6,by omega,fun i hi=>?_⟩
 ·rw[hl] at h0;exact h2 (by omega)
 ·obtain⟨cs,k1,k2,k3⟩:=h8 i (by omega);exact⟨cs,k1,k2,by simpa using k3⟩
def CZ(c:List UInt8):((c.map Al).all (·.oneCell'))=true:=by
 rw[Afs];intro x hx;obtain⟨u,_,rfl⟩:=Ajc.1 hx;rfl
section
variable {P:Program}{pan:List PanicEntry→AP}{Qn:Env→AP}{Ls L:List Aa}{ρ:Env}{d:Aa}{s:GS}{t:Nat}{tk:Bool}
def TU{by_:Nat}{z x y}(i:Nat){N:Nat}{v c news h}(ex:ev ρ x=v)(hi:L[i]?=some h)(ho:Fg N v c h)
  {w}(ey:ev ρ y=w) (hx:RdX d (Ls++L++L) w news.length 1 (news.map Al)) (hfit:c.length+news.length≤N) (hN:N≤140737488355328)
  (k:∀v' h',Fg N v' (c++news) h'→gws P pan Qn s Ls (upd ρ t v') d (L.set i h')):gws P pan Qn (.op false ⟨some t,none,.app 1 by_ z x y⟩ s) Ls ρ d L:=by
 obtain⟨xa,xc,rfl,hl,hx0,hxc⟩:=hx
 obtain⟨hc,b,T,rfl,rfl⟩:=ho
 refine⟨d,L,Vs.refl d L,?_⟩
 simp only[gop,gi,maxLen]
 refine⟨_,c.length,N,xa,news.length,xc,news.map Al,ex,ey,hl,CZ news,hx0,hxc,by omega,by omega,fun hle=>.inr ⟨i,b,0,T,_,Z,hi,?_,d,_,Vs.refl _ _,?_⟩,fun hlt=>by omega⟩
 ·simp;omega
 ·have e:patch (c.map Al++Afu (N - c.length) (Al 0)) (0+c.length*1) (news.map Al)=(c++news).map Al++Afu (N - (c++news).length) (Al 0):=by
   simp only[patch,Ahg,Aho,Agu,Ahk,Afg,Afk];rw[Ahy (by simp),Agt (by simp)];congr 2;rw[Aki,Aia (by simp),Agh,Agu,List.drop_replicate];congr 1;omega
  rw[e]
  refine k _ _ ⟨by simp;omega,b,T,?_,Z⟩
  simp
def IP{by_:Nat}{z x y}(i:Nat){N:Nat}{v c news h}{bt:Nat}{Tt vs}(ex:ev ρ x=v)(hi:L[i]?=some h)(ho:Fg N v c h)
  {n':Nat}(ey:ev ρ y=.slice (some ⟨bt,0,none⟩) n' n') (hvs:vs=news.map Al) (hn':n'=news.length) (hfit:c.length+news.length≤N) (hN:N≤140737488355328)
  (k:∀v' h',Fg N v' (c++news) h'→gws P pan Qn s Ls (upd ρ t v') d (L.set i h')):gws P pan Qn (.op false ⟨some t,none,.app 1 by_ z x y⟩ s) Ls ρ d (bx bt Tt vs::L):=by
 subst hvs;subst hn'
 obtain⟨hc,b,T,rfl,rfl⟩:=ho
 refine⟨d,_,Vs.refl d _,?_⟩
 simp only[gop,gi,maxLen]
 have hrd:RdX d (Ls++(bx bt Tt (news.map Al)::L)++(bx bt Tt (news.map Al)::L)) (.slice (some ⟨bt,0,none⟩) news.length news.length) news.length 1 (news.map Al):=
  RdX.lit (T:=Tt) (Ls.length) (by rw[Afg,List.getElem?_append_right (Afe _)];simp) (by simp)
 obtain⟨xa,xc,e,hl,hx0,hxc⟩:=hrd
 cases e
 refine⟨_,c.length,N,_,news.length,_,news.map Al,ex,ey,hl,CZ news,hx0,hxc,by omega,by omega,fun hle=>.inr ⟨i+1,b,0,T,_,Z,by simpa using hi,?_,d,L.set i (bx b T ((c++news).map Al++Afu (N - (c++news).length) (Al 0))),?_,?_⟩,fun hlt=>by omega⟩
 ·simp;omega
 ·have e:patch (c.map Al++Afu (N - c.length) (Al 0)) (0+c.length*1) (news.map Al)=(c++news).map Al++Afu (N - (c++news).length) (Al 0):=by
   simp only[patch,Ahg,Aho,Agu,Ahk,Afg,Afk];rw[Ahy (by simp),Agt (by simp)];congr 2;rw[Aki,Aia (by simp),Agh,Agu,List.drop_replicate];congr 1;omega
  rw[e,List.set_cons_succ]
  exact Vs.drop (Age _ _)
 ·refine k _ _ ⟨by simp;omega,b,T,?_,Z⟩
  simp
def Abz{x}{sz b o n c l h m:Nat}{lo hi mx:Option Operand}(ex:ev ρ x=.slice (some ⟨b,o,none⟩) n c)(hc:EA n c (lo.map (ev ρ)) (hi.map (ev ρ)) (mx.map (ev ρ))=some (l,h,m))(hml:m≠l)
  (k:gws P pan Qn s Ls (upd ρ t (.slice (some ⟨b,o+l*sz,none⟩) (h - l) (m - l))) d L):gws P pan Qn (.op tk ⟨some t,none,.sl sz x lo hi mx⟩ s) Ls ρ d L:=
 w_q Z ⟨_,n,c,l,h,m,ex,fun _ a' ha=>by cases ha;rfl,hc,by rw[if_neg hml];rfl⟩ k
def TH{g:GOp}(k:∀d',Le d d'→(∀h∈L,Le h d')→gws P pan Qn (.op false g s) Ls ρ d' []):gws P pan Qn (.op false g s) Ls ρ d L:=
 let ⟨d',h1,h2,h3⟩:=Vs.Ii d L
 B1 d' [] h1 (k d' h2 h3)
def Xp(a:Int):Value.int .u8 (IntKind.u8.wrap a)=Al (UInt8.ofNat (a % 256).toNat):=by
 have h0:0≤a % 256:=Int.emod_nonneg a (by omega);have h1:a % 256<256:=Int.emod_lt_of_pos a (by omega);have h2:(a % 256).toNat<256:=by omega
 simp only[Al,IntKind.wrap,IntKind.signed,IntKind.bits,Value.int.injEq,true_and];simp[Ain h2];omega
def Dt{x j}{a:Int}(ex:ev ρ x=.int j a)(h:gws P pan Qn s Ls (upd ρ t (Al (UInt8.ofNat (a % 256).toNat))) d L):gws P pan Qn (.op tk ⟨some t,none,.cvi .u8 x⟩ s) Ls ρ d L:=
 Xn ex (by rw[Xp];exact h)
def GR{x k k'}{a:Int}{y}(ex:ev ρ x=.int k a)(ey:ev ρ y=.int k' 8)(hk:8≤k.bits)(h:gws P pan Qn s Ls (upd ρ t (.int k (a / 256))) d L):
  gws P pan Qn (.op tk ⟨some t,none,.bin .shr x y⟩ s) Ls ρ d L:=by
 refine DQ ?_ h
 rw[ex,ey]
 have:min (Int.toNat 8) k.bits=8:=by simp;omega
 simp only[Dz,this]
 rw[if_neg (by omega)]
 simp[Int.fdiv_eq_ediv_of_nonneg]
end
end
end Go.Gk
end
