/-
  Our own texts, one behind the other: Gk13 Gk14 Gk15 Gk39 Gk16 Gk17 Gk18 Gk23 Gk30 Gk31 Gk24 GkE0 GkE1 GkC0 GkC4 GkPg0 GkE2 GkC1 GkC2 GkC3 GkCl GkPg1 GkPg2 GkPg3.
-/
import Derived.Test.YteekdjalpmjdhaaGreatPlB
set_option linter.defProp false
set_option linter.unusedVariables false
set_option linter.unusedSimpArgs false
open Nat renaming le_of_ble_eq_true→Aca,le_refl→Acj,mul_le_mul_right→Adp,zero_add→Aee,add_mul→Aeg,not_lt_zero→Aez,mul_one→Afd,mod_eq_of_lt→Afh,mod_lt→Afo,one_mul→Agl,sub_self→Ahb
open Bool renaming false_eq_true→Ack
open List.Sublist renaming refl→Acd
open List renaming append_assoc→Ace,getElem?_eq_getElem→Acf,getD_eq_getElem?_getD→Acg,length_append→Aci,eq_nil_of_length_eq_zero→Acl,mem_cons_self→Acm,perm_append_comm→Acn,mem_cons_of_mem→Aco,take_succ_eq_append_getElem→Acp,replicate→Acq,length_take→Acs,drop_eq_getElem_cons→Acu,all_eq_true→Acv,mem_cons→Acw,length_cons→Acx,getElem_mem→Acz,sublist_cons_self→Ade,range→Adg,mem_singleton→Adh,map_append→Adl,append_nil→Adm,length_replicate→Adn,length_map→Adq,nil_append→Adr,length_drop→Ads,getElem?_take_of_lt→Adt,cons_append→Adv,getElem?_eq_none→Adx,take_of_length_le→Ady,take_length→Aec,perm_append_comm_assoc→Aeh,getElem_of_mem→Aej,getElem?_append_right→Aeo,map_cons→Aet,length_set→Aev,getElem?_append_left→Aex,drop_length→Afb,getElem?_map→Afc,drop_of_length_le→Afe,set_eq_of_length_le→Afk,mem_range→Afl,nodup_cons→Afn,getD_cons_zero→Afq,getD_cons_succ→Afr,getElem_append_right→Afs,sublist_append_left→Afu,getElem?_drop→Afw,getElem_append_left→Afx,ext_getElem?→Age,set_cons_succ→Agj,map_take→Ahd,ext_getElem→Ahi,foldl_cons→Ahn
open List.Perm renaming swap→Adb
open Option renaming getD_some→Aem,bind_some→Aeu,map_some→Aff
section
namespace Go.Gk
open Go
variable{T:TypeId}{x y ch:Operand}{j:Int}{f:FuncId}{v:Value}{a b:DF}{pre post:GS}{dst:Option Nat}{cap:Nat}{tm:Bool}
section
def chunk(cs:List Value)(i sz:Nat):List Value:=(cs.drop (i*sz)).take sz
def An{α}(sz:Nat)(R:Ab→List Value→α→Prop)(d:Ab)(v:Value)(xs:List α)(h:Ab):Prop:=
 ∃cs,Bu sz v xs.length cs h∧∀i (hi:i<xs.length),R d (chunk cs i sz) xs[i]
def Src{α}(sz:Nat)(R:Ab→List Value→α→Prop)(d:Ab)(Lk:List Ab)(w:Value)(ys:List α):Prop:=
 ∃news,RdX d Lk w ys.length sz news∧(news.all (·.oneCell'))=true∧∀i (hi:i<ys.length),R d (chunk news i sz) ys[i]
def GG{α}(R:Ab→List Value→α→Prop):Prop:=∀d cs x,R d cs x→(cs.all (·.oneCell'))=true
def Gs{α}(R:Ab→List Value→α→Prop):Prop:=∀{d d' cs x},Le d d'→R d cs x→R d' cs x
def EX:GG AE:=fun _ _ _ h=>by cases h;rfl
def D2:GG A7:=fun _ _ _ h=>by obtain⟨rfl,_⟩:=h;rfl
def Wb:GG KW:=fun _ _ _ h=>by obtain⟨rfl,_⟩:=h;rfl
def M9:GG RBs:=fun _ _ _ h=>by obtain⟨_,rfl,_,_,_,_,rfl,_⟩:=h;rfl
def AP:Gs AE:=fun _ h=>h
def BE:Gs A7:=fun _ h=>h
def Xm:Gs KW:=fun _ h=>h
def BQ:Gs RBs:=fun hl ⟨u,h1,h2⟩=>⟨u,h1,h2.mono hl⟩
section
variable {α:Type}{sz:Nat}{R:Ab→List Value→α→Prop}{d:Ab}{v:Value}{xs:List α}{h:Ab}
def Ie{cs}{n i:Nat}(hl:cs.length=n*sz)(hi:i<n):(chunk cs i sz).length=sz:=by
 have:(i+1)*sz≤n*sz:=Adp sz hi;rw[Aeg,Agl] at this;simp only[chunk,Acs,Ads,hl];omega
def ER{cs ds}{n i:Nat}(hl:cs.length=n*sz)(hi:i<n):chunk (cs++ds) i sz=chunk cs i sz:=by
 have:(i+1)*sz≤n*sz:=Adp sz hi;rw[Aeg,Agl] at this;simp only[chunk];rw[List.drop_append_of_le_length (by omega),List.take_append_of_le_length (by simp only[Ads];omega)]
def Er{cs ds}{n i:Nat}(hl:cs.length=n*sz)(hi:n≤i):chunk (cs++ds) i sz=chunk ds (i - n) sz:=by
 have h1:n*sz≤i*sz:=Adp sz hi;simp only[chunk];rw[List.drop_append,Afe (by omega),Adr,hl,Nat.sub_mul]
def An.nil:An sz R d nV [] emp:=⟨[],Bu.nil sz,fun i hi=>absurd hi (Aez i)⟩
def An.MK{b:Nat}:An sz R d (.slice (some ⟨b,0,none⟩) 0 0) [] (bx b T []):=⟨[],Bu.lit (by simp) (by simp),fun i hi=>absurd hi (Aez i)⟩
def An.mono(hR:Gs R)(o:An sz R d v xs h){d'}(hl:Le d d'):An sz R d' v xs h:=
 let ⟨cs,h1,h2⟩:=o
 ⟨cs,h1,fun i hi=>hR hl (h2 i hi)⟩
def An.Bt(o:An sz R d v xs h):xs.length≤140737488355328:=let ⟨_,h1,_⟩:=o;h1.2.1
def An.val(o:An sz R d v xs h):∃a c,v=.slice a xs.length c:=by
 obtain⟨cs,h1,_⟩:=o;obtain⟨a,b,c,e,_⟩:=h1.slice;exact⟨a,c,e⟩
def RSl.val(o:RSl sz R d v xs):∃a c,v=.slice a xs.length c:=let ⟨a,c,_,_,e,_⟩:=o;⟨a,c,e⟩
def An.rsl(o:An sz R d v xs h)(hR:Gs R)(hsz:0<sz){d'}(hl:Le d d')(hh:Le h d'):RSl sz R d' v xs:=by
 obtain⟨cs,h1,h2⟩:=o;exact h1.rsl hh Z hsz (fun i hi=>hR hl (h2 i hi))
def An.src(o:An sz R d v xs h)(hc:GG R){Lk}(hk:h∈Lk):Src sz R d Lk v xs:=by
 obtain⟨cs,h1,h2⟩:=o;refine⟨cs,h1.rdx hk,?_,h2⟩
 have hl:=h1.1;rw[Acv];intro u hu;obtain⟨j,hj,rfl⟩:=Aej hu;by_cases h0:sz=0
 ·subst h0;simp at hl;subst hl;simp at hj
 ·have hq:j / sz<xs.length:=by rw[Nat.div_lt_iff_lt_mul (by omega)];omega
  have:=Acv.1 (hc _ _ _ (h2 _ hq)) cs[j] (by
   have hdm:=Nat.div_add_mod' j sz;have hm:=Afo j (show 0<sz by omega);rw[List.mem_iff_getElem?];refine⟨j % sz,?_⟩
   rw[chunk,Adt hm,Afw,hdm,Acf hj])
  exact this
def RSl.src(o:RSl sz R d v xs)(hc:GG R)(_:0<sz)(Lk:List Ab):Src sz R d Lk v xs:=by
 obtain⟨a,c,b,o,rfl,h2,h3,h4,h5,h6,h7,h8⟩:=o;have key:∀n,n≤xs.length→∃news:List Value,news.length=n*sz∧(∀j u,news[j]?=some u→DC d b (o+j) u)∧(news.all (·.oneCell'))=true∧∀i (hi:i<n) (hi':i<xs.length),R d (chunk news i sz) xs[i]:=by
  intro n;induction n with
  |zero=>exact fun _=>⟨[],by simp,fun j u hu=>by simp at hu,Z,fun i hi=>absurd hi (Aez i)⟩
  |succ n ih=>
   intro hn
   obtain⟨news,k1,k2,k3,k4⟩:=ih (by omega)
   obtain⟨cs,m1,m2,m3⟩:=h8 n (by omega)
   refine⟨news++cs,by simp[k1,m1,Aeg],fun j u hu=>?_,?_,fun i hi hi'=>?_⟩
   ·rw[List.getElem?_append] at hu
    split at hu
    ·exact k2 j u hu
    ·rename_i hj
     have:=m2.at hu
     rw[k1] at this
     rw[show o+j=o+n*sz+(j - n*sz) by omega]
     exact this
   ·rw[List.all_append,k3,hc _ _ _ m3];rfl
   ·by_cases e:i<n
    ·rw[ER k1 e];exact k4 i e hi'
    ·obtain rfl:i=n:=by omega
     rw[Er k1 (Acj _),Ahb]
     have:chunk cs 0 sz=cs:=by simp[chunk,←m1]
     rw[this];exact m3
 obtain⟨news,k1,k2,k3,k4⟩:=key xs.length (Acj _);refine⟨news,⟨a,c,Z,k1,fun e=>?_,fun a' ha i u hu=>?_⟩,k3,fun i hi=>k4 i hi hi⟩
 ·cases xs with
  |nil=>exact Acl (by simpa using k1)
  |cons x xs=>have:=h2 (by simp);rw[e] at this;cases this
 ·have h0:xs.length≠0:=by
   intro h0;rw[h0,Nat.zero_mul] at k1;rw[Acl k1] at hu;simp at hu
  have e:=h2 h0;rw[ha] at e;cases e;rw[Addr.add_lit];exact BH (k2 i u hu)
def Src.lit{Lk}{b c n:Nat}{cs}{ys:List α}(i:Nat)(hi:Lk[i]?=some (bx b T cs))(hn:n=ys.length)(hl:cs.length=ys.length*sz)(h1:(cs.all (·.oneCell'))=true)
  (h2:∀i (hi:i<ys.length),R d (chunk cs i sz) ys[i]):Src sz R d Lk (.slice (some ⟨b,0,none⟩) n c) ys:=by
 subst hn
 exact⟨cs,RdX.lit i hi hl,h1,h2⟩
def An.lit{b n:Nat}{cs}(hn:n=xs.length)(hl:cs.length=xs.length*sz)(hx:xs.length≤140737488355328)(h2:∀i (hi:i<xs.length),R d (chunk cs i sz) xs[i]):
  An sz R d (.slice (some ⟨b,0,none⟩) n n) xs (bx b T cs):=by
 subst hn
 exact⟨cs,Bu.lit hl hx,h2⟩
def An.D7{b:Nat}{cs}{x:α}(hl:cs.length=sz)(h2:R d cs x):An sz R d (.slice (some ⟨b,0,none⟩) 1 1) [x] (bx b T cs):=
 An.lit Z (by simp[hl]) (by simp) (fun i hi=>by
  obtain rfl:i=0:=by simpa using hi
  have:chunk cs 0 sz=cs:=by simp[chunk,←hl]
  rw[this];exact h2)
end
def An.XR{d}{b n:Nat}{cs l}(e:cs=l.map As)(hn:n=l.length)(hx:l.length≤140737488355328):An 1 AE d (.slice (some ⟨b,0,none⟩) n n) l (bx b T cs):=by
 subst e;refine An.lit hn (by simp) hx (fun i hi=>?_);simp only[AE,chunk,Afd,←List.map_drop,←Ahd];rw[Acu hi];rfl
def An.bytes{d v xs h}(o:An 1 AE d v xs h):Bu 1 v xs.length (xs.map As) h:=by
 obtain⟨cs,h1,h2⟩:=o;have hl:=h1.1;have:cs=xs.map As:=by
  apply Ahi
  ·simp at hl⊢;exact hl
  ·intro i h3 h4;have h5:i<xs.length:=by simpa using h4
   have h6:chunk cs i 1=[As xs[i]]:=h2 i h5;simp only[chunk,Afd] at h6;have h7:=congrArg (·[0]?) h6;simp only[Adt (show 0<1 by omega),Afw,Nat.add_zero,Acf h3,List.getElem?_cons_zero,Option.some.injEq] at h7;simp[h7]
 rw[←this];exact h1
section
variable {P:Program}{pan:List PanicEntry→AL}{Qn:Env→AL}{Ls L:List Ab}{ρ:Env}{d:Ab}{s:GS}{t:Nat}{tk:Bool}
def I1{α}{sz by_:Nat}{R z}(i:Nat){v w}{xs ys:List α}{h}(ex:ev ρ x=v)(hi:L[i]?=some h)(ho:An sz R d v xs h)
  (ey:ev ρ y=w) (hs:Src sz R d (Ls++L++L) w ys) (hsz:0<sz) (hm:xs.length+ys.length≤140737488355328) (hb:(xs.length+ys.length)*by_≤140737488355328)
  (k:∀v' h',An sz R d v' (xs++ys) h'→gws P pan Qn s Ls (upd ρ t v') d (L.set i h')):gws P pan Qn (.op false ⟨some t,none,.app sz by_ z x y⟩ s) Ls ρ d L:=by
 obtain⟨cs,h1,h2⟩:=ho
 obtain⟨news,k1,k2,k3⟩:=hs
 have hl:=h1.1
 refine AbK i ex hi h1 ey k1 k2 hsz hm hb (fun v' h' o=>k v' h' ⟨cs++news,by rw[Aci];exact o,fun j hj=>?_⟩)
 by_cases e:j<xs.length
 ·rw[ER hl e,Afx e];exact h2 j e
 ·rw[Er hl (by omega),Afs (by omega)]
  exact k3 _ (by simp at hj;omega)
def Ep{α:Type}{sz by_:Nat}{R:Ab→List Value→α→Prop}{z:List Value}{x y:Operand}(i:Nat){v w:Value}{xs ys:List α}{h g:Ab}(ex:ev ρ x=v)(hi:L[i]?=some h)(ho:An sz R d v xs h)
  (ey:ev ρ y=w) (hs:An sz R d w ys g) (hc:GG R) (hsz:0<sz) (hm:xs.length+ys.length≤140737488355328) (hb:(xs.length+ys.length)*by_≤140737488355328)
  (k:∀v' h',An sz R d v' (xs++ys) h'→gws P pan Qn s Ls (upd ρ t v') d (L.set i h')):gws P pan Qn (.op false ⟨some t,none,.app sz by_ z x y⟩ s) Ls ρ d (g::L):=by
 obtain⟨cs,h1,h2⟩:=ho
 obtain⟨news,k1,k2,k3⟩:=(hs.src hc (by simp):Src sz R d (Ls++(g::L)++(g::L)) w ys)
 have hl:=h1.1
 refine NS (i+1) ex (by simpa using hi) h1 ey k1 k2 hsz hm hb (fun v' h' o=>⟨d,L.set i h',?_,k v' h' ⟨cs++news,by rw[Aci];exact o,fun j hj=>?_⟩⟩)
 ·rw[Agj]
  exact Vs.drop (Ade _ _)
 ·by_cases e:j<xs.length
  ·rw[ER hl e,Afx e];exact h2 j e
  ·rw[Er hl (by omega),Afs (by omega)]
   exact k3 _ (by simp at hj;omega)
def Ve{α:Type}{sz:Nat}{R:Ab→List Value→α→Prop}{x:Operand}{v:Value}{xs:List α}{h:Ab}(ex:ev ρ x=v)(hr:An sz R d v xs h)(k:gws P pan Qn s Ls (upd ρ t (vZ xs.length)) d L):
  gws P pan Qn (.op tk ⟨some t,none,.len x⟩ s) Ls ρ d L:=by
 obtain⟨a,c,rfl⟩:=hr.val
 exact AO ex k
def A0{α}{sz:Nat}{R i v}{xs:List α}{k}{m:Nat}(ex:ev ρ x=v)(hr:RSl sz R d v xs)(ei:ev ρ i=.int k j)(hm:j=(m:Int))(hl:m<xs.length)
  (h:∀b o cs,cs.length=sz→DCs d b o cs→R d cs xs[m]→gws P pan Qn s Ls (upd ρ t (.pointer (some ⟨b,o,none⟩))) d L):gws P pan Qn (.op tk ⟨some t,none,.idx sz x i⟩ s) Ls ρ d L:=by
 obtain⟨a,c,b,o,rfl,h2,h3,h4,h5,h6,h7,h8⟩:=hr
 obtain⟨cs,k1,k2,k3⟩:=h8 m hl
 exact Cc m ex ei hm hl h2 (h b _ cs k1 k2 k3)
end
section
variable {P:Program}{Q:BK}{ρ:Env}{d:Ab}{L:List Ab}
end
section
variable {P:Program}{pan:List PanicEntry→AL}{Qn:Env→AL}{Ls L:List Ab}{ρ:Env}{d:Ab}{s t:GS}{g:GOp}
def Ue(h1:gws P pan Qn (.op false g s) Ls ρ d L)(h2:gws P pan Qn t Ls ρ d L):gws P pan Qn (.alt g s t) Ls ρ d L:=⟨h1,h2⟩
def Gi(h:∃d1 L1,Vs d L d1 L1∧Qn ρ d1 L1):gws P pan Qn .done [] ρ d L:=h
def Ar{C:Addr→Value→Prop}{t:Nat}{v}(e:ρ t=v):KY ρ C (.tmp t) v:=e.symm
def Co{t n b:Nat}{l}(i:Nat)(e:ρ t=pZ b)(hi:L[i]?=some (bx b T l))(hn:l.length=n):KY ρ (HC d L) (.cell t (some n)) (.agg l.toArray):=
 ⟨b,0,l,e,hn,fun j u hu=>by rw[Aee];exact Aq i hi hu,Z⟩
def AaW{res:List F1}{R}(vs:List Value)(hr:Gq ρ (HC d L) res vs)(h:∀d',Le d d'→(∀k∈L,Le k d')→R (.returned (J1 vs)) d' []):Ct res R ρ d L:=
 let ⟨d',h1,h2,h3⟩:=Vs.Gp d L
 ⟨vs,hr,d',[],h1,h d' h2 h3⟩
def Dr{res:List F1}{R}(vs:List Value){L'}(hr:Gq ρ (HC d L) res vs)(hs:L'.Sublist L)(h:R (.returned (J1 vs)) d L'):Ct res R ρ d L:=
 ⟨vs,hr,d,L',Vs.drop hs,h⟩
end
section
variable {P:Program}{pan:List PanicEntry→AL}{Qn:Env→AL}{Ls L:List Ab}{ρ:Env}{d:Ab}{s:GS}{t:Nat}{tk:Bool}
end
def AB.Abh{P args d L R R'}
  (h:AB P f args d L R) (hr:∀e d' L',Le d d'→R e d' L'→∃d2 L2,Vs d' L' d2 L2∧R' e d2 L2):AB P f args d L R':=
 ⟨h.1,fun F W x=>(h.2 F W x).mono fun e W' ⟨d',L',a,b,c,r⟩=>let ⟨d2,L2,v,r2⟩:=hr e d' L' b r;⟨d2,L2,v.2 F W' a,b.trans v.1,c,r2⟩⟩
def AB.EF{P args d L R R'}
  (h:AB P f args d L (Ret R)) (hr:∀v d' L',Le d d'→R v d' L'→∃d2 L2,Vs d' L' d2 L2∧R' v d2 L2):AB P f args d L (Ret R'):=
 h.Abh (fun e d' L' hl r=>by
  cases e with
  |returned v=>exact hr v d' L' hl r
  |panicked c=>exact r.elim
  |outgrown=>exact r.elim)
def Eh.grow{N:Nat}{v c h d}(r:Eh N v c h)(hN:N≤140737488355328):An 1 AE d v c h:=by
 obtain⟨hc,b,T,rfl,rfl⟩:=r;refine⟨c.map As,Bu.mk (by simp) (by omega) hc (by omega) (by simp;omega) (by simp),fun i hi=>?_⟩
 simp only[AE,chunk,Afd,←List.map_drop,←Ahd];rw[Acu hi];rfl
end
section
def Hq:List Ab→Ab
 |[]=>emp
 |h::L=>join h (Hq L)
def H3:∀{L h},h∈L→Le h (Hq L)
 |k::L,h,hm=>by
  rcases Acw.1 hm with rfl|hm
  ·exact Le.Au _ _
  ·exact(H3 hm).trans (Le.AZ _ _)
def NJ{k}:∀{L},(∀h∈L,EC k h)→EC k (Hq L)
 |[],_=>fun _ _ _ _ e=>e.elim
 |h::_,hd=>fun b o o' e e'=>e'.elim (hd h (Acm ..) b o o' e) (NJ (fun h' hm=>hd h' (Aco _ hm)) b o o' e)
def Vs.cons{d d' h L L'}(v:Vs d L d' L'):Vs d (h::L) d' (h::L'):=
 ⟨v.1,fun F W x=>(v.2 (h::F) W (x.perm (List.perm_middle.symm.cons d))).perm (List.perm_middle.cons d')⟩
def Vs.UH{d L0}:∀{L},L.Pairwise EC→Vs d (Hq L::L0) d (L++L0)
 |[],_=>Vs.drop (Ade _ _)
 |h::L,hp=>by
  rw[List.pairwise_cons] at hp;exact(Vs.split (NJ hp.1)).trans (Vs.cons (Vs.UH hp.2))
def Vs.Uw{d L0}:∀{L},Vs d (L++L0) d (Hq L::L0)
 |[]=>Vs.emp
 |_::L=>(Vs.cons (Vs.Uw (L:=L))).trans Vs.join
def Ok.pw{d L F W}(x:Ok (d::(L++F)) W):(d::L).Pairwise EC:=x.1.sublist ((Afu L F).cons_cons d)
def Cy.borrow{P vs d L v}(h:∀d1,Le d d1→(∀k∈L,Le k d1)→Cy P f vs d1 v):
  AB P f vs d L (Ret fun r d' L'=>r=v∧d'=d∧L'=L):=by
 have h:=h (Hq (d::L)) (H3 (Acm ..)) (fun k hk=>H3 (Aco _ hk))
 refine⟨h.1,fun F W x=>?_⟩
 have hp:=x.pw
 have y:Ok (Hq (d::L)::([]++F)) W:=by
  have:=(Vs.Uw (d:=emp) (L0:=F) (L:=d::L)).2 [] W (by simpa using x.emp);simpa using this.tail
 refine(h.2 F W y).mono fun e W' ⟨d',L',a,b,c,r⟩=>?_
 cases e with
 |panicked c=>exact r.elim
 |outgrown=>exact r.elim
 |returned u=>
  obtain⟨rfl,rfl,rfl⟩:=r
  refine⟨d,L,?_,Le.refl d,c,Z,Z,Z⟩
  have:=(Vs.UH (d:=emp) (L0:=F) hp).2 [] W' (by simpa using a.emp)
  simpa using this.tail
section
variable {P:Program}{pan:List PanicEntry→AL}{Qn:Env→AL}{Ls L:List Ab}{ρ:Env}{d:Ab}{s:GS}{t:Nat}{tk:Bool}
def LM{args vs v}(ea:args.map (ev ρ)=vs)(hc:∀d1,Le d d1→(∀k∈L,Le k d1)→Cy P f vs d1 v)
  (h:gws P pan Qn s Ls (upd ρ t v) d L):gws P pan Qn (.op false ⟨some t,none,.call f args⟩ s) Ls ρ d L:=by
 refine Fb (R:=fun r d' L'=>r=v∧d'=d∧L'=L) L.length ea (by rw[Aec];exact Cy.borrow hc) (fun r d' L' _ ⟨h1,h2,h3⟩=>?_)
 subst h1;subst h2;subst h3
 rw[Afb,Adm];exact h
def EP{args R vs A B}(hL:L=A++B)(ea:args.map (ev ρ)=vs)(hc:AB P f vs d A (Ret R))
  (h:∀v d' L',Le d d'→R v d' L'→gws P pan Qn s Ls (upd ρ t v) d' (L'++B)):gws P pan Qn (.op false ⟨some t,none,.call f args⟩ s) Ls ρ d L:=by
 subst hL
 refine Fb A.length ea (by rw[List.take_left];exact hc) (fun v d' L' hl hr=>?_)
 rw[List.drop_left];exact h v d' L' hl hr
end
def RSl.cut{α}{sz:Nat}{R d a}{n c:Nat}{xs:List α}(hr:RSl sz R d (.slice a n c) xs){l h m:Nat}(h1:l≤h)(h2:h≤m)(h3:m≤c)(h4:h≤xs.length):
  RSl sz R d (.slice (if m=l then a else a.map fun a=>⟨a.block,a.off+l*sz,none⟩) (h - l) (m - l)) ((xs.drop l).take (h - l)):=by
 obtain⟨a',c',b,o,e,k2,k3,k4,k5,k6,k7,k8⟩:=hr
 cases e
 have hl:((xs.drop l).take (h - l)).length=h - l:=by simp;omega
 refine⟨_,m - l,b,o+l*sz,by rw[hl],fun h0=>?_,fun h0 a' ha=>?_,fun h0=>?_,by omega,by omega,by omega,fun i hi=>?_⟩
 ·rw[hl] at h0
  rw[if_neg (by omega),k2 (by omega)];rfl
 ·rw[if_neg (by omega)] at ha
  cases a with
  |none=>cases ha
  |some a=>cases ha;rfl
 ·split at h0
  ·omega
  ·cases a with
   |none=>have:=k4 Z;omega
   |some a=>cases h0
 ·rw[hl] at hi
  obtain⟨cs,j1,j2,j3⟩:=k8 (l+i) (by omega)
  refine⟨cs,j1,?_,?_⟩
  ·rw[Aeg,←Nat.add_assoc] at j2;exact j2
  ·simpa using j3
section
variable {P:Program}{pan:List PanicEntry→AL}{Qn:Env→AL}{Ls L:List Ab}{ρ:Env}{d:Ab}{s:GS}{t:Nat}{tk:Bool}{α:Type}{sz:Nat}{R:Ab→List Value→α→Prop}{x y z:Operand}{v:Value}{xs:List α}{kk kk':IntKind}{n m:Nat}
def Oi(ex:ev ρ x=v)(hr:RSl sz R d v xs)(ey:ev ρ y=.int kk j)(hj:j=(n:Int))(hn:n≤xs.length)(k:∀v',RSl sz R d v' (xs.take n)→gws P pan Qn s Ls (upd ρ t v') d L):
  gws P pan Qn (.op tk ⟨some t,none,.sl sz x none (some y) none⟩ s) Ls ρ d L:=by
 subst hj
 have hr':=hr
 obtain⟨a,c,b,o,rfl,h2,h3,h4,h5,h6,h7,h8⟩:=hr
 have hc:Gy xs.length c none (some (ev ρ y)) none=some (0,n,c):=by
  simp only[Gy,MQ,KX,M4,Aeu,Aff,ey,bnd];rw[if_pos (by omega)];simp
 refine w_q Z ⟨a,xs.length,c,0,n,c,ex,h3,hc,Z⟩ (k _ ?_)
 simpa using hr'.cut (l:=0) (h:=n) (m:=c) (by omega) (by omega) (Acj c) hn
def F6(ex:ev ρ x=v)(hr:RSl sz R d v xs)(ey:ev ρ y=.int kk j)(hj:j=(n:Int))(hn:n≤xs.length)(k:∀v',RSl sz R d v' (xs.drop n)→gws P pan Qn s Ls (upd ρ t v') d L):
  gws P pan Qn (.op tk ⟨some t,none,.sl sz x (some y) none none⟩ s) Ls ρ d L:=by
 subst hj
 have hr':=hr
 obtain⟨a,c,b,o,rfl,h2,h3,h4,h5,h6,h7,h8⟩:=hr
 have hc:Gy xs.length c (some (ev ρ y)) none none=some (n,xs.length,c):=by
  simp only[Gy,MQ,KX,M4,Option.isSome_none,Ack,if_false,Aeu,ey,bnd];rw[if_pos (by omega)];simp
 refine w_q Z ⟨a,xs.length,c,n,xs.length,c,ex,fun(h0:c≠n)=>h3 (by omega),hc,Z⟩ (k _ ?_)
 have:=hr'.cut (l:=n) (h:=xs.length) (m:=c) (by omega) (by omega) (Acj c) (Acj _)
 rwa [Ady (by simp)] at this
def ZD{j':Int}(ex:ev ρ x=v)(hr:RSl sz R d v xs)(ey:ev ρ y=.int kk j)(ez:ev ρ z=.int kk' j')(hj:j=(n:Int))(hj':j'=(m:Int))(hnm:n≤m)(hn:m≤xs.length)(k:∀v',RSl sz R d v' ((xs.drop n).take (m - n))→gws P pan Qn s Ls (upd ρ t v') d L):
  gws P pan Qn (.op tk ⟨some t,none,.sl sz x (some y) (some z) none⟩ s) Ls ρ d L:=by
 subst hj;subst hj'
 have hr':=hr
 obtain⟨a,c,b,o,rfl,h2,h3,h4,h5,h6,h7,h8⟩:=hr
 have hc:Gy xs.length c (some (ev ρ y)) (some (ev ρ z)) none=some (n,m,c):=by
  simp only[Gy,MQ,KX,M4,Aeu,ey,ez,bnd];rw[if_pos (by omega)];simp only[Aeu,Int.toNat_natCast];rw[if_pos (by omega)];simp
 exact w_q Z ⟨a,xs.length,c,n,m,c,ex,fun(h0:c≠n)=>h3 (by omega),hc,Z⟩ (k _ (hr'.cut (l:=n) (h:=m) (m:=c) hnm (by omega) (Acj c) hn))
end
section
variable {P:Program}{pan:List PanicEntry→AL}{Qn:Env→AL}{Ls L:List Ab}{ρ:Env}{d:Ab}{s:GS}{t:Nat}
def Zl{sz by_:Nat}{z x y}(i:Nat){v}{n m b:Nat}{xs cs h}(ex:ev ρ x=v)(hi:L[i]?=some h)(ho:Bu sz v n xs h)
  (ey:ev ρ y=.slice (some ⟨b,0,none⟩) m m) (hl:cs.length=m*sz) (h1:(cs.all (·.oneCell'))=true) (hsz:0<sz) (hm:n+m≤140737488355328) (hb:(n+m)*by_≤140737488355328)
  (k:∀v' h',Bu sz v' (n+m) (xs++cs) h'→gws P pan Qn s Ls (upd ρ t v') d (L.set i h')):gws P pan Qn (.op false ⟨some t,none,.app sz by_ z x y⟩ s) Ls ρ d (bx b T cs::L):=by
 have hrd:RdX d (Ls++(bx b T cs::L)++(bx b T cs::L)) (.slice (some ⟨b,0,none⟩) m m) m sz cs:=
  RdX.lit (T:=T) (Ls.length) (by rw[Ace,Aeo (Acj _)];simp) hl
 refine NS (i+1) ex (by simpa using hi) ho ey hrd h1 hsz hm hb (fun v' h' o=>⟨d,L.set i h',?_,k v' h' o⟩)
 rw[Agj]
 exact Vs.drop (Ade _ _)
end
def Vs.Abk{d}(Ls:List (List Ab))(is js:List Nat)(hp:(is++js).isPerm (Adg Ls.length)=true):Vs d Ls.flatten d ((is.map fun i=>Ls.getD i []).flatten):=by
 have hp:(is++js).Perm (Adg Ls.length):=List.isPerm_iff.1 hp;have h1:=hp.symm.map fun i=>Ls.getD i [];have h0:(Adg Ls.length).map (fun i=>Ls.getD i [])=Ls:=by
  apply Ahi
  ·simp
  ·intro i h1 h2;simp[List.getD,h2]
 rw[h0,Adl] at h1;have h2:=h1.flatten;rw[List.flatten_append] at h2;exact(Vs.perm h2).trans (Vs.drop (Afu _ _))
section
variable {P:Program}{Q:BK}{ρ:Env}{d:Ab}{L:List Ab}
def BX{s}(Ls L1:List Ab)(hL:L=Ls++L1)(h:gws P Q.pan Q.n s Ls ρ d L1):gwp P (.reg true s) Q ρ d L:=⟨d,Ls,L1,by rw[hL];exact Vs.refl d _,h⟩
def A9{res:List F1}{R}(vs:List Value){d' L'}(hr:Gq ρ (HC d L) res vs)(hs:Vs d L d' L')(h:R (.returned (J1 vs)) d' L'):Ct res R ρ d L:=
 ⟨vs,hr,d',L',hs,h⟩
end
def WM{l}{m:Nat}{x}(h:m<l.length):patch l m [x]=l.set m x:=by
 rw[List.set_eq_take_append_cons_drop,if_pos h];simp[patch]
def Bu.Abo{n:Nat}{v us h}(o:Bu 1 v n us h){m:Nat}(hm:m<n):
  ∃b T l c,v=.slice (some ⟨b,0,none⟩) n c∧h=bx b T l∧m<l.length∧(∀u,us[m]?=some u→l[m]?=some u)∧∀x,Bu 1 v n (us.set m x) (bx b T (patch l m [x])):=by
 obtain⟨h1,h2,⟨rfl,rfl,rfl⟩|⟨b,T,l,c,rfl,rfl,h3,h4,h5,h6⟩⟩:=o
 ·omega
 ·have hml:m<l.length:=by omega
  refine⟨b,T,l,c,Z,Z,hml,fun u hu=>?_,fun x=>?_⟩
  ·rw[←h6] at hu
   rw[Adt (by omega)] at hu
   exact hu
  ·rw[WM hml]
   refine⟨by simpa using h1,h2,.inr ⟨b,T,l.set m x,c,Z,Z,h3,h4,by simpa using h5,?_⟩⟩
   rw[Aev,List.take_set,h6]
def An.CB{d v xs h}(o:An 1 AE d v xs h){m:Nat}(hm:m<xs.length):
  ∃b T l c,v=.slice (some ⟨b,0,none⟩) xs.length c∧h=bx b T l∧m<l.length∧l[m]?=some (As xs[m])∧∀y,An 1 AE d v (xs.set m y) (bx b T (patch l m [As y])):=by
 obtain⟨b,T,l,c,h1,h2,h3,h4,h5⟩:=o.bytes.Abo hm
 refine⟨b,T,l,c,h1,h2,h3,h4 _ (by simp[hm]),fun y=>?_⟩
 have:=h5 (As y)
 rw[←List.map_set] at this
 refine⟨(xs.set m y).map As,by rw[Aev];exact this,fun i hi=>?_⟩
 simp only[AE,chunk,Afd,←List.map_drop,←Ahd]
 rw[Acu hi];rfl
section
variable {P:Program}{pan:List PanicEntry→AL}{Qn:Env→AL}{Ls L:List Ab}{ρ:Env}{d:Ab}{s:GS}{t:Nat}{tk:Bool}
def Rt{x i}{b n c:Nat}{k}(m:Nat)(ex:ev ρ x=.slice (some ⟨b,0,none⟩) n c)(ei:ev ρ i=.int k j)(hm:j=(m:Int))(hl:m<n)
  (h:gws P pan Qn s Ls (upd ρ t (.pointer (some ⟨b,m,none⟩))) d L):gws P pan Qn (.op tk ⟨some t,none,.idx 1 x i⟩ s) Ls ρ d L:=
 Cc (o:=0) m ex ei hm hl (SAd.some n b 0) (by rw[Aee,Afd];exact h)
end
end
section
def flat:List (List Ab)→List Ab
 |[]=>[]
 |[l]=>l
 |l::m::Ls=>l++flat (m::Ls)
def TG:∀Ls:List (List Ab),flat Ls=Ls.flatten
 |[]=>rfl
 |[l]=>by simp[flat]
 |l::m::Ls=>by simp only[flat];rw[TG (m::Ls)];simp
def Vs.RD{d L L'}(Ls:List (List Ab))(is js:List Nat)(hp:(is++js).isPerm (Adg Ls.length)=true)(hL:L=flat Ls)(hL':(is.map fun i=>Ls.getD i []).flatten=L'):Vs d L d L':=by
 subst hL';rw[hL,TG];exact Vs.Abk Ls is js hp
def AB.borrow{P vs d L}{Q:Value→List Ab→Prop}(h:∀d1,Le d d1→(∀k∈L,Le k d1)→AB P f vs d1 [] (Ret fun r d' L'=>d'=d1∧Q r L')):
  AB P f vs d L (Ret fun r d' L'=>d'=d∧∃L1,L'=L1++L∧Q r L1):=by
 have h:=h (Hq (d::L)) (H3 (Acm ..)) (fun k hk=>H3 (Aco _ hk))
 refine⟨h.1,fun F W x=>?_⟩
 have hp:=x.pw
 have y:Ok (Hq (d::L)::([]++F)) W:=by
  have:=(Vs.Uw (d:=emp) (L0:=F) (L:=d::L)).2 [] W (by simpa using x.emp);simpa using this.tail
 refine(h.2 F W y).mono fun e W' ⟨d',L',a,b,c,r⟩=>?_
 cases e with
 |panicked c=>exact r.elim
 |outgrown=>exact r.elim
 |returned u=>
  obtain⟨rfl,r⟩:=r
  refine⟨d,L'++L,?_,Le.refl d,c,Z,L',Z,r⟩
  have:=(Vs.UH (d:=emp) (L0:=L'++F) hp).2 [] W' (by simpa using a.emp)
  have z:Ok ((d::L)++(L'++F)) W':=by simpa using this.tail
  refine z.perm ?_
  simp only[Adv,Ace]
  refine List.Perm.cons d ?_
  rw[←Ace,←Ace]
  exact List.Perm.append_right F Acn
section
variable {P:Program}{pan:List PanicEntry→AL}{Qn:Env→AL}{Ls L:List Ab}{ρ:Env}{d:Ab}{s:GS}{t:Nat}{tk:Bool}
def Bg{n:Nat}{b o:Nat}{l}(i:Nat)(l':List Value)(hi:L[i]?=some (bx b T l))(ex:ev ρ x=.pointer (some ⟨b,o,none⟩))(ey:ev ρ y=v)
  (hn:v.cells.size=n) (hl:o+n≤l.length) (h1:(v.cells.toList.all (·.oneCell'))=true) (hp:patch l o v.cells.toList=l') (h:gws P pan Qn s Ls ρ d (L.set i (bx b T l'))):
  gws P pan Qn (.op false ⟨none,none,.st n x y⟩ s) Ls ρ d L:=by subst hp;exact EW i hi ex ey hn hl h1 h
def IQ{args}{Q:Value→List Ab→Prop}{vs}(ea:args.map (ev ρ)=vs)(hc:∀d1,Le d d1→(∀k∈L,Le k d1)→AB P f vs d1 [] (Ret fun r d' L'=>d'=d1∧Q r L'))
  (h:∀r L',Q r L'→gws P pan Qn s Ls (upd ρ t r) d (L'++L)):gws P pan Qn (.op false ⟨some t,none,.call f args⟩ s) Ls ρ d L:=by
 refine Fb (R:=fun r d' L'=>d'=d∧∃L1,L'=L1++L∧Q r L1) L.length ea (by rw[Aec];exact AB.borrow hc) (fun r d' L' _ ⟨h1,L1,h2,h3⟩=>?_)
 subst h1;subst h2
 rw[Afb,Adm];exact h r L1 h3
def RS{k'}{a:Nat}(ex:ev ρ x=vZ a)(ey:ev ρ y=.int k' 8)(ha:a≤1000000000000)(h:gws P pan Qn s Ls (upd ρ t (vZ (a*256:Nat))) d L):
  gws P pan Qn (.op tk ⟨some t,none,.bin .shl x y⟩ s) Ls ρ d L:=by
 refine C3 ?_ h
 have h1:min (Int.toNat 8) IntKind.i64.bits=8:=by simp[IntKind.bits]
 rw[ex,ey]
 simp only[CL,h1]
 rw[if_neg (by omega),CM (by omega) (by omega)]
 congr 2
def Qq{a b:Nat}(ex:ev ρ x=vZ (a*256:Nat))(ey:ev ρ y=vZ b)(ha:a≤1000000000000)(hb:b<256)(h:gws P pan Qn s Ls (upd ρ t (vZ (a*256+b:Nat))) d L):
  gws P pan Qn (.op tk ⟨some t,none,.bin .or x y⟩ s) Ls ρ d L:=by
 refine C3 ?_ h
 have e:(BitVec.ofInt IntKind.i64.bits ((a*256:Nat):Int)|||BitVec.ofInt IntKind.i64.bits ((b:Nat):Int)).toNat=a*256+b:=by
  have h1:=Nat.shiftLeft_add_eq_or_of_lt (i:=8) hb a;rw[Nat.shiftLeft_eq] at h1;show((BitVec.ofInt 64 ((a*256:Nat):Int):BitVec 64)|||(BitVec.ofInt 64 ((b:Nat):Int):BitVec 64)).toNat=_;rw[BitVec.toNat_or,BitVec.ofInt_natCast,BitVec.ofInt_natCast,BitVec.toNat_ofNat,BitVec.toNat_ofNat];rw[Afh (by omega),Afh (by omega)];exact h1.symm
 rw[ex,ey]
 simp only[CL,e]
 rw[CM (by omega) (by omega)]
 simp
def Vm{a b:Int}(ex:ev ρ x=.int .u8 a)(ey:ev ρ y=.int .u8 b)(h1:0≤a+b)(h2:a+b≤255)
  (h:gws P pan Qn s Ls (upd ρ t (.int .u8 (a+b))) d L):gws P pan Qn (.op tk ⟨some t,none,.bin .add x y⟩ s) Ls ρ d L:=
 C3 (by
  have e:IntKind.u8.wrap (a+b)=a+b:=by simp[IntKind.wrap,IntKind.signed,IntKind.bits];omega
  rw[ex,ey];simp[CL,e]) h
end
def Jy{P}{Q:BK}{ρ d L s d1}(Ls L1:List Ab)(hv:Vs d L d1 (Ls++L1))(h:gws P Q.pan Q.n s Ls ρ d1 L1):gwp P (.reg true s) Q ρ d L:=⟨d1,Ls,L1,hv,h⟩
def An.Ex{d d' xs h}(o:An 1 RBs d v xs h)(hl:Le d d'):An 1 RBs d' v xs h:=An.mono (R:=RBs) BQ o hl
def An.JA{d d'}{xs:List Int}{h}(o:An 1 A7 d v xs h)(hl:Le d d'):An 1 A7 d' v xs h:=An.mono (R:=A7) BE o hl
end
section
section
variable {P:Program}{Q:BK}{ρ:Env}{d:Ab}{L:List Ab}
def BD(h:xwp P a {Q with n:=xwp P b Q} ρ d L):xwp P (.seq a b) Q ρ d L:=h
def x_g{c:BT}(h:gwp P c Q ρ d L):xwp P (.g c) Q ρ d L:=h
def Abf{c}(e:ev ρ c=.bool true)(h:xwp P a Q ρ d L):xwp P (.cond c a b) Q ρ d L:=⟨true,e,fun _=>h,fun q=>by cases q⟩
def Y3{c}(e:ev ρ c=.bool false)(h:xwp P b Q ρ d L):xwp P (.cond c a b) Q ρ d L:=⟨false,e,fun q=>(by cases q),fun _=>h⟩
def Gd{id:Nat}(h:xwp P a {Q with ex:=fun j=>if j=id then Q.n else Q.ex j} ρ d L):xwp P (.block id a) Q ρ d L:=h
def OR{c:DF}(l:List (Nat×Value))(e:Bk ρ l)(h:xwp P c Q (Jj ρ l) d L):xwp P c Q ρ d L:=by rwa [Iq e] at h
end
def Fq{P}:∀(c:DF) {Q Q':BK}{ρ d L},xwp P c Q ρ d L→(∀ρ d L,Q.n ρ d L→Q'.n ρ d L)→(∀i ρ d L,Q.ex i ρ d L→Q'.ex i ρ d L)→
  (∀ρ d L,Q.ret ρ d L→Q'.ret ρ d L)→Q.pan=Q'.pan→xwp P c Q' ρ d L
 |.g c,_,_,_,_,_,h,h1,h2,h3,h4=>Eo c h h1 h2 h3 h4
 |.seq a b,_,_,_,_,_,h,h1,h2,h3,h4=>Fq a h (fun _ _ _ h=>Fq b h h1 h2 h3 h4) h2 h3 h4
 |.cond c a b,_,_,_,_,_,⟨t,e,k1,k2⟩,h1,h2,h3,h4=>⟨t,e,fun q=>Fq a (k1 q) h1 h2 h3 h4,fun q=>Fq b (k2 q) h1 h2 h3 h4⟩
 |.block id a,Q,Q',_,_,_,h,h1,h2,h3,h4=>by
  refine Fq a (Q:={Q with ex:=fun j=>if j=id then Q.n else Q.ex j}) (Q':={Q' with ex:=fun j=>if j=id then Q'.n else Q'.ex j}) h h1 (fun i ρ d L hq=>?_) h3 h4;simp only at hq⊢;split at hq
  ·rename_i e;rw[if_pos e];exact h1 _ _ _ hq
  ·rename_i e;rw[if_neg e];exact h2 _ _ _ _ hq
 |.loop a,Q,Q',_,_,_,⟨I,⟨m,hI⟩,round⟩,h1,h2,h3,h4=>
  ⟨I,⟨m,hI⟩,fun m ρ d L hi=>Fq a (Q:={Q with n:=_}) (Q':={Q' with n:=_}) (round m ρ d L hi) (fun _ _ _ h=>h) h2 h3 h4⟩
 |.yl pre dst f args post,Q,Q',_,_,_,h,h1,_,_,h4=>by
  simp only[xwp] at h⊢;rw[←h4];refine CW (fun ρ d L hm=>?_) pre h;obtain⟨l,A,B,R,e1,e2,hy,hR⟩:=hm;exact⟨l,A,B,R,e1,e2,hy,fun v d2 L2 hl hr=>by rw[←h4];exact CW h1 post (hR v d2 L2 hl hr)⟩
 |.snd pre dst ch x post,Q,Q',_,_,_,h,h1,_,_,h4=>by
  simp only[xwp] at h⊢;rw[←h4];refine CW (fun ρ d L hm=>?_) pre h;obtain⟨i,c,cap,buf,s,r,tm,e1,e2,e3,hR⟩:=hm;exact⟨i,c,cap,buf,s,r,tm,e1,e2,e3,by rw[←h4];exact CW h1 post hR⟩
 |.sel pre dst ch z post,Q,Q',_,_,_,h,h1,_,_,h4=>by
  simp only[xwp] at h⊢;rw[←h4];refine CW (fun ρ d L hm=>?_) pre h;obtain⟨i,c,cap,buf,s,r,tm,e1,e2,k1,k2⟩:=hm;exact⟨i,c,cap,buf,s,r,tm,e1,e2,fun v rest e=>by rw[←h4];exact CW h1 post (k1 v rest e),fun e=>by rw[←h4];exact CW h1 post (k2 e)⟩
 |.rf f ps as bd,_,_,_,_,_,⟨g,first,cap,e1,hit⟩,h1,h2,h3,h4=>by
  refine⟨g,first,cap,e1,fun l rc k1 k2 k3=>?_⟩
  obtain⟨R,hc,hR⟩:=hit l rc k1 k2 k3;refine⟨R,hc,fun e d' L' hl hr=>?_⟩
  obtain⟨v,rc',L'',q1,q2,q3,q4⟩:=hR e d' L' hl hr;refine⟨v,rc',L'',q1,q2,q3,?_⟩
  cases hp:rc'.pending with
  |none=>rw[hp] at q4;exact h1 _ _ _ q4
  |some j=>
   rw[hp] at q4
   cases j with
   |exit id=>exact h2 _ _ _ _ q4
   |ret=>exact h3 _ _ _ q4
   |_=>exact q4
def Qx{P}{c:DF}{Q:BK}{N N':Env→AL}(hn:∀ρ d L,N ρ d L→N' ρ d L){ρ d L}(h:xwp P c {Q with n:=N} ρ d L):xwp P c {Q with n:=N'} ρ d L:=
 Fq c h hn (fun _ _ _ _ h=>h) (fun _ _ _ h=>h) Z
section
variable {P:Program}{Q:BK}{ρ:Env}{d:Ab}{L:List Ab}
def Abt(M:Env→AL)(h1:xwp P a {Q with n:=M} ρ d L)(h2:∀ρ d L,M ρ d L→xwp P b Q ρ d L):xwp P (.seq a b) Q ρ d L:=
 BD (Qx h2 h1)
def Ow{α}(slots:α→List (Nat×Value))(inv:α→Ab→List Ab→Prop)(meas:α→Nat)(x0:α)(h0:Bk ρ (slots x0))(i0:inv x0 d L)
  (round:∀x ρ d L,inv x d L→xwp P a {Q with n:=fun ρ d L=>∃x',meas x'<meas x∧Bk ρ (slots x')∧inv x' d L} (Jj ρ (slots x)) d L):xwp P (.loop a) Q ρ d L:=by
 refine⟨fun m ρ d L=>∃x,meas x=m∧Bk ρ (slots x)∧inv x d L,⟨meas x0,x0,Z,h0,i0⟩,?_⟩
 rintro m ρ d L ⟨x,rfl,h1,h2⟩
 exact OR _ h1 (Qx (fun ρ' d' L' ⟨x',k1,k2,k3⟩=>⟨meas x',k1,x',Z,k2,k3⟩) (round x ρ d L h2))
def X9{f args}(h:gws P Q.pan (Qd P Q dst f args post) pre [] ρ d L):xwp P (.yl pre dst f args post) Q ρ d L:=h
def AbM(h:gws P Q.pan (NG P Q dst ch x post) pre [] ρ d L):xwp P (.snd pre dst ch x post) Q ρ d L:=h
def AbE{z}(h:gws P Q.pan (K2 P Q dst ch z post) pre [] ρ d L):xwp P (.sel pre dst ch z post) Q ρ d L:=h
def OS{f args}{l:Nat}{vs}(A B:List Ab){R}(ef:ev ρ f=.func (.yield l) #[] #[])(hL:L=A++B)(ea:args.map (ev ρ)=vs)(hy:IM P l vs d A R)
  (k:∀v d2 L2,Le d d2→R v d2 L2→gws P Q.pan Q.n post [] (put ρ dst v) d2 (L2++B)):Qd P Q dst f args post ρ d L:=
 ⟨l,A,B,R,ef,hL,ea▸hy,k⟩
def AaE(i:Nat){c:Nat}{buf}{s r:Nat}(ec:ev ρ ch=.chan (some c))(hi:L[i]?=some (sg c (.chan cap buf.toArray false s r tm)))(hroom:buf.length<cap)(ex:ev ρ x=v)
  (k:gws P Q.pan Q.n post [] (put ρ dst undef) d (L.set i (sg c (.chan cap (buf++[v]).toArray false (s+1) r tm)))):NG P Q dst ch x post ρ d L:=
 ⟨i,c,cap,buf,s,r,tm,ec,hi,hroom,ex▸k⟩
def V9{z}(i:Nat){c:Nat}{buf}{s r:Nat}(ec:ev ρ ch=.chan (some c))(hi:L[i]?=some (sg c (.chan cap (v::buf).toArray false s r tm)))
  (k:gws P Q.pan Q.n post [] (put ρ dst (.tuple #[vZ 0,.bool true,v])) d (L.set i (sg c (.chan cap buf.toArray false s (r+1) tm)))):K2 P Q dst ch z post ρ d L:=
 ⟨i,c,cap,v::buf,s,r,tm,ec,hi,fun v' rest e=>by cases e;exact k,fun e=>by cases e⟩
def Vr{z}(i:Nat){c:Nat}{s r:Nat}(ec:ev ρ ch=.chan (some c))(hi:L[i]?=some (sg c (.chan cap #[] false s r tm)))
  (k:gws P Q.pan Q.n post [] (put ρ dst (.tuple #[vZ (-1),.bool false,z])) d L):K2 P Q dst ch z post ρ d L:=
 ⟨i,c,cap,[],s,r,tm,ec,hi,(fun v' rest e=>by cases e),fun _=>k⟩
end
end
section
section
variable {P:Program}{pan:List PanicEntry→AL}{Qn:Env→AL}{Ls L:List Ab}{ρ:Env}{d:Ab}{s:GS}{t:Nat}{tk:Bool}
def X4(a:Int):IntKind.u64.wrap a=a % 18446744073709551616:=by simp[IntKind.wrap,IntKind.signed,IntKind.bits]
def Aa3{j}{a:Int}(ex:ev ρ x=.int j a)(h:gws P pan Qn s Ls (upd ρ t (.int .u64 (a % 18446744073709551616))) d L):gws P pan Qn (.op tk ⟨some t,none,.cvi .u64 x⟩ s) Ls ρ d L:=
 U0 ex (by rw[X4];exact h)
def Db{z x0 v0}(e0:ev ρ x0=v0)(c0:v0.cells= #[v0])(h:∀b T,gws P pan Qn s Ls (upd ρ t (.slice (some ⟨b,0,none⟩) 1 1)) d (bx b T [v0]::L)):
  gws P pan Qn (.op false ⟨some t,none,.bsl 1 1 [z] [(0,x0)]⟩ s) Ls ρ d L:=by
 refine De (by omega) ?_ h
 simp[Instr.fill,Bm,Adg,List.range.loop,e0,c0]
def AaM{a b:Int}(ex:ev ρ x=vZ a)(ey:ev ρ y=vZ b)(h1: -9223372036854775808≤a)(h2:a≤9223372036854775807)(h3:2≤b)(h:gws P pan Qn s Ls (upd ρ t (vZ (a.tdiv b))) d L):
  gws P pan Qn (.op tk ⟨some t,none,.bin .quo x y⟩ s) Ls ρ d L:=by
 refine C3 ?_ h
 have h4:¬b=0:=by omega
 have h5:(a.tdiv b).natAbs≤a.natAbs:=by rw[Int.natAbs_tdiv];exact Nat.div_le_self _ _
 have h6:a= -9223372036854775808→(a.tdiv b).natAbs≤9223372036854775807:=by
  intro e;rw[Int.natAbs_tdiv,e];have:2≤b.natAbs:=by omega
  have e2:(-9223372036854775808:Int).natAbs=9223372036854775808:=by decide
  rw[e2];have:=Nat.div_le_div_left (a:=9223372036854775808) this (by omega);exact Nat.le_trans this (by decide)
 rw[ex,ey];simp[CL,h4];exact CM (by omega) (by omega)
def Oe{i}{len sz b o:Nat}{k}(m:Nat)(ex:ev ρ x=.pointer (some ⟨b,o,none⟩))(ei:ev ρ i=.int k j)(hm:j=(m:Int))(hl:m<len)(h:gws P pan Qn s Ls (upd ρ t (.pointer (some ⟨b,o+m*sz,none⟩))) d L):
  gws P pan Qn (.op tk ⟨some t,none,.idxa len sz x i⟩ s) Ls ρ d L:=by
 subst hm
 exact w_q Z ⟨b,o,k,m,ex,ei,by omega,by omega,Z⟩ h
end
def AB.forget{P args d L}{Q:Value→List Ab→Prop}(h:AB P f args d L (Ret fun r _ L'=>Q r L')):AB P f args d L (Ret fun r d' L'=>d'=d∧Q r L'):=
 ⟨h.1,fun F W x=>(h.2 F W x).mono fun e W' ⟨d',L',a,b,c,r⟩=>⟨d,L',a.le b,Le.refl d,c,by
  cases e with
  |returned v=>exact⟨Z,r⟩
  |panicked c=>exact r.elim
  |outgrown=>exact r.elim⟩⟩
def Cy.of{P args d}(h:AB P f args d [] (Ret fun r _ L'=>r=v∧L'=[])):Cy P f args d v:=
 (AB.forget (Q:=fun r L'=>r=v∧L'=[]) h).mono fun e d' L' _ r=>by
  cases e with
  |returned v=>exact⟨r.2.1,r.1,r.2.2⟩
  |panicked c=>exact r.elim
  |outgrown=>exact r.elim
section
variable {ρ:Env}{d:Ab}{L:List Ab}{t u:Nat}
end
end
section
section
variable {P:Program}{pan:List PanicEntry→AL}{Qn:Env→AL}{Ls L:List Ab}{ρ:Env}{d:Ab}{s:GS}{t:Nat}{tk:Bool}
end
end
section
section
variable {P:Program}{pan:List PanicEntry→AL}{Qn:Env→AL}{Ls L:List Ab}{ρ:Env}{d:Ab}{s:GS}{t:Nat}{tk:Bool}
end
end
end Go.Gk
end
section
namespace Go.Gk
open Go
section
variable {P:Program}{pan:List PanicEntry→AL}{Qn:Env→AL}{Ls L:List Ab}{ρ:Env}{d:Ab}{s:GS}
def OJ{α:Type}{sz by_ t:Nat}{R:Ab→List Value→α→Prop}{z:List Value}{x y:Operand}{v w:Value}{xs ys:List α}{h:Ab}(hR:Gs R)(ex:ev ρ x=v)(ho:An sz R d v xs h)
  (ey:ev ρ y=w) (hs:Src sz R d (Ls++(h::L)++(h::L)) w ys) (hsz:0<sz) (hm:xs.length+ys.length≤140737488355328) (hb:(xs.length+ys.length)*by_≤140737488355328)
  (k:∀a c d',Le d d'→RSl sz R d' (.slice a (xs++ys).length c) (xs++ys)→gws P pan Qn s Ls (upd ρ t (.slice a (xs++ys).length c)) d' L):gws P pan Qn (.op false ⟨some t,none,.app sz by_ z x y⟩ s) Ls ρ d (h::L):=by
 obtain⟨cs,h1,h2⟩:=ho
 obtain⟨news,k1,k2,k3⟩:=hs
 have hl:=h1.1
 refine NS 0 ex Z h1 ey k1 k2 hsz hm hb (fun v' h' o=>⟨join d h',L,Vs.freeze,?_⟩)
 have hg:An sz R d v' (xs++ys) h':=by
  refine⟨cs++news,by rw[Aci];exact o,fun j hj=>?_⟩
  by_cases e:j<xs.length
  ·rw[ER hl e,Afx e];exact h2 j e
  ·rw[Er hl (by omega),Afs (by omega)];exact k3 _ (by simp at hj;omega)
 have hr:=hg.rsl hR hsz (Le.Au d h') (Le.AZ d h')
 obtain⟨a,c,rfl⟩:=hr.val
 exact k a c _ (Le.Au d h') hr
end
end Go.Gk
namespace Go.Gk
open Go
section
variable {P:Program}{pan:List PanicEntry→AL}{Qn:Env→AL}{Ls L:List Ab}{ρ:Env}{d:Ab}{s:GS}{t:Nat}{tk:Bool}
def AaJ{x y}{a b:Int}(ex:ev ρ x=vZ a)(ey:ev ρ y=vZ b)(h:∀u,(-9223372036854775808≤a+b→a+b≤9223372036854775807→u=a+b)→gws P pan Qn s Ls (upd ρ t (vZ u)) d L):
  gws P pan Qn (.op tk ⟨some t,none,.bin .add x y⟩ s) Ls ρ d L:=
 C3 (by rw[ex,ey];simp[CL]) (h (IntKind.i64.wrap (a+b)) (fun h1 h2=>CM h1 h2))
end
end Go.Gk
namespace Go.Gk
open Go
def D3{l vs}{o k:Nat}(h:o+vs.length≤l.length):(patch l o vs)[k]?=if o≤k∧k<o+vs.length then vs[k - o]? else l[k]?:=by
 unfold patch;have hl:(l.take o).length=o:=by rw[Acs];omega
 by_cases h1:k<o
 ·rw[if_neg (by omega),Ace,Aex (by omega),Adt h1]
 by_cases h2:k<o+vs.length
 ·rw[if_pos ⟨by omega,h2⟩,Aex (by rw[Aci];omega),Aeo (by omega),hl]
 ·rw[if_neg (by omega),Aeo (by rw[Aci];omega),Afw,Aci,hl];congr 1;omega
def Ey{l vs}{o:Nat}(h:o+vs.length≤l.length):(patch l o vs).length=l.length:=by
 unfold patch;simp only[Aci,Acs,Ads];omega
def U4{l vs}{o n:Nat}(h:o+vs.length≤n)(hn:n≤l.length):(patch l o vs).take n=patch (l.take n) o vs:=by
 refine Age fun k=>?_;have hl:(l.take n).length=n:=by rw[Acs];omega
 rw[D3 (by omega)];by_cases hk:k<n
 ·rw[Adt hk,Adt hk,D3 (by omega)]
 ·rw[if_neg (by omega),Adx (by rw[Acs];omega),Adx (by omega)]
def Iw{cs}{i sz k:Nat}:(chunk cs i sz)[k]?=if k<sz then cs[i*sz+k]? else none:=by
 unfold chunk;by_cases h:k<sz
 ·rw[Adt h,Afw,if_pos h]
 ·rw[if_neg h,Adx (by rw[Acs];omega)]
def SJ{cs vs}{i m sz n:Nat}(hl:cs.length=n*sz)(hv:vs.length=sz)(hm:m<n):chunk (patch cs (m*sz) vs) i sz=if i=m then vs else chunk cs i sz:=by
 have h1:m*sz+sz≤n*sz:=by have:=Adp sz (show m+1≤n from hm);rwa [Aeg,Agl] at this
 refine Age fun k=>?_;rw[Iw];by_cases e:i=m
 ·subst e;rw[if_pos Z];by_cases hk:k<sz
  ·rw[if_pos hk,D3 (by omega),if_pos (by omega)];congr 1;omega
  ·rw[if_neg hk,Adx (by omega)]
 ·rw[if_neg e,Iw];by_cases hk:k<sz
  ·rw[if_pos hk,if_pos hk,D3 (by omega),if_neg];rintro⟨a,b⟩;rcases Nat.lt_or_gt_of_ne e with q|q
   ·have:=Adp sz (show i+1≤m from q);rw[Aeg,Agl] at this;omega
   ·have:=Adp sz (show m+1≤i from q);rw[Aeg,Agl] at this;omega
  ·rw[if_neg hk,if_neg hk]
def An.Abw{α}{sz:Nat}{R d v}{xs:List α}{h}(_:0<sz)(o:An sz R d v xs h){m:Nat}(hm:m<xs.length):
  ∃b T l c,v=.slice (some ⟨b,0,none⟩) xs.length c∧h=bx b T l∧m*sz+sz≤l.length∧∀cs' x,cs'.length=sz→R d cs' x→An sz R d v (xs.set m x) (bx b T (patch l (m*sz) cs')):=by
 obtain⟨cs,⟨h1,h2,⟨rfl,h0,rfl⟩|⟨b,T,l,c,rfl,rfl,h3,h4,h5,h6⟩⟩,hr⟩:=o
 ·omega
 ·have hmz:m*sz+sz≤xs.length*sz:=by have:=Adp sz (show m+1≤xs.length from hm);rwa [Aeg,Agl] at this
  have hcz:xs.length*sz≤c*sz:=Adp sz h3
  refine⟨b,T,l,c,Z,Z,by omega,fun cs' x hl hx=>⟨patch cs (m*sz) cs',?_,fun i hi=>?_⟩⟩
  ·have hp:(patch cs (m*sz) cs').length=cs.length:=Ey (by omega)
   refine⟨by rw[hp,Aev,h1],by rw[Aev];exact h2,.inr ⟨b,T,_,c,by rw[Aev],Z,by rw[Aev];exact h3,h4,by rw[Ey (by omega)];exact h5,?_⟩⟩
   rw[hp,U4 (by omega) (by omega),h6]
  ·rw[SJ h1 hl hm]
   rw[Aev] at hi
   by_cases e:i=m
   ·subst e
    rw[if_pos Z,List.getElem_set_self];exact hx
   ·rw[if_neg e,List.getElem_set_ne (fun q=>e q.symm)];exact hr i hi
end Go.Gk
end
section
namespace Go.Gk
open Go
section
section
variable {P:Program}{pan:List PanicEntry→AL}{Qn:Env→AL}{Ls L:List Ab}{ρ:Env}{d:Ab}{s:GS}{t:Nat}{tk:Bool}
def Abe{Q:BK}{c:BT}(M:Env→AL)(h:gwp P c {Q with n:=M} ρ d L)(k:∀ρ d L,M ρ d L→Q.n ρ d L):gwp P c Q ρ d L:=
 Eo c h k (fun _ _ _ _ h=>h) (fun _ _ _ h=>h) Z
end
end
section
section
variable {P:Program}{pan:List PanicEntry→AL}{Qn:Env→AL}{Ls L:List Ab}{ρ:Env}{d:Ab}{s:GS}{t:Nat}{tk:Bool}
end
end
section
section
variable {κ ν:Type}(kE:κ→Value) (vE:ν→Value)
def Eb(ms:List (κ×ν×Nat)):List MapEntry:=ms.map fun p=>⟨kE p.1,vE p.2.1,p.2.2⟩
def mp(b:Nat)(ms:List (κ×ν×Nat))(c:Nat):Ab:=sg b (.map (Eb kE vE ms).toArray c)
end
section
variable {κ ν:Type} [DecidableEq κ]
def mIx(k:κ):List (κ×ν×Nat)→Nat→Option (Nat×ν)
 |[],_=>none
 |p::ms,i=>if k=p.1 then some (i,p.2.1) else mIx k ms (i+1)
def CV(k:κ):List (κ×ν×Nat)→Option ν
 |[]=>none
 |p::ms=>if k=p.1 then some p.2.1 else CV k ms
def FL(k:κ)(v:ν)(c:Nat):List (κ×ν×Nat)→List (κ×ν×Nat)
 |[]=>[(k,v,c)]
 |p::ms=>if k=p.1 then(p.1,v,p.2.2)::ms else p::FL k v c ms
def OK(k:κ)(c:Nat)(ms:List (κ×ν×Nat)):Nat:=if (CV k ms).isSome then c else c+1
def IB(k:κ):List (κ×ν×Nat)→List (κ×ν×Nat)
 |[]=>[]
 |p::ms=>if k=p.1 then ms else p::IB k ms
def No(kd:Nat)(kE:κ→Value):Prop:=∀a b,eq1 kd (kE a) (kE b)=some (decide (a=b))
def Gz{kd:Nat}{kE:κ→Value}{vE:ν→Value}(hk:No kd kE)(k:κ):∀(ms:List (κ×ν×Nat)) (i:Nat),Bj kd (kE k) (Eb kE vE ms) i=some ((mIx k ms i).map fun p=>(p.1,vE p.2))
 |[],i=>rfl
 |p::ms,i=>by
  have ih:=Gz (vE:=vE) hk k ms (i+1);have e:eq1 kd (kE k) (kE p.1)=some (decide (k=p.1)):=hk k p.1;show Bj kd (kE k) (⟨kE p.1,vE p.2.1,p.2.2⟩::Eb kE vE ms) i=_;rw[Bj,mIx];simp only[e];by_cases h:k=p.1
  ·simp only[h,decide_true,if_true];rfl
  ·simp only[h,decide_false,if_false];exact ih
def Lj(k:κ):∀(ms:List (κ×ν×Nat)) (i:Nat),(mIx k ms i).map (·.2)=CV k ms
 |[],_=>rfl
 |p::ms,i=>by
  rw[mIx,CV];by_cases h:k=p.1
  ·simp[h]
  ·rw[if_neg h,if_neg h];exact Lj k ms (i+1)
def XW{kE:κ→Value}{vE:ν→Value}(k:κ)(v:ν)(c:Nat)(ms:List (κ×ν×Nat)):
  upO (Eb kE vE ms) c (kE k) (vE v) ((mIx k ms 0).map fun p=>(p.1,vE p.2))=.map (Eb kE vE (FL k v c ms)).toArray (OK k c ms):=by
 have key:∀(ms:List (κ×ν×Nat)) (i:Nat),(∀j u,mIx k ms i=some (j,u)→i≤j∧(Eb kE vE ms).modify (j - i) (fun e:MapEntry=>{e with val:=vE v})=Eb kE vE (FL k v c ms))∧
   (mIx k ms i=none→Eb kE vE ms++[(⟨kE k,vE v,c⟩:MapEntry)]=Eb kE vE (FL k v c ms)):=by
  intro ms
  induction ms with
  |nil=>intro i;exact⟨fun j u h=>(by cases h),fun _=>Z⟩
  |cons p ms ih=>
   intro i
   rw[mIx,FL]
   by_cases h:k=p.1
   ·rw[if_pos h,if_pos h]
    refine⟨fun j u e=>?_,fun e=>by cases e⟩
    cases e
    refine⟨Acj _,?_⟩
    rw[Ahb];simp[Eb]
   ·rw[if_neg h,if_neg h]
    obtain⟨h1,h2⟩:=ih (i+1)
    refine⟨fun j u e=>?_,fun e=>?_⟩
    ·obtain⟨h3,h4⟩:=h1 j u e
     refine⟨by omega,?_⟩
     rw[show j - i=(j - (i+1))+1 by omega]
     simp only[Eb,Aet,List.modify_succ_cons] at h4⊢
     rw[h4]
    ·have:=h2 e
     simp only[Eb,Aet,Adv] at this⊢
     rw[this]
 have hg:=Lj k ms 0
 cases hq:mIx k ms 0 with
 |none=>
  rw[hq] at hg
  simp only[Option.map_none,upO,OK,←hg,Option.isSome_none,Ack,if_false]
  rw[(key ms 0).2 hq]
 |some p=>
  obtain⟨j,u⟩:=p
  rw[hq] at hg
  simp only[Aff,upO,OK,←hg,Option.isSome_some,if_true]
  have:=((key ms 0).1 j u hq).2
  rw[Nat.sub_zero] at this
  rw[this]
def Vj{kE:κ→Value}{vE:ν→Value}(k:κ)(c:Nat)(ms:List (κ×ν×Nat)):
  KQ (Eb kE vE ms) c ((mIx k ms 0).map fun p=>(p.1,vE p.2))=.map (Eb kE vE (IB k ms)).toArray c:=by
 have key:∀(ms:List (κ×ν×Nat)) (i:Nat),(∀j u,mIx k ms i=some (j,u)→i≤j∧(Eb kE vE ms).eraseIdx (j - i)=Eb kE vE (IB k ms))∧(mIx k ms i=none→IB k ms=ms):=by
  intro ms;induction ms with
  |nil=>intro i;exact⟨fun j u h=>(by cases h),fun _=>Z⟩
  |cons p ms ih=>
   intro i
   rw[mIx,IB]
   by_cases h:k=p.1
   ·rw[if_pos h,if_pos h]
    refine⟨fun j u e=>?_,fun e=>by cases e⟩
    cases e
    refine⟨Acj _,?_⟩
    rw[Ahb];simp[Eb]
   ·rw[if_neg h,if_neg h]
    obtain⟨h1,h2⟩:=ih (i+1)
    refine⟨fun j u e=>?_,fun e=>by rw[h2 e]⟩
    obtain⟨h3,h4⟩:=h1 j u e
    refine⟨by omega,?_⟩
    rw[show j - i=(j - (i+1))+1 by omega]
    simp only[Eb,Aet,List.eraseIdx_cons_succ] at h4⊢
    rw[h4]
 cases hq:mIx k ms 0 with
 |none=>simp only[Option.map_none,KQ];rw[(key ms 0).2 hq]
 |some p=>
  obtain⟨j,u⟩:=p
  have:=((key ms 0).1 j u hq).2
  rw[Nat.sub_zero] at this
  simp only[Aff,KQ,this]
def Aao:No 0 (fun i:Int=>Value.int .i64 i):=fun a b=>by
 show some (a==b)=_;by_cases e:a=b<;>simp[e]
end
section
variable {κ ν:Type}{kE:κ→Value}{vE:ν→Value}
variable {P:Program}{pan:List PanicEntry→AL}{Qn:Env→AL}{Ls L:List Ab}{ρ:Env}{d:Ab}{s:GS}{t:Nat}
def YJ(kE:κ→Value)(vE:ν→Value)(h:∀b,gws P pan Qn s Ls (upd ρ t (.map (some b))) d (mp kE vE b [] 0::L)):gws P pan Qn (.op false ⟨some t,none,.mop .mk⟩ s) Ls ρ d L:=
 ⟨d,L,Vs.refl d L,fun b=>⟨_,_,Vs.refl _ _,h b⟩⟩
def Qs [DecidableEq κ] {kd:Nat}{x y z}{b c:Nat}{ms:List (κ×ν×Nat)}{k:κ}{v:ν}(hk:No kd kE) (i:Nat) (hi:L[i]?=some (mp kE vE b ms c)) (ex:ev ρ x=.map (some b)) (ey:ev ρ y=kE k) (ez:ev ρ z=vE v)
  (h:gws P pan Qn s Ls ρ d (L.set i (mp kE vE b (FL k v c ms) (OK k c ms)))):gws P pan Qn (.op false ⟨none,none,.mop (.up kd x y z)⟩ s) Ls ρ d L:=
 ⟨d,L,Vs.refl d L,i,b,Eb kE vE ms,c,_,hi,ex,by rw[ey];exact Gz hk k ms 0,_,_,Vs.refl _ _,by rw[ey,ez,XW];exact h⟩
def Abd [DecidableEq κ] {kd:Nat}{x y}{b c:Nat}{ms:List (κ×ν×Nat)}{k:κ}{t:Option Nat}(hk:No kd kE) (i:Nat) (hi:L[i]?=some (mp kE vE b ms c)) (ex:ev ρ x=.map (some b)) (ey:ev ρ y=kE k)
  (h:gws P pan Qn s Ls (put ρ t (.tuple #[])) d (L.set i (mp kE vE b (IB k ms) c))):gws P pan Qn (.op false ⟨t,none,.mop (.del kd x y)⟩ s) Ls ρ d L:=
 ⟨d,L,Vs.refl d L,i,b,Eb kE vE ms,c,_,hi,ex,by rw[ey];exact Gz hk k ms 0,_,_,Vs.refl _ _,by rw[Vj];exact h⟩
def QY{b c i:Nat}{ms:List (κ×ν×Nat)}(hi:(Ls++L)[i]?=some (mp kE vE b ms c)):Hu d ((Ls++L)++L) (.map (some b)) (Eb kE vE ms):=
 .inr ⟨b,c,Z,_,.inr (List.mem_append_left _ (List.mem_of_getElem? hi)),B2 _ _⟩
def Qi [DecidableEq κ] {kd:Nat}{z x y}{b c:Nat}{ms:List (κ×ν×Nat)}{k:κ}{v:ν}(hk:No kd kE) (i:Nat) (hi:(Ls++L)[i]?=some (mp kE vE b ms c)) (ex:ev ρ x=.map (some b)) (ey:ev ρ y=kE k) (hg:CV k ms=some v)
  (h:gws P pan Qn s Ls (upd ρ t (vE v)) d L):gws P pan Qn (.op false ⟨some t,none,.mop (.lk kd z false x y)⟩ s) Ls ρ d L:=by
 refine⟨d,L,Vs.refl d L,Eb kE vE ms,_,by rw[ex];exact QY hi,by rw[ey];exact Gz hk k ms 0,_,_,Vs.refl _ _,?_⟩
 have:=Lj k ms 0
 rw[hg] at this
 cases hq:mIx k ms 0 with
 |none=>rw[hq] at this;cases this
 |some p=>rw[hq] at this;simp at this;subst this;exact h
def Aat [DecidableEq κ] {kd:Nat}{z x y}{b c:Nat}{ms:List (κ×ν×Nat)}{k:κ}(hk:No kd kE) (i:Nat) (hi:(Ls++L)[i]?=some (mp kE vE b ms c)) (ex:ev ρ x=.map (some b)) (ey:ev ρ y=kE k) (hg:CV k ms=none)
  (h:gws P pan Qn s Ls (upd ρ t z) d L):gws P pan Qn (.op false ⟨some t,none,.mop (.lk kd z false x y)⟩ s) Ls ρ d L:=by
 refine⟨d,L,Vs.refl d L,Eb kE vE ms,_,by rw[ex];exact QY hi,by rw[ey];exact Gz hk k ms 0,_,_,Vs.refl _ _,?_⟩
 have:=Lj k ms 0
 rw[hg] at this
 cases hq:mIx k ms 0 with
 |none=>exact h
 |some p=>rw[hq] at this;cases this
end
end
end Go.Gk
end
section
namespace Go.Gk
open Go
def DS:List Value:=Acq 256 (.int .u8 0)
def EA:DS.length=256:=Adn
def WX{l cs}(h:l.length=cs.length):patch l 0 cs=cs:=by simp[patch,h]
section
variable {P:Program}{pan:List PanicEntry→AL}{Qn:Env→AL}{Ls L:List Ab}{ρ:Env}{d:Ab}{s:GS}{t:Nat}{tk:Bool}
def Da{l}(h:∀b T,gws P pan Qn s Ls (upd ρ t (pZ b)) d (bx b T l::L)):
  gws P pan Qn (.op false ⟨some t,none,.alo (.agg l.toArray)⟩ s) Ls ρ d L:=Dj h
def DQ{n:Nat}{x y}{b:Nat}{T l cs}(i:Nat)(hi:L[i]?=some (bx b T l))(ex:ev ρ x=pZ b)(ey:ev ρ y=.agg cs.toArray)(hn:cs.length=n)(hl:l.length=n)(h1:(cs.all (·.oneCell'))=true)
  (h:gws P pan Qn s Ls ρ d (L.set i (bx b T cs))):gws P pan Qn (.op false ⟨none,none,.st n x y⟩ s) Ls ρ d L:=
 EW (v:=.agg cs.toArray) i hi ex ey (by simpa [Value.cells] using hn) (by omega) (by simpa [Value.cells] using h1) (by
  have:patch l 0 (Value.agg cs.toArray).cells.toList=cs:=by simp only[Value.cells];exact WX (by omega)
  rw[this];exact h)
def Et{n:Nat}{x y}{b o:Nat}{T l cs}(i:Nat)(hi:L[i]?=some (bx b T l))(ex:ev ρ x=.pointer (some ⟨b,o,none⟩))(ey:ev ρ y=.agg cs.toArray)(hn:cs.length=n)(hl:o+n≤l.length)(h1:(cs.all (·.oneCell'))=true)
  (h:gws P pan Qn s Ls ρ d (L.set i (bx b T (patch l o cs)))):gws P pan Qn (.op false ⟨none,none,.st n x y⟩ s) Ls ρ d L:=
 EW (v:=.agg cs.toArray) i hi ex ey (by simpa [Value.cells] using hn) hl (by simpa [Value.cells] using h1) h
def NL{x}{n b o:Nat}{T l}(cs:List Value)(i:Nat)(e:ev ρ x=.pointer (some ⟨b,o,none⟩))(hi:(lk tk Ls L)[i]?=some (bx b T l))(hn:cs.length=n)(hc:∀j u,cs[j]?=some u→l[o+j]?=some u)
  (h:gws P pan Qn s Ls (upd ρ t (.agg cs.toArray)) d L):gws P pan Qn (.op tk ⟨some t,none,.ld (some n) x⟩ s) Ls ρ d L:=
 w_q Z ⟨b,o,cs,e,hn,fun j u hu=>Aq i hi (hc j u hu),Z⟩ h
def CK{x i}{sz b n c:Nat}{k}{j:Int}(m:Nat)(ex:ev ρ x=.slice (some ⟨b,0,none⟩) n c)(ei:ev ρ i=.int k j)(hm:j=(m:Int))(hl:m<n)
  (h:gws P pan Qn s Ls (upd ρ t (.pointer (some ⟨b,m*sz,none⟩))) d L):gws P pan Qn (.op tk ⟨some t,none,.idx sz x i⟩ s) Ls ρ d L:=
 Cc (o:=0) m ex ei hm hl (SAd.some n b 0) (by rw[Aee];exact h)
end
def An.at{α}{sz:Nat}{R d v}{xs:List α}{h}(hsz:0<sz)(o:An sz R d v xs h){m:Nat}(hm:m<xs.length):
  ∃b T l c cs,v=.slice (some ⟨b,0,none⟩) xs.length c∧h=bx b T l∧cs.length=sz∧(∀j u,cs[j]?=some u→l[m*sz+j]?=some u)∧m*sz+sz≤l.length∧R d cs xs[m]∧
   ∀cs' x,cs'.length=sz→R d cs' x→An sz R d v (xs.set m x) (bx b T (patch l (m*sz) cs')):=by
 obtain⟨b,T,l,c,e1,e2,e3,e4⟩:=o.Abw hsz hm
 obtain⟨cs,⟨h1,h2,⟨q1,h0,q2⟩|⟨b',T',l',c',q1,q2,h3,h4,h5,h6⟩⟩,hr⟩:=o
 ·omega
 ·have hmz:m*sz+sz≤xs.length*sz:=by have:=Adp sz (show m+1≤xs.length from hm);rwa [Aeg,Agl] at this
  have hbl:l'.toArray=l.toArray∧b'=b:=by
   rw[e2] at q2;have:=(congrFun (congrFun q2 b) (.cells l.toArray T (0,0))).mp (B2 _ _);obtain⟨z1,z2⟩:=GV this;injection z2 with z3
   exact⟨z3.symm,z1.symm⟩
  have hl':l'=l:=by simpa using hbl.1
  subst hl'
  refine⟨b,T,l',c,chunk cs m sz,e1,e2,?_,fun j u hu=>?_,e3,hr m hm,e4⟩
  ·exact Ie h1 hm
  ·rw[Iw] at hu
   split at hu
   ·rename_i hj
    rw[←h6,List.getElem?_take] at hu
    split at hu
    ·exact hu
    ·cases hu
   ·cases hu
def An.zero{α:Type}{sz:Nat}{R:Ab→List Value→α→Prop}{d:Ab}{b n:Nat}{T:TypeId}{z:List Value}{x:α}(hz:z.length=sz)(_:0<sz)(hx:R d z x)(hn:n≤140737488355328):
  An sz R d (.slice (some ⟨b,0,none⟩) n n) (Acq n x) (bx b T (Bm z (n*sz))):=by
 refine An.lit (by simp) (by simp[Bm]) (by simpa using hn) (fun i hi=>?_)
 have hin:i<n:=by simpa using hi
 have:chunk (Bm z (n*sz)) i sz=z:=by
  refine Age fun k=>?_;rw[Iw];by_cases hk:k<sz
  ·have h1:(i+1)*sz≤n*sz:=Adp sz hin;rw[Aeg,Agl] at h1;rw[if_pos hk,Bm,Afc,List.getElem?_range (by omega),Aff,hz,show i*sz+k=k+sz*i by rw[Nat.mul_comm];omega,Nat.add_mul_mod_self_left,Afh hk];rw[Acg,Acf (by omega)];simp
  ·rw[if_neg hk,Adx (by omega)]
 rw[this]
 simpa using hx
def Hr{l cs:List Value}{o j:Nat}{x:Value}(hc:∀i u,cs[i]?=some u→l[o+i]?=some u)(hj:j<cs.length)(hl:o+cs.length≤l.length):patch l (o+j) [x]=patch l o (cs.set j x):=by
 refine Age fun k=>?_;rw[D3 (by simp;omega),D3 (by simp;omega)];simp only[Acx,List.length_nil,Aev];by_cases h1:o≤k∧k<o+cs.length
 ·rw[if_pos h1];by_cases h2:k=o+j
  ·subst h2;rw[if_pos (by omega),Ahb,show o+j - o=j by omega,List.getElem?_set_self hj];rfl
  ·rw[if_neg (by omega),List.getElem?_set_ne (by omega)];have:=hc (k - o) cs[k - o] (Acf (by omega));rw[show o+(k - o)=k by omega] at this;rw[this,Acf (by omega)]
 ·rw[if_neg h1,if_neg (by omega)]
def AB.reorder{P f args d L L1 R}(p:L.Perm L1)(h:AB P f args d L1 R):AB P f args d L R:=AB.vs (Vs.perm p) h
end Go.Gk
namespace Go.Gk
open Go
def C2(P:Program)(f:FuncId)(args:List Value)(d:Ab)(L:List Ab)(v:Value):Prop:=AB P f args d L (Ret fun r d' L'=>r=v∧d'=d∧L'=L)
section
variable {P:Program}{pan:List PanicEntry→AL}{Qn:Env→AL}{Ls L:List Ab}{ρ:Env}{d:Ab}{s:GS}{t:Nat}
def Di{f args vs v A B}(hL:L=A++B)(ea:args.map (ev ρ)=vs)(hc:C2 P f vs d A v)(h:gws P pan Qn s Ls (upd ρ t v) d L):
  gws P pan Qn (.op false ⟨some t,none,.call f args⟩ s) Ls ρ d L:=
 EP hL ea hc (fun r d' L' _ ⟨h1,h2,h3⟩=>by subst h1;subst h2;subst h3;rw[←hL];exact h)
def Jt{v L1}(e:ρ t=v)(hs:L1.Sublist L):Ct [.tmp t] (Ret fun r d' L'=>r=v∧d'=d∧L'=L1) ρ d L:=Ci e hs ⟨Z,Z,Z⟩
def YR{u:Nat}{v w L1}(e:ρ t=v)(e':ρ u=w)(hs:L1.Sublist L):Ct [.tmp t,.tmp u] (Ret fun r d' L'=>r=.tuple #[v,w]∧d'=d∧L'=L1) ρ d L:=Cw e e' hs ⟨Z,Z,Z⟩
end
end Go.Gk
namespace Go.Gk
open Go
def Aa7{P}{Q:BK}{ρ d L f}{ps:List Nat}{as bd:BT}{g}{first cap:Array Value}(ef:ev ρ f=.func (.func g) first cap)
  (h:∀l rc,Qf P ρ ps as bd rc→rc.state=.ready→rc.pending=none→AB P g (first.toList++[.func (.yield l) #[] #[]]++cap.toList) d (sg l (.loop rc)::L)
   (Ret fun _ d' L'=>∃rc' L'',L'=sg l (.loop rc')::L''∧rc'.state≠.busy∧(match rc'.pending with|none=>Q.n ρ d' L''|some (.exit id)=>Q.ex id ρ d' L''|some .ret=>Q.ret ρ d' L''|_=>False))):xwp P (.rf f ps as bd) Q ρ d L:=
 ⟨g,first,cap,ef,fun l rc h1 h2 h3=>⟨_,h l rc h1 h2 h3,fun e d' L' _ hr=>by
  cases e with
  |returned v=>obtain⟨rc',L'',k1,k2,k3⟩:=hr;exact⟨v,rc',L'',Z,k1,k2,k3⟩
  |panicked c=>exact hr.elim
  |outgrown=>exact hr.elim⟩⟩
def S4{rc:Loop}(h1:rc.state=.ready)(h2:rc.pending=none):{rc with state:=.ready,pending:=none}=rc:=by
 cases rc;simp only at h1 h2;subst h1;subst h2;rfl
end Go.Gk
namespace Go.Gk
open Go
section
variable {P:Program}{pan:List PanicEntry→AL}{Qn:Env→AL}{Ls L:List Ab}{ρ:Env}{d:Ab}{s:GS}{t:Nat}
def Pa{f args R vs A B}(hp:L.Perm (A++B))(ea:args.map (ev ρ)=vs)(hc:AB P f vs d A (Ret R))
  (h:∀v d' L',Le d d'→R v d' L'→∃d2 L2,Vs d' (L'++B) d2 L2∧gws P pan Qn s Ls (upd ρ t v) d2 L2):gws P pan Qn (.op false ⟨some t,none,.call f args⟩ s) Ls ρ d L:=by
 refine BA d (A++B) (Vs.perm hp) ⟨d,A++B,Vs.refl d _,.inl ⟨A,B,Ret R,Z,by rw[ea];exact hc,fun e d' L' hl hr=>?_⟩⟩
 cases e with
 |returned v=>exact h v d' L' hl hr
 |panicked c=>exact hr.elim
 |outgrown=>exact hr
def HG{f args R vs A B}(hc:AB P f vs d A (Ret R))(hp:L.Perm (A++B))(ea:args.map (ev ρ)=vs)
  (h:∀v d' L',Le d d'→R v d' L'→∃d2 L2,Vs d' (L'++B) d2 L2∧gws P pan Qn s Ls (upd ρ t v) d2 L2):gws P pan Qn (.op false ⟨some t,none,.call f args⟩ s) Ls ρ d L:=Pa hp ea hc h
def Cz{f args R vs}(hc:AB P f vs d L (Ret R))(ea:args.map (ev ρ)=vs)
  (h:∀v d' L',Le d d'→R v d' L'→gws P pan Qn s Ls (upd ρ t v) d' L'):gws P pan Qn (.op false ⟨some t,none,.call f args⟩ s) Ls ρ d L:=
 EP (B:=[]) (Adm _).symm ea hc (fun v d' L' hl hr=>by rw[Adm];exact h v d' L' hl hr)
def Lz{f args vs v A B}(hp:L.Perm (A++B))(ea:args.map (ev ρ)=vs)(hc:C2 P f vs d A v)(h:gws P pan Qn s Ls (upd ρ t v) d L):
  gws P pan Qn (.op false ⟨some t,none,.call f args⟩ s) Ls ρ d L:=
 Pa hp ea hc (fun r d' L' _ ⟨h1,h2,h3⟩=>by subst h1;subst h2;subst h3;exact⟨d',L,Vs.perm hp.symm,h⟩)
end
def RL{l cs}{o j:Nat}{u}(hl:o+cs.length≤l.length)(hu:cs[j]?=some u):(patch l o cs)[o+j]?=some u:=by
 have:=(List.getElem?_eq_some_iff.1 hu).1;rw[D3 hl,if_pos (by omega),show o+j - o=j by omega,hu]
def SK{l cs ds}{o:Nat}(hl:o+cs.length≤l.length)(he:ds.length=cs.length):patch (patch l o cs) o ds=patch l o ds:=by
 refine Age fun k=>?_;rw[D3 (l:=patch l o cs) (by rw[Ey hl];omega),D3 (l:=l) (vs:=cs) hl,D3 (l:=l) (vs:=ds) (by omega)];by_cases h:o≤k∧k<o+ds.length
 ·rw[if_pos h,if_pos h]
 ·rw[if_neg h,if_neg h,if_neg (by omega)]
def Us{l cs:List Value}{o j:Nat}{x:Value}(hj:j<cs.length)(hl:o+cs.length≤l.length):patch (patch l o cs) (o+j) [x]=patch l o (cs.set j x):=by
 rw[Hr (cs:=cs) (fun i u hu=>RL hl hu) hj (by rw[Ey hl];exact hl),SK hl (by simp)]
end Go.Gk
namespace Go.Gk
open Go
section
variable {P:Program}{pan:List PanicEntry→AL}{Qn:Env→AL}{Ls L:List Ab}{ρ:Env}{d:Ab}{s:GS}{t:Nat}
def YQ{by_:Nat}{x k}{n:Nat}(ex:ev ρ x=.int k (n:Nat))(h1:by_*n+112≤281474976710656)(h2:n<9223372036854775808)
  (h:∀b,gws P pan Qn s Ls (upd ρ t (.chan (some b))) d (sg b (.chan n #[] false 0 0 false)::L)):gws P pan Qn (.op false ⟨some t,none,.mop (.mkc by_ x)⟩ s) Ls ρ d L:=
 ⟨d,L,Vs.refl d L,by simp only[gop,gi,mi];exact⟨k,n,ex,h1,h2,fun b=>⟨_,_,Vs.refl _ _,h b⟩⟩⟩
end
end Go.Gk
namespace Go.Gk
open Go
section
variable {P:Program}{pan:List PanicEntry→AL}{Qn:Env→AL}{Ls L:List Ab}{ρ:Env}{d:Ab}{s:GS}{t:Nat}
end
end Go.Gk
namespace Go.Gk
open Go
section
variable {P:Program}{pan:List PanicEntry→AL}{Qn:Env→AL}{Ls L:List Ab}{ρ:Env}{d:Ab}{s:GS}{t:Nat}{tk:Bool}
def Aa8{neg:Bool}{x y a}(ex:ev ρ x=.pointer a)(ey:ev ρ y=.pointer a)(h:gws P pan Qn s Ls (upd ρ t (.bool (!neg))) d L):
  gws P pan Qn (.op tk ⟨some t,none,.eqp neg x y⟩ s) Ls ρ d L:=w_q Z ⟨a,a,ex,ey,by cases a;exact .inl Z;exact .inr (.inr Z),by cases neg<;>simp⟩ h
def AaL{neg:Bool}{x y}{b:Nat}(ex:ev ρ x=.map (some b))(ey:ev ρ y=.map none)(h:gws P pan Qn s Ls (upd ρ t (.bool neg)) d L):
  gws P pan Qn (.op tk ⟨some t,none,.eqm neg x y⟩ s) Ls ρ d L:=w_q Z ⟨some b,ex,ey,by cases neg<;>rfl⟩ h
def AbA{T x v}(ex:ev ρ x=.iface T v)(h:gws P pan Qn s Ls (upd ρ t v) d L):
  gws P pan Qn (.op tk ⟨some t,none,.tas T x⟩ s) Ls ρ d L:=w_q Z ex h
def Abr{x T}{b c:Nat}{es:Array MapEntry}(ex:ev ρ x=.iface T (.map (some b)))(hm:HO d (Ls++L++L) b (.map es c))(h:∀q,gws P pan Qn s Ls (upd ρ t (.iface T (.map (some q)))) d (sg q (.map es c)::L)):
  gws P pan Qn (.op false ⟨some t,none,.mop (.cln x)⟩ s) Ls ρ d L:=
 ⟨d,L,Vs.refl d L,by simp only[gop,gi,mi];exact⟨T,b,es,c,ex,hm,fun q=>⟨_,_,Vs.refl _ _,h q⟩⟩⟩
end
end Go.Gk
namespace Go.Gk
open Go
def LA{P}{pan:List PanicEntry→AL}{Qn:Env→AL}{Ls L ρ d}(h:∃d1 L1,Vs d (Ls++L) d1 L1∧Qn ρ d1 L1):gws P pan Qn .done Ls ρ d L:=h
end Go.Gk
end
section
namespace Go.Gk.Dev
open Go Go.Gk
attribute [local irreducible] gwp gws xwp
abbrev Sec:=List UInt8
structure E0 where
 syn:List Sec
 opn:List (Nat×Sec)
def UP(_:Ab)(cs:List Value)(x:Sec):Prop:=cs=x.map As∧x.length=256
def RWr(_:Ab)(cs:List Value)(x:Nat×Sec):Prop:=cs=vZ x.1::x.2.map As∧x.2.length=256
def Yz:Gs UP:=fun _ h=>h
def Zr:Gs RWr:=fun _ h=>h
def IA:Sec:=Acq 256 0
def AaQ{d}:UP d DS IA:=⟨by rw[IA,List.map_replicate];rfl,Adn⟩
def FF(k:Nat):List (Nat×Sec)→Option Sec
 |[]=>none
 |w::l=>match FF k l with|some b=>some b|none=>if w.1=k then some w.2 else none
def E0.cur(D:E0)(k:Nat):Sec:=(FF k D.opn).getD (D.syn.getD k [])
def synced(l:List (Nat×Sec))(s:List Sec):List Sec:=l.foldl (fun s w=>s.set w.1 w.2) s
def FI(l:List (Nat×Sec)):∀s,(synced l s).length=s.length:=by
 induction l with
 |nil=>exact fun _=>Z
 |cons w l ih=>intro s;rw[synced,Ahn];exact(ih _).trans (Aev ..)
def Mc(l:List (Nat×Sec))(w:Nat×Sec)(s:List Sec):synced (l++[w]) s=(synced l s).set w.1 w.2:=by simp[synced]
def Dv(d:Ab)(D:E0)(v:Value)(L:List Ab):Prop:=
 ∃b T vs vo r hs ho,v=pZ b∧L=[bx b T [vs,vo,vZ r,vZ 0],hs,ho]∧An 256 UP d vs D.syn hs∧An 257 RWr d vo D.opn ho∧(∀w∈D.opn,w.1<D.syn.length)∧D.syn.length≤8192
def Dv.mono{d d'}{D:E0}{v L}(h:Dv d D v L)(hl:Le d d'):Dv d' D v L:=
 let ⟨b,T,vs,vo,r,hs,ho,h1,h2,h3,h4,h5,h6⟩:=h
 ⟨b,T,vs,vo,r,hs,ho,h1,h2,An.mono (R:=UP) Yz h3 hl,An.mono (R:=RWr) Zr h4 hl,h5,h6⟩
def HK(P:Program)(f:FuncId):Prop:=∀{d}{D:E0}{v L},Dv d D v L→C2 P f [v] d L (vZ D.syn.length)
def JN:A3:=⟨10,[(.tmp 2)],(sR (o1 2 (.mv z0) .done) (.seq (sR (om 3 0<|o1 4 (.eqp false 3 (.const (.pointer none))) .done) (.cond 4 (sR (o1 2 (.mv z0) .done) .ret) .skip)) (sR (om 5 0<|o1 6 (.nilc 5)<|oj 7 0 6<|ol 8 7<|oL 9 8<|om 2 9 .done) .ret)))⟩
def W5{P f}(hd:dec P f=some JN):HK P f:=by
 intro d D v L h;obtain⟨b,T,vs,vo,r,hs,ho,rfl,rfl,h3,h4,h5,h6⟩:=h;refine AK hd (Aca Z) ?_;show gwp P _ _ _ _ _;(refine Ad<|Ac Z<|Aa<|Ag<|Ad<|Ah Z<|BZ Z Z<|Aa<|AS Z<|Al<|Ad<|Ah Z<|AJ Z<|Aj Z<|Ai Z (Aq 0 Z Z)<|Ve Z (by assumption)<|Ac Z<|Aa<|Ao ?_);exact Jt Z (Acd _)
def Nl(P:Program)(f:FuncId):Prop:=∀{d}{D:E0}{v L}{k n:Nat},Dv d D v L→k<D.syn.length→n=256→C2 P f [v,vZ k,vZ n] d L (vZ 0)
def I0(a0:Nat):A3:=⟨32,[(.tmp 6)],(sR (o1 6 (.mv z0) .done) (.seq (.block 0 (sR (om 8 0<|oc 9 a0 [8]<|ob 10 .eql 9 z0<|om 7 10 .done) (.cond 7 (sR (o1 6 (.mv z1) .done) .ret) (sR (om 12 1<|ob 13 .lss 12 z0<|om 14 13<|gF 15 14 1<|gF 16 14 0<|oF 17 14 (.nilc 16)<|oF 18 14 (.fld 0 17)<|oF 19 14 (.ld none 18)<|oF 20 14 (.len 19)<|oF 21 14 (.bin .geq 15 20)<|o1 22 (.pick 14 (.const (.bool true)) 21)<|om 11 22 .done) (.cond 11 (sR (o1 6 (.mv (kZ 4)) .done) .ret) (sR (om 24 2<|ob 25 .neq 24 (kZ 256)<|om 23 25 .done) (.cond 23 (sR (o1 6 (.mv z2) .done) .ret) (sR (om 27 0<|o1 28 (.nilc 27)<|oj 29 3 28<|ol 30 29<|ob 31 .eql 30 z1<|om 26 31 .done) (.cond 26 (sR (o1 6 (.mv (kZ 150)) .done) .ret) .skip))))))))) (sR (o1 6 (.mv z0) .done) .ret)))⟩
def WQ{P f f1}(hd:dec P f=some (I0 f1))(h1:HK P f1):Nl P f:=by
 intro d D v L k n h hk hn;have h0:=h;obtain⟨b,T,vs,vo,r,hs,ho,rfl,rfl,h3,h4,h5,h6⟩:=h;refine AK hd (Aca Z) ?_;show gwp P _ _ _ _ _;refine Ad<|Ac Z<|Aa<|Ag<|Az<|Ad<|Ah Z<|Di (B:=[]) Z Z (h1 h0) ?_;(refine AT Z Z<|Af Z<|Aa<|Aw Z (by omega)<|Ad<|Ac Z<|AA Z Z<|Af Z<|A1 Z (by omega)<|Ae Z<|Ac Z<|Ae Z<|Ah Z<|Ae Z<|AJ Z<|Ae Z<|Aj Z<|Ae Z<|Ai Z (Aq 0 Z Z)<|Ae Z<|Ve Z (by assumption)<|Ae Z<|Ds Z Z<|Av Z Z<|Af Z<|Aa<|Aw Z (by omega)<|Ad<|Ac Z<|AW Z Z<|Af Z<|Aa<|Aw Z (by omega)<|Ad<|Ah Z<|AJ Z<|Aj Z<|Ai Z (Aq 0 Z Z)<|AT Z Z<|Af Z<|Aa<|Aw Z (by omega)<|Al<|Ad<|Ac Z<|Aa<|Ao ?_);exact Jt Z (Acd _)
def Nr(P:Program)(f:FuncId):Prop:=∀{d}{n:Nat},1≤n→n≤8192→AB P f [vZ n] d [] (Ret fun r d' L'=>∃v,r=.tuple #[v,vZ 0]∧d'=d∧Dv d ⟨Acq n IA,[]⟩ v L')
def QI:A3:=⟨14,[(.tmp 2),(.tmp 3)],(sR (o1 2 (.mv (.const (.pointer none)))<|o1 3 (.mv z0) .done) (.seq (sR (om 4 0<|ob 5 .lss 4 z1<|om 6 5<|gF 7 6 0<|oF 8 6 (.bin .gtr 7 (kZ 8192))<|o1 9 (.pick 6 (.const (.bool true)) 8) .done) (.cond 9 (sR (o1 2 (.mv (.const (.pointer none)))<|o1 3 (.mv z2) .done) .ret) .skip)) (sR (om 10 0<|o1 11 (.mks 256 256 DS 10 10)<|o1 12 (.bld [(0,1),(1,1),(2,1),(3,1)] [nV,nV,(vZ 0),(vZ 0)] [(0,11)])<|o1 13 (.box 12)<|om 2 13<|o1 3 (.mv z0) .done) .ret)))⟩
def ZP{P f}(hd:dec P f=some QI):Nr P f:=by
 intro d n h1 h2;refine AK hd (Aca Z) ?_;show gwp P _ _ _ _ _;refine Ad<|Ah Z<|Ac Z<|Aa<|Ag<|Ad<|Ac Z<|AA Z Z<|Af Z<|A1 Z (by omega)<|Ae Z<|Ac Z<|Ae Z<|Bb Z Z<|Av Z Z<|Aa<|Aw Z (by omega)<|Al<|Ad<|Ac Z<|JO Z Z (Acj n) (by omega) (by omega) (fun b T=>?_);(refine Ch Z<|CC Z (fun _ _=>Ah Z<|Ac Z<|Aa<|Ao ?_));rename_i b2 T2;refine A9 [_,_] ⟨Z,Z,trivial⟩ (d':=d) (L':=[bx b2 T2 [.slice (some ⟨b,0,none⟩) n n,nV,vZ 0,vZ 0],bx b T (Bm DS (n*256)),emp]) ?_ ⟨_,Z,Z,_,_,_,_,_,_,_,Z,Z,?_,An.nil,fun w hw=>(by cases hw),by simpa using h2⟩
 ·exact(Vs.emp).trans (Vs.perm (Acn (l₁:=[emp])))
 ·exact An.zero EA (by omega) AaQ (by omega)
end Go.Gk.Dev
end
section
namespace Go.Gk.Cch
open Go Go.Gk Go.Gk.Dev
structure Fr where
 held:Bool
 sec:Nat
 pins:Nat
 late:Bool
 b:Sec
def fz:Fr:=⟨false,0,0,false,[]⟩
structure CD where
 fr:List Fr
 free:List Nat
 hand:Nat
 hits:Nat
 miss:Nat
def findF(k:Nat):List Fr→Option Nat
 |[]=>none
 |f::l=>if f.held=true∧f.sec=k then some 0 else(findF k l).map (·+1)
def TU{k:Nat}{l:List Fr}{i:Nat}(hi:i<l.length):findF k (l.drop i)=if l[i].held=true∧l[i].sec=k then some 0 else(findF k (l.drop (i+1))).map (·+1):=by
 rw[Acu hi];rfl
def GD{k:Nat}:∀{l:List Fr}{i:Nat},findF k l=some i→∃h:i<l.length,l[i].held=true∧l[i].sec=k
 |[],i,h=>by cases h
 |f::l,i,h=>by
  rw[findF] at h;split at h
  ·rename_i e;cases h;exact⟨by simp,e⟩
  ·cases hf:findF k l with
   |none=>rw[hf] at h;cases h
   |some j=>
    rw[hf] at h;cases h
    obtain⟨h1,h2⟩:=GD hf
    exact⟨by simpa using h1,by simpa using h2⟩
def Of{k:Nat}:∀{l:List Fr},findF k l=none→∀f∈l,¬(f.held=true∧f.sec=k)
 |f::l,h,g,hg=>by
  rw[findF] at h;split at h
  ·cases h
  ·rename_i e;rcases Acw.1 hg with rfl|hg
   ·exact e
   ·refine Of ?_ g hg;cases hf:findF k l with
    |none=>rfl
    |some j=>rw[hf] at h;cases h
def BR(l:List Fr):Bool:=l.all fun f=>f.pins !=0
def Bi(l:List Fr)(h:Nat):Bool:=(l.getD h fz).pins==0 && !(l.getD h fz).late
def C7(l:List Fr)(h:Nat):List Fr:=if (l.getD h fz).pins=0 then l.set h {l.getD h fz with late:=false} else l
def B5(l:List Fr)(h:Nat):Nat:=(h+1) % l.length
def BY:Nat→List Fr→Nat→List Fr×Nat×Nat
 |0,l,h=>(l,B5 l h,h)
 |n+1,l,h=>if Bi l h then(l,B5 l h,h) else BY n (C7 l h) (B5 l h)
def ES(l:List Fr)(h:Nat):(C7 l h).length=l.length:=by unfold C7;split<;>simp
def Qg(l:List Fr):Nat:=l.countP fun f=>f.pins==0 && f.late
def F2(l:List Fr):Nat→Nat→Nat
 |0,_=>0
 |n+1,h=>if (l.getD h fz).pins=0 then 0 else F2 l n (B5 l h)+1
def CU(l:List Fr)(h:Nat):Nat:=Qg l*(l.length+1)+F2 l l.length h
def S8(l:List Fr):∀n h,F2 l n h≤n
 |0,_=>Acj _
 |n+1,h=>by rw[F2];split;omega;have:=S8 l n (B5 l h);omega
def MC{l:List Fr}{j:Nat}(hj:j<l.length)(hp:(l.getD j fz).pins=0):∀(n h:Nat),h<l.length→(h+n) % l.length=j→∀m,n<m→F2 l m h=F2 l (n+1) h
 |0,h,hh,e,m,hm=>by
  rw[Nat.add_zero,Afh hh] at e;subst e;cases m with
  |zero=>omega
  |succ m=>rw[F2,F2,if_pos hp,if_pos hp]
 |n+1,h,hh,e,m,hm=>by
  cases m with
  |zero=>omega
  |succ m=>
   rw[F2,F2]
   by_cases q:(l.getD h fz).pins=0
   ·rw[if_pos q,if_pos q]
   ·rw[if_neg q,if_neg q]
    have h1:B5 l h<l.length:=Afo _ (by omega)
    have h2:(B5 l h+n) % l.length=j:=by
     rw[B5,Nat.mod_add_mod,←e];congr 1;omega
    rw[MC hj hp n (B5 l h) h1 h2 m (by omega)]
def Wf{l:List Fr}{h:Nat}(hh:h<l.length)(hn:BR l=false)(hp:(l.getD h fz).pins≠0):F2 l l.length (B5 l h)<F2 l l.length h:=by
 obtain⟨f,hf,hq⟩:=by simpa [BR] using hn
 obtain⟨j,hj,rfl⟩:=Aej hf;have hj0:(l.getD j fz).pins=0:=by rw[Acg,Acf hj];exact hq
 have hpos:0<l.length:=by omega
 have key:∃n,n<l.length∧(B5 l h+n) % l.length=j:=by
  have h1:B5 l h<l.length:=Afo _ hpos;refine⟨(j+l.length - B5 l h) % l.length,Afo _ hpos,?_⟩
  rw[Nat.add_mod_mod,show B5 l h+(j+l.length - B5 l h)=j+l.length by omega,Nat.add_mod_right,Afh hj]
 obtain⟨n,hn1,hn2⟩:=key;have h1:B5 l h<l.length:=Afo _ hpos;have hn3:n≠l.length - 1:=by
  intro e;subst e;rw[B5,Nat.mod_add_mod,show h+1+(l.length - 1)=h+l.length by omega,Nat.add_mod_right,Afh hh] at hn2;subst hn2;exact hp hj0
 obtain⟨m,hm⟩:∃m,l.length=m+1:=⟨l.length - 1,by omega⟩
 have e1:=MC hj hj0 n (B5 l h) h1 hn2 l.length hn1;have e2:=MC hj hj0 n (B5 l h) h1 hn2 m (by omega);have e3:F2 l l.length h=F2 l m (B5 l h)+1:=by
  rw[hm,F2,if_neg hp]
 rw[e3,e1,e2];omega
def WT{l:List Fr}{h:Nat}(hh:h<l.length)(hp:(l.getD h fz).pins=0)(hl:(l.getD h fz).late=true):Qg (l.set h {l.getD h fz with late:=false})+1=Qg l:=by
 unfold Qg;have e:l.getD h fz=l[h]:=by rw[Acg,Acf hh];rfl
 rw[e] at hp hl⊢;rw[List.countP_set hh];simp only[hp,hl];have:0<l.countP fun f=>f.pins==0 && f.late:=List.countP_pos_iff.2 ⟨l[h],Acz hh,by simp[hp,hl]⟩;simp;omega
def Hc{l:List Fr}{h:Nat}(hh:h<l.length)(hn:BR l=false)(ht:Bi l h=false):CU (C7 l h) (B5 l h)<CU l h:=by
 have hd:=S8 (C7 l h) (C7 l h).length (B5 l h);rw[ES] at hd;unfold CU;rw[ES];by_cases hp:(l.getD h fz).pins=0
 ·have hl:(l.getD h fz).late=true:=by
   unfold Bi at ht;rw[hp] at ht;simpa using ht
  have:=WT hh hp hl;have e:C7 l h=l.set h {l.getD h fz with late:=false}:=by rw[C7,if_pos hp]
  rw[e] at hd⊢;rw[←this,Aeg,Agl];omega
 ·have e:C7 l h=l:=by rw[C7,if_neg hp]
  rw[e];have:=Wf hh hn hp;omega
def G3{l:List Fr}{h:Nat}:BR (C7 l h)=BR l:=by
 unfold C7;split
 ·rename_i hp;by_cases hh:h<l.length
  ·have e:l.getD h fz=l[h]:=by rw[Acg,Acf hh];rfl
   rw[e] at hp⊢;have h1:BR l=false:=by
    unfold BR;rw[List.all_eq_false];exact⟨l[h],Acz hh,by simp[hp]⟩
   have h2:BR (l.set h {l[h] with late:=false})=false:=by
    unfold BR;rw[List.all_eq_false];exact⟨_,List.mem_set hh _,by simp[hp]⟩
   rw[h1,h2]
  ·rw[Afk (by omega)]
 ·rfl
def KM:∀(n:Nat) {l:List Fr}{h:Nat},h<l.length→BR l=false→CU l h<n→∀m,n≤m→BY m l h=BY n l h
 |0,l,h,_,_,hm,_,_=>by omega
 |n+1,l,h,hh,hn,hm,m,hle=>by
  cases m with
  |zero=>omega
  |succ m=>
   rw[BY,BY]
   cases ht:Bi l h with
   |true=>rfl
   |false=>
    simp only[Ack,if_false]
    exact KM n (by rw[ES];exact Afo _ (by omega)) (by rw[G3];exact hn) (by have:=Hc hh hn ht;omega) m (by omega)
def NO{l:List Fr}{h:Nat}(hh:h<l.length)(hn:BR l=false)(ht:Bi l h=false):BY (CU (C7 l h) (B5 l h)+1) (C7 l h) (B5 l h)=BY (CU l h+1) l h:=by
 rw[show BY (CU l h+1) l h=BY (CU l h) (C7 l h) (B5 l h) by rw[BY,ht];rfl];have h1:=Hc hh hn ht;exact(KM _ (by rw[ES];exact Afo _ (by omega)) (by rw[G3];exact hn) (Nat.lt_succ_self _) _ (by omega)).symm
def EH(c:CD):CD×Option Nat:=
 match c.free with
 |i::r=>({c with free:=r},some i)
 |[]=>if BR c.fr then(c,none) else let s:=BY (CU c.fr c.hand+1) c.fr c.hand;({c with fr:=s.1,hand:=s.2.1},some s.2.2)
def EB(b:Sec)(c:CD)(k:Nat):CD×Option Sec:=
 match findF k c.fr with
 |some i=>({c with fr:=c.fr.set i {c.fr.getD i fz with pins:=(c.fr.getD i fz).pins+1,late:=true},hits:=c.hits+1},some (c.fr.getD i fz).b)
 |none=>match EH c with
  |(c',none)=>(c',none)
  |(c',some i)=>({c' with fr:=c'.fr.set i ⟨true,k,1,true,b⟩,miss:=c'.miss+1},some b)
def CJ(c:CD)(k:Nat):CD×Int:=
 match findF k c.fr with
 |none=>(c,240)
 |some i=>if (c.fr.getD i fz).pins=0 then(c,180) else({c with fr:=c.fr.set i {c.fr.getD i fz with pins:=(c.fr.getD i fz).pins - 1}},0)
def LL(c:CD)(k:Nat):CD×Int:=
 match findF k c.fr with
 |none=>(c,240)
 |some i=>if (c.fr.getD i fz).pins>0 then(c,180) else({c with fr:=c.fr.set i fz,free:=c.free++[i]},0)
def DK(c:CD):List Int:=c.fr.map fun f=>if f.held then(f.sec:Int) else -1
end Go.Gk.Cch
namespace Go.Gk.Cch
open Go Go.Gk Go.Gk.Dev
def Kj(c:CD)(n:Nat):Prop:=∀f∈c.fr,f.pins≤n
def MG:∀(n:Nat) {l:List Fr}{h:Nat},h<l.length→(BY n l h).1.length=l.length∧(BY n l h).2.2<l.length∧(BY n l h).2.1<l.length
 |0,l,h,hh=>⟨Z,hh,Afo _ (by omega)⟩
 |n+1,l,h,hh=>by
  rw[BY];split
  ·exact⟨Z,hh,Afo _ (by omega)⟩
  ·have:=MG n (l:=C7 l h) (h:=B5 l h) (by rw[ES];exact Afo _ (by omega));rw[ES] at this;exact this
def Ti{c c1:CD}{i:Nat}(hh:c.hand<c.fr.length)(hf:∀i∈c.free,i<c.fr.length)(h:EH c=(c1,some i)):i<c1.fr.length:=by
 unfold EH at h;split at h
 ·rename_i j r e;cases h;exact hf _ (by rw[e];exact Acm ..)
 ·split at h
  ·cases h
  ·cases h;have:=MG (CU c.fr c.hand+1) hh;simp only;omega
end Go.Gk.Cch
end
section
namespace Go.Gk.Cch
open Go Go.Gk Go.Gk.Dev
variable{i k N:Nat}{c c':CD}{cur:Nat→Sec}
def JR:∀{l m:List Nat},l.Nodup→(∀x∈l,x∈m)→l.length≤m.length
 |[],_,_,_=>Nat.zero_le _
 |x::l,m,h,hs=>by
  have hx:=hs x (Acm ..);have:=JR (l:=l) (m:=m.erase x) (Afn.1 h).2 (fun y hy=>by
   have hne:y≠x:=fun e=>(Afn.1 h).1 (e▸hy);exact(List.mem_erase_of_ne hne).2 (hs y (Aco _ hy)))
  rw[List.length_erase_of_mem hx] at this;have:=List.length_pos_of_mem hx;simp only[Acx];omega
abbrev CD.at(c:CD)(i:Nat):Fr:=c.fr.getD i fz
structure Inv (cur:Nat→Sec) (N:Nat) (c:CD):Prop where
 n1:1≤c.fr.length
 n2:c.fr.length≤64
 hd:c.hand<c.fr.length
 fl:∀i∈c.free,i<c.fr.length
 nd:c.free.Nodup
 fh:∀i,i<c.fr.length→((c.at i).held=false↔i∈c.free)
 ds:∀i j,i<c.fr.length→j<c.fr.length→(c.at i).held=true→(c.at j).held=true→(c.at i).sec=(c.at j).sec→i=j
 vl:∀i,i<c.fr.length→(c.at i).held=true→(c.at i).sec<N∧(c.at i).b=cur (c.at i).sec
 pz:∀i,i<c.fr.length→(c.at i).held=false→(c.at i).pins=0∧(c.at i).sec=0
def Cr(c:CD)(k:Nat):Nat:=match findF k c.fr with|some i=>(c.at i).pins|none=>0
def at_set{l:List Fr}{j:Nat}{f:Fr}(hi:i<l.length):(l.set i f).getD j fz=if j=i then f else l.getD j fz:=by
 simp only[Acg,List.getElem?_set];by_cases e:i=j
 ·subst e;simp[hi]
 ·rw[if_neg e,if_neg (fun h=>e h.symm)]
def Cp{l:List Fr}{i:Nat}(hi:i<l.length):l.getD i fz=l[i]:=by rw[Acg,Acf hi];rfl
def DT(h:findF k c.fr=some i):i<c.fr.length∧(c.at i).held=true∧(c.at i).sec=k:=by
 obtain⟨h1,h2,h3⟩:=GD h;exact⟨h1,by rw[CD.at,Cp h1];exact h2,by rw[CD.at,Cp h1];exact h3⟩
def Gg(h:findF k c.fr=none)(hi:i<c.fr.length)(hh:(c.at i).held=true):(c.at i).sec≠k:=by
 intro e;rw[CD.at,Cp hi] at hh e;exact Of h _ (Acz hi) ⟨hh,e⟩
def Inv.find(h:Inv cur N c)(hi:i<c.fr.length)(hh:(c.at i).held=true)(hs:(c.at i).sec=k):findF k c.fr=some i:=by
 cases hf:findF k c.fr with
 |none=>exact absurd hs (Gg hf hi hh)
 |some j=>
  obtain⟨h1,h2,h3⟩:=DT hf
  rw[h.ds j i h1 hi h2 hh (h3.trans hs.symm)]
def Q5(h:Inv cur N c)(hi:i<c.fr.length)(hh:(c.at i).held=true):Cr c (c.at i).sec=(c.at i).pins:=by
 rw[Cr,h.find hi hh Z]
def Ef(l m:List Fr):Prop:=l.length=m.length∧∀i,(l.getD i fz).held=(m.getD i fz).held∧(l.getD i fz).sec=(m.getD i fz).sec∧(l.getD i fz).pins=(m.getD i fz).pins∧(l.getD i fz).b=(m.getD i fz).b
def Ef.refl(l:List Fr):Ef l l:=⟨Z,fun _=>⟨Z,Z,Z,Z⟩⟩
def Ef.trans{a b c:List Fr}(h:Ef a b)(k:Ef b c):Ef a c:=
 ⟨h.1.trans k.1,fun i=>let ⟨x,y,z,w⟩:=h.2 i;let ⟨x',y',z',w'⟩:=k.2 i;⟨x.trans x',y.trans y',z.trans z',w.trans w'⟩⟩
def PR(l:List Fr)(h:Nat):Ef (C7 l h) l:=by
 unfold C7;split
 ·by_cases hh:h<l.length
  ·refine⟨by simp,fun i=>?_⟩
   rw[at_set hh];by_cases e:i=h
   ·subst e;rw[if_pos Z];exact⟨Z,Z,Z,Z⟩
   ·rw[if_neg e];exact⟨Z,Z,Z,Z⟩
  ·rw[Afk (by omega)];exact Ef.refl l
 ·exact Ef.refl l
def Ju:∀(n:Nat) (l:List Fr) (h:Nat),Ef (BY n l h).1 l
 |0,l,_=>Ef.refl l
 |n+1,l,h=>by
  rw[BY];split
  ·exact Ef.refl l
  ·exact(Ju n _ _).trans (PR l h)
def NY:∀(n:Nat) {l:List Fr}{h:Nat},h<l.length→BR l=false→CU l h<n→(l.getD (BY n l h).2.2 fz).pins=0
 |0,_,_,_,_,hm=>by omega
 |n+1,l,h,hh,hn,hm=>by
  rw[BY];cases ht:Bi l h with
  |true=>
   simp only[if_true]
   unfold Bi at ht
   simp only[Bool.and_eq_true,beq_iff_eq] at ht
   exact ht.1
  |false=>
   simp only[Ack,if_false]
   have:=NY n (l:=C7 l h) (h:=B5 l h) (by rw[ES];exact Afo _ (by omega)) (by rw[G3];exact hn) (by have:=Hc hh hn ht;omega)
   rw[((PR l h).2 _).2.2.1] at this
   exact this
def Inv.same(h:Inv cur N c)(hl:c'.fr.length=c.fr.length)(hf:c'.free=c.free)(hh:c'.hand<c.fr.length)
  (he:∀i,(c'.at i).held=(c.at i).held∧(c'.at i).sec=(c.at i).sec∧(c'.at i).b=(c.at i).b∧((c.at i).held=false→(c'.at i).pins=(c.at i).pins)):Inv cur N c' where
 n1:=by rw[hl];exact h.n1
 n2:=by rw[hl];exact h.n2
 hd:=by rw[hl];exact hh
 fl:=by rw[hl,hf];exact h.fl
 nd:=by rw[hf];exact h.nd
 fh:=fun i hi=>by rw[(he i).1,hf];exact h.fh i (hl▸hi)
 ds:=fun i j hi hj h1 h2 h3=>by rw[(he i).1] at h1;rw[(he j).1] at h2;rw[(he i).2.1,(he j).2.1] at h3;exact h.ds i j (hl▸hi) (hl▸hj) h1 h2 h3
 vl:=fun i hi h1=>by rw[(he i).1] at h1;rw[(he i).2.1,(he i).2.2.1];exact h.vl i (hl▸hi) h1
 pz:=fun i hi h1=>by rw[(he i).1] at h1;rw[(he i).2.2.2 h1,(he i).2.1];exact h.pz i (hl▸hi) h1
def Inv.take{c1:CD}(h:Inv cur N c)(hl:Ef c1.fr c.fr)(hh:c1.hand<c.fr.length)(hi:i<c.fr.length)(hk:k<N)(hn:findF k c.fr=none)
  (hf:(c.free=i::c1.free)∨(c.free=[]∧c1.free=[]∧(c.at i).pins=0)) {m:Nat}(c2:CD) (e:c2={c1 with fr:=c1.fr.set i ⟨true,k,1,true,cur k⟩,miss:=m}):
  Inv cur N c2∧(∀s,Cr c2 s=if s=k then Cr c s+1 else Cr c s)∧findF k c2.fr=some i:=by
 have hi1:i<c1.fr.length:=by rw[hl.1];exact hi
 have hlen:c2.fr.length=c.fr.length:=by subst e;simp[hl.1]
 have hat:∀j,c2.at j=if j=i then⟨true,k,1,true,cur k⟩ else c1.fr.getD j fz:=fun j=>by subst e;exact at_set hi1
 have hsame:∀j,j≠i→(c2.at j).held=(c.at j).held∧(c2.at j).sec=(c.at j).sec∧(c2.at j).pins=(c.at j).pins∧(c2.at j).b=(c.at j).b:=fun j hj=>by
  rw[hat,if_neg hj];exact hl.2 j
 have hself:c2.at i=⟨true,k,1,true,cur k⟩:=by rw[hat,if_pos Z]
 have hfree:c2.free=c1.free:=by subst e;rfl
 have hsub:∀j,j≠i→(j∈c1.free↔j∈c.free):=fun j hj=>by
  rcases hf with hf|⟨hf1,hf2,_⟩
  ·rw[hf];simp[hj]
  ·rw[hf1,hf2]
 have hni:i∉c1.free:=by
  rcases hf with hf|⟨_,hf2,_⟩
  ·have:=h.nd;rw[hf] at this;exact(Afn.1 this).1
  ·rw[hf2];exact List.not_mem_nil
 have hpi:(c.at i).pins=0:=by
  rcases hf with hf|⟨_,_,hp⟩
  ·exact(h.pz i hi ((h.fh i hi).2 (by rw[hf];exact Acm ..))).1
  ·exact hp
 have I:Inv cur N c2:=
 {n1:=by rw[hlen];exact h.n1
  n2:=by rw[hlen];exact h.n2
  hd:=by rw[hlen];subst e;exact hh
  fl:=fun j hj=>by
   rw[hfree] at hj;rw[hlen];by_cases q:j=i
   ·subst q;exact absurd hj hni
   ·exact h.fl j ((hsub j q).1 hj)
  nd:=by
   rw[hfree];rcases hf with hf|⟨_,hf2,_⟩
   ·have:=h.nd;rw[hf] at this;exact(Afn.1 this).2
   ·rw[hf2];exact List.nodup_nil
  fh:=fun j hj=>by
   rw[hlen] at hj;rw[hfree];by_cases q:j=i
   ·subst q;rw[hself];exact⟨(fun z=>by cases z),fun z=>absurd z hni⟩
   ·rw[(hsame j q).1,hsub j q];exact h.fh j hj
  ds:=fun a b ha hb h1 h2 h3=>by
   rw[hlen] at ha hb;by_cases qa:a=i
   ·by_cases qb:b=i
    ·omega
    ·subst qa;rw[hself,(hsame b qb).2.1] at h3;rw[(hsame b qb).1] at h2;exact absurd h3.symm (Gg hn hb h2)
   ·by_cases qb:b=i
    ·subst qb;rw[hself,(hsame a qa).2.1] at h3;rw[(hsame a qa).1] at h1;exact absurd h3 (Gg hn ha h1)
    ·rw[(hsame a qa).1] at h1;rw[(hsame b qb).1] at h2;rw[(hsame a qa).2.1,(hsame b qb).2.1] at h3;exact h.ds a b ha hb h1 h2 h3
  vl:=fun a ha h1=>by
   rw[hlen] at ha;by_cases qa:a=i
   ·subst qa;rw[hself];exact⟨hk,Z⟩
   ·rw[(hsame a qa).1] at h1;rw[(hsame a qa).2.1,(hsame a qa).2.2.2];exact h.vl a ha h1
  pz:=fun a ha h1=>by
   rw[hlen] at ha;by_cases qa:a=i
   ·subst qa;rw[hself] at h1;cases h1
   ·rw[(hsame a qa).1] at h1;rw[(hsame a qa).2.2.1,(hsame a qa).2.1];exact h.pz a ha h1}
 have hfk:findF k c2.fr=some i:=I.find (by rw[hlen];exact hi) (by rw[hself]) (by rw[hself])
 refine⟨I,fun s=>?_,hfk⟩
 by_cases q:s=k
 ·subst q
  rw[if_pos Z,Cr,hfk,Cr,hn]
  show(c2.at i).pins=_
  rw[hself]
 ·rw[if_neg q]
  cases hs:findF s c.fr with
  |some j=>
   obtain⟨h1,h2,h3⟩:=DT hs
   by_cases qj:j=i
   ·subst qj
    have e1:Cr c s=0:=by rw[Cr,hs];exact hpi
    rw[e1,Cr]
    cases ht:findF s c2.fr with
    |none=>rfl
    |some a=>
     obtain⟨g1,g2,g3⟩:=DT ht
     by_cases qa:a=j
     ·subst qa;rw[hself] at g3;exact absurd g3.symm q
     ·rw[hlen] at g1
      rw[(hsame a qa).1] at g2;rw[(hsame a qa).2.1] at g3
      exact absurd (h.ds a j g1 h1 g2 h2 (g3.trans h3.symm)) qa
   ·have:findF s c2.fr=some j:=I.find (by rw[hlen];exact h1) (by rw[(hsame j qj).1];exact h2) (by rw[(hsame j qj).2.1];exact h3)
    rw[Cr,this,Cr,hs]
    exact(hsame j qj).2.2.1
  |none=>
   have e1:Cr c s=0:=by rw[Cr,hs]
   rw[e1,Cr]
   cases ht:findF s c2.fr with
   |none=>rfl
   |some a=>
    obtain⟨g1,g2,g3⟩:=DT ht
    rw[hlen] at g1
    by_cases qa:a=i
    ·subst qa;rw[hself] at g3;exact absurd g3.symm q
    ·rw[(hsame a qa).1] at g2;rw[(hsame a qa).2.1] at g3
     exact absurd g3 (Gg hs g1 g2)
def get_some{b:Sec}(h:Inv cur N c)(hk:k<N)(hg:EB (cur k) c k=(c',some b)):
  Inv cur N c'∧b=cur k∧(∀s,Cr c' s=if s=k then Cr c s+1 else Cr c s)∧(∃i,findF k c'.fr=some i)∧c'.fr.length=c.fr.length∧
   (match findF k c.fr with|some _=>c'.hits=c.hits+1∧c'.miss=c.miss|none=>c'.hits=c.hits∧c'.miss=c.miss+1)∧
   (c.free≠[]∨findF k c.fr≠none→∀s,s≠k→(findF s c'.fr=none↔findF s c.fr=none)):=by
 unfold EB at hg
 cases hf:findF k c.fr with
 |some i=>
  rw[hf] at hg
  cases hg
  obtain⟨h1,h2,h3⟩:=DT hf
  have hat:∀j,((c.fr.set i {c.fr.getD i fz with pins:=(c.fr.getD i fz).pins+1,late:=true}).getD j fz)=if j=i then{c.fr.getD i fz with pins:=(c.fr.getD i fz).pins+1,late:=true} else c.fr.getD j fz:=fun j=>at_set h1
  have hsame:Ef (c.fr.set i {c.fr.getD i fz with pins:=(c.fr.getD i fz).pins,late:=true}) c.fr:=⟨by simp,fun j=>by
   rw[at_set h1];by_cases q:j=i
   ·subst q;rw[if_pos Z];exact⟨Z,Z,Z,Z⟩
   ·rw[if_neg q];exact⟨Z,Z,Z,Z⟩⟩
  have hfind:∀s,findF s (c.fr.set i {c.fr.getD i fz with pins:=(c.fr.getD i fz).pins+1,late:=true})=findF s c.fr:=by
   intro s;have gen:∀(l:List Fr) (i:Nat) (f:Fr),f.held=(l.getD i fz).held→f.sec=(l.getD i fz).sec→findF s (l.set i f)=findF s l:=by
    intro l;induction l with
    |nil=>intro i f _ _;rfl
    |cons g l ih=>
     intro i f e1 e2
     cases i with
     |zero=>simp only[Afq] at e1 e2;rw[List.set_cons_zero,findF,findF,e1,e2]
     |succ i=>simp only[Afr] at e1 e2;rw[Agj,findF,findF,ih i f e1 e2]
   exact gen c.fr i _ Z Z
  refine⟨h.same (by simp) Z h.hd (fun j=>?_),?_,fun s=>?_,⟨i,by rw[hfind];exact hf⟩,by simp,⟨Z,Z⟩,fun _ s _=>by rw[hfind]⟩
  ·simp only[CD.at,hat]
   by_cases q:j=i
   ·subst q;rw[if_pos Z];exact⟨Z,Z,Z,fun z=>by rw[CD.at] at h2;rw[h2] at z;cases z⟩
   ·rw[if_neg q];exact⟨Z,Z,Z,fun _=>Z⟩
  ·rw[(h.vl i h1 h2).2,h3]
  ·simp only[Cr,hfind,CD.at]
   by_cases q:s=k
   ·subst q
    rw[if_pos Z,hf]
    simp only[hat,if_true]
   ·rw[if_neg q]
    cases hs:findF s c.fr with
    |none=>rfl
    |some j=>
     have hj:j≠i:=by
      rintro rfl;obtain⟨_,_,g3⟩:=DT hs;exact q (g3.symm.trans h3)
     simp only[hat,if_neg hj]
 |none=>
  rw[hf] at hg
  simp only at hg
  unfold EH at hg
  cases hfr:c.free with
  |cons i r=>
   rw[hfr] at hg
   simp only at hg
   cases hg
   have hi:=h.fl i (by rw[hfr];exact Acm ..)
   obtain⟨g1,g2,g3⟩:=h.take (c1:={c with free:=r}) (Ef.refl _) h.hd hi hk hf (.inl hfr) _ Z
   refine⟨g1,Z,g2,⟨i,g3⟩,by simp,⟨Z,Z⟩,fun _ s hs=>?_⟩
   have hnh:(c.at i).held=false:=(h.fh i hi).2 (by rw[hfr];exact Acm ..)
   constructor
   ·intro z
    cases q:findF s c.fr with
    |none=>rfl
    |some j=>
     obtain⟨y1,y2,y3⟩:=DT q
     have hj:j≠i:=by rintro rfl;rw[hnh] at y2;cases y2
     have e:(c.fr.set i ⟨true,k,1,true,cur k⟩).getD j fz=c.fr.getD j fz:=by rw[at_set hi,if_neg hj]
     have:=g1.find (k:=s) (i:=j) (by simpa using y1) (by simp only[CD.at];rw[e];exact y2) (by simp only[CD.at];rw[e];exact y3)
     rw[this] at z;cases z
   ·intro z
    cases q:findF s (c.fr.set i ⟨true,k,1,true,cur k⟩) with
    |none=>rfl
    |some j=>
     obtain⟨y1,y2,y3⟩:=DT (c:={c with free:=r,fr:=c.fr.set i ⟨true,k,1,true,cur k⟩}) q
     simp only[CD.at] at y2 y3
     rw[at_set hi] at y2 y3
     by_cases hj:j=i
     ·rw[if_pos hj] at y3;exact absurd y3.symm hs
     ·rw[if_neg hj] at y2 y3
      exact absurd y3 (Gg z (by simpa using y1) y2)
  |nil=>
   rw[hfr] at hg
   simp only at hg
   cases hp:BR c.fr with
   |true=>rw[hp] at hg;simp only[if_true] at hg;cases hg
   |false=>
    rw[hp] at hg
    simp only[Ack,if_false] at hg
    cases hg
    have hs:=Ju (CU c.fr c.hand+1) c.fr c.hand
    have hl:=MG (CU c.fr c.hand+1) h.hd
    have hpz:=NY _ h.hd hp (Nat.lt_succ_self _)
    obtain⟨g1,g2,g3⟩:=h.take (c1:=⟨(BY (CU c.fr c.hand+1) c.fr c.hand).1,[],(BY (CU c.fr c.hand+1) c.fr c.hand).2.1,c.hits,c.miss⟩) hs hl.2.2 hl.2.1 hk hf (.inr ⟨hfr,Z,hpz⟩) _ Z
    exact⟨g1,Z,g2,⟨_,g3⟩,by simp[hl.1],⟨Z,Z⟩,fun z=>by rcases z with z|z<;>exact absurd Z z⟩
def get_none(_:Inv cur N c)(hg:EB (cur k) c k=(c',none)):c'=c∧findF k c.fr=none∧c.free=[]∧BR c.fr=true:=by
 unfold EB at hg;cases hf:findF k c.fr with
 |some i=>rw[hf] at hg;cases hg
 |none=>
  rw[hf] at hg
  simp only at hg
  unfold EH at hg
  cases hfr:c.free with
  |cons i r=>rw[hfr] at hg;cases hg
  |nil=>
   rw[hfr] at hg
   simp only at hg
   cases hp:BR c.fr with
   |true=>rw[hp] at hg;simp only[if_true] at hg;cases hg;exact⟨Z,Z,Z,Z⟩
   |false=>rw[hp] at hg;simp only[Ack,if_false] at hg;cases hg
def Inv.full(h:Inv cur N c)(hf:c.free=[]){S:List Nat}(hS:∀i,i<c.fr.length→(c.at i).sec∈S):c.fr.length≤S.length:=by
 have hheld:∀i,i<c.fr.length→(c.at i).held=true:=fun i hi=>by
  cases q:(c.at i).held with
  |true=>rfl
  |false=>have:=(h.fh i hi).1 q;rw[hf] at this;cases this
 have hn:((Adg c.fr.length).map fun i=>(c.at i).sec).Nodup:=by
  refine List.pairwise_map.2 (List.Pairwise.imp_of_mem (fun{a b} ha hb hne e=>hne ?_) List.nodup_range);exact h.ds a b (Afl.1 ha) (Afl.1 hb) (hheld a (Afl.1 ha)) (hheld b (Afl.1 hb)) e
 have:=JR hn (m:=S) (fun x hx=>by
  obtain⟨i,hi,rfl⟩:=List.mem_map.1 hx;exact hS i (Afl.1 hi))
 simpa using this
def VJ(h:Inv cur N c)(hp:Cr c k≠0):
  Inv cur N (CJ c k).1∧(CJ c k).2=0∧(∀s,Cr (CJ c k).1 s=if s=k then Cr c s - 1 else Cr c s)∧(CJ c k).1.fr.length=c.fr.length∧(CJ c k).1.hits=c.hits∧(CJ c k).1.miss=c.miss∧(CJ c k).1.free=c.free∧
   ∀s,findF s (CJ c k).1.fr=findF s c.fr:=by
 unfold CJ
 cases hf:findF k c.fr with
 |none=>rw[Cr,hf] at hp;exact absurd Z hp
 |some i=>
  have hpi:(c.fr.getD i fz).pins≠0:=by rw[Cr,hf] at hp;exact hp
  simp only[if_neg hpi]
  obtain⟨h1,h2,h3⟩:=DT hf
  have hfind:∀s,findF s (c.fr.set i {c.fr.getD i fz with pins:=(c.fr.getD i fz).pins - 1})=findF s c.fr:=by
   intro s;have gen:∀(l:List Fr) (i:Nat) (f:Fr),f.held=(l.getD i fz).held→f.sec=(l.getD i fz).sec→findF s (l.set i f)=findF s l:=by
    intro l;induction l with
    |nil=>intro i f _ _;rfl
    |cons g l ih=>
     intro i f e1 e2
     cases i with
     |zero=>simp only[Afq] at e1 e2;rw[List.set_cons_zero,findF,findF,e1,e2]
     |succ i=>simp only[Afr] at e1 e2;rw[Agj,findF,findF,ih i f e1 e2]
   exact gen c.fr i _ Z Z
  refine⟨h.same (by simp) Z h.hd (fun j=>?_),trivial,fun s=>?_,by simp,trivial,trivial,trivial,hfind⟩
  ·simp only[CD.at,at_set h1]
   by_cases q:j=i
   ·subst q;rw[if_pos Z];exact⟨Z,Z,Z,fun z=>by rw[CD.at] at h2;rw[h2] at z;cases z⟩
   ·rw[if_neg q];exact⟨Z,Z,Z,fun _=>Z⟩
  ·simp only[Cr,hfind,CD.at]
   by_cases q:s=k
   ·subst q
    rw[if_pos Z,hf]
    simp only[at_set h1,if_true]
   ·rw[if_neg q]
    cases hs:findF s c.fr with
    |none=>rfl
    |some j=>
     have hj:j≠i:=by
      rintro rfl;obtain⟨_,_,g3⟩:=DT hs;exact q (g3.symm.trans h3)
     simp only[at_set h1,if_neg hj]
def Zh(cur:Nat→Sec)(N n:Nat)(h1:1≤n)(h2:n≤64):Inv cur N ⟨Acq n fz,Adg n,0,0,0⟩:=by
 have hat:∀i,(Acq n fz).getD i fz=fz:=fun i=>by
  rw[Acg,List.getElem?_replicate];split<;>rfl
 exact
 {n1:=by simpa using h1
  n2:=by simpa using h2
  hd:=by simp only[Adn];omega
  fl:=fun i hi=>by simpa using hi
  nd:=List.nodup_range
  fh:=fun i hi=>by simp only[CD.at,hat];simp at hi;simpa [fz] using hi
  ds:=fun i j _ _ hh _ _=>by simp only[CD.at,hat] at hh;cases hh
  vl:=fun i _ hh=>by simp only[CD.at,hat] at hh;cases hh
  pz:=fun i _ _=>by simp only[CD.at,hat];exact⟨Z,Z⟩}
def Ns(n k:Nat):findF k (Acq n fz)=none:=by
 induction n with
 |zero=>rfl
 |succ n ih=>rw[List.replicate_succ,findF,ih];simp[fz]
def Inv.held(h:Inv cur N c):∀i (hi:i<(DK c).length),(DK c)[i]<N∧(∀j (hj:j<i),0≤(DK c)[i]→(DK c)[j]≠(DK c)[i]):=by
 have hlen:(DK c).length=c.fr.length:=by simp[DK]
 have hget:∀i (hi:i<(DK c).length),(DK c)[i]=if (c.at i).held then((c.at i).sec:Int) else -1:=fun i hi=>by
  have e:c.at i=c.fr[i]'(hlen▸hi):=Cp _;rw[e];simp[DK]
 intro i hi;rw[hget i hi];cases q:(c.at i).held with
 |false=>exact⟨by simp only[Ack,if_false];omega,fun j _ z=>by simp at z⟩
 |true=>
  refine⟨by simp only[if_true];have:=(h.vl i (hlen▸hi) q).1;omega,fun j hj _ e=>?_⟩
  rw[hget j (by omega)] at e
  cases q':(c.at j).held with
  |false=>rw[q'] at e;simp at e
  |true=>
   rw[q'] at e
   simp only[if_true] at e
   have:=h.ds j i (by omega) (hlen▸hi) q' q (by omega)
   omega
def Zo(h:Inv cur N c){m:Nat}(hp:∀s,Cr c s≤m):∀f∈c.fr,f.pins≤m:=by
 intro f hf;obtain⟨i,hi,rfl⟩:=Aej hf;have e:c.at i=c.fr[i]:=Cp hi;cases q:(c.at i).held with
 |true=>have:=Q5 h hi q;have:=hp (c.at i).sec;rw[←e];omega
 |false=>have:=(h.pz i hi q).1;rw[e] at this;omega
end Go.Gk.Cch
end
section
namespace Go.Gk.Pgr
open Go Go.Gk Go.Gk.Dev Go.Gk.Cch
structure PD where
 frm:Nat
 kinds:List Int
 fb:Nat→Sec
 syn:List Sec
 round:Nat
 tc:Nat
abbrev PD.kd(s:PD)(i:Nat):Int:=s.kinds.getD i 0
def PD.kind(s:PD)(k:Int):Int:=if (s.frm:Int)≤k∧k<(s.frm:Int)+s.kinds.length then s.kd (k - s.frm).toNat else -1
def D9(fb:Nat→Sec)(i:Nat)(b:Sec):Nat→Sec:=fun j=>if j=i then b else fb j
def CH(x:Int):List Int→Option Nat
 |[]=>none
 |y::l=>if x=y then some 0 else(CH x l).map (·+1)
def PD.Hf(s:PD)(i:Nat):PD:={s with kinds:=s.kinds.set i 1,fb:=D9 s.fb i IA}
def PD.take(s:PD):Option (Nat×PD):=(CH 0 s.kinds).map fun i=>(s.frm+i,s.Hf i)
def PD.put(s:PD)(k:Int)(b:Sec):PD×Int:=if s.kind k=1 then(if b.length=256 then({s with fb:=D9 s.fb (k - s.frm).toNat b},0) else(s,2)) else(s,240)
def PD.get(s:PD)(k:Int):PD×Option Sec:=
 if s.kind k=1 then({s with tc:=s.tc+1},some (s.fb (k - s.frm).toNat)) else if s.kind k=2 then({s with tc:=s.tc+1},some (s.syn.getD k.toNat [])) else(s,none)
def PD.drop(s:PD)(k:Int):PD×Int:=
 if s.kind k=1 then({s with kinds:=s.kinds.set (k - s.frm).toNat 0},0) else if s.kind k=2 then({s with kinds:=s.kinds.set (k - s.frm).toNat 3},0) else(s,240)
def PD.writes(s:PD):Nat→List (Nat×Sec)
 |0=>[]
 |n+1=>s.writes n++(if s.kd n=1 then [(s.frm+n,s.fb n)] else [])
def PD.flush(s:PD):PD:={s with syn:=synced (s.writes s.kinds.length) s.syn}
def Fk(x:Int):Int:=if x=3 then 0 else if x=1 then 2 else x
def PD.done(s:PD):PD:={s with kinds:=s.kinds.map Fk,round:=s.round+1}
structure MD where
 kinds:List Int
 fb:Nat→Sec
 round:Nat
def PD.mark(s:PD):MD:=⟨s.kinds,s.fb,s.round⟩
def PD.back(s:PD)(m:MD):PD:={s with kinds:=m.kinds,fb:=m.fb}
def PD.free(s:PD):Nat:=s.kinds.countP (·==0)
def US(frm:Nat):List Int→Nat→List Int
 |[],_=>[]
 |x::l,i=>if x=2 then((frm+i:Nat):Int)::US frm l (i+1) else US frm l (i+1)
def PD.Cn(s:PD):List Int:=US s.frm s.kinds 0
structure Good (s:PD):Prop where
 one:1≤s.kinds.length
 len:s.kinds.length≤8192
 inn:s.frm+s.kinds.length≤s.syn.length
 syn:s.syn.length≤8192
 kd:∀i,0≤s.kd i∧s.kd i≤3
structure CZ (s:PD) (c:CD):Prop where
 inv:Inv (fun k=>s.syn.getD k []) s.syn.length c
 zer:∀k,Cr c k=0
 hold:∀k,findF k c.fr≠none→s.frm≤k∧k<s.frm+s.kinds.length∧2≤s.kd (k - s.frm)
def FQ{x:Int}:∀{l:List Int}{i:Nat},CH x l=some i→∃h:i<l.length,l[i]=x
 |y::l,i,h=>by
  rw[CH] at h;split at h
  ·rename_i e;cases h;exact⟨by simp,by simp[e]⟩
  ·cases q:CH x l with
   |none=>rw[q] at h;cases h
   |some j=>
    rw[q] at h;cases h
    obtain⟨h1,h2⟩:=FQ q
    exact⟨by simpa using h1,by simpa using h2⟩
def Sp{x:Int}{l:List Int}{i:Nat}(hi:i<l.length):CH x (l.drop i)=if x=l[i] then some 0 else(CH x (l.drop (i+1))).map (·+1):=by
 rw[Acu hi];rfl
def K4{s:PD}{i:Nat}(h:i<s.kinds.length):s.kd i=s.kinds[i]:=by rw[PD.kd,Acg,Acf h];rfl
def Dg{l:List Int}{i j:Nat}{x:Int}(hi:i<l.length):(l.set i x).getD j 0=if j=i then x else l.getD j 0:=by
 simp only[Acg,List.getElem?_set];by_cases e:i=j
 ·subst e;simp[hi]
 ·rw[if_neg e,if_neg (fun h=>e h.symm)]
def Cu{s:PD}{k:Int}{x:Int}(h:s.kind k=x)(hx:0≤x):∃i,i<s.kinds.length∧k=((s.frm+i:Nat):Int)∧s.kd i=x∧(k - s.frm).toNat=i:=by
 unfold PD.kind at h;split at h
 ·rename_i e;exact⟨(k - s.frm).toNat,by omega,by omega,h,Z⟩
 ·omega
def LU{s:PD}{i:Nat}(hi:i<s.kinds.length):s.kind ((s.frm+i:Nat):Int)=s.kd i:=by
 unfold PD.kind;rw[if_pos (by omega)];congr 1;omega
def Good.kds{s}(h:Good s){ks:List Int}{i:Nat}{x:Int}(e:ks=s.kinds.set i x)(h0:0≤x)(h3:x≤3):Good {s with kinds:=ks}:=by
 subst e;refine⟨by simpa using h.one,by simpa using h.len,by simpa using h.inn,h.syn,fun j=>?_⟩
 simp only[PD.kd];by_cases hi:i<s.kinds.length
 ·rw[Dg hi];split
  ·omega
  ·exact h.kd j
 ·rw[Afk (by omega)];exact h.kd j
def Og(l m:List Int):Prop:=l.length=m.length∧∀i,2≤l.getD i 0↔2≤m.getD i 0
def Og.refl(l:List Int):Og l l:=⟨Z,fun _=>Iff.rfl⟩
def Og.trans{a b c:List Int}(h:Og a b)(k:Og b c):Og a c:=⟨h.1.trans k.1,fun i=>(h.2 i).trans (k.2 i)⟩
def Og.symm{a b:List Int}(h:Og a b):Og b a:=⟨h.1.symm,fun i=>(h.2 i).symm⟩
def Og.set{l:List Int}{i:Nat}{x:Int}(h:2≤x↔2≤l.getD i 0):Og (l.set i x) l:=by
 refine⟨by simp,fun j=>?_⟩
 by_cases hi:i<l.length
 ·rw[Dg hi];by_cases e:j=i
  ·subst e;rw[if_pos Z];exact h
  ·rw[if_neg e]
 ·rw[Afk (by omega)]
def CZ.og{s}{c:CD}(h:CZ s c){ks:List Int}(ho:Og ks s.kinds):CZ {s with kinds:=ks} c:=
 ⟨h.inv,h.zer,fun k hk=>by
  obtain⟨h1,h2,h3⟩:=h.hold k hk;exact⟨h1,by rw[ho.1];exact h2,(ho.2 _).2 h3⟩⟩
def UG{b b':Sec}{c c':CD}{k:Nat}(hf:∀i∈c.free,i<c.fr.length)(hh:c.hand<c.fr.length)(h:EB b c k=(c',some b')):∃m i f,c'.fr=m.set i f∧Ef m c.fr∧i<m.length∧f.sec=k:=by
 unfold EB at h;cases hq:findF k c.fr with
 |some i=>
  rw[hq] at h
  cases h
  obtain⟨h1,h2,h3⟩:=DT hq
  exact⟨c.fr,i,_,Z,Ef.refl _,h1,h3⟩
 |none=>
  rw[hq] at h
  simp only at h
  cases hr:EH c with
  |mk c1 o=>
  rw[hr] at h
  cases o with
  |none=>cases h
  |some i=>
   cases h
   have hi:=Ti hh hf hr
   refine⟨c1.fr,i,_,Z,?_,hi,Z⟩
   unfold EH at hr
   split at hr
   ·cases hr;exact Ef.refl _
   ·split at hr
    ·cases hr
    ·cases hr;exact Ju _ _ _
def Z4{cur:Nat→Sec}{N:Nat}{c c':CD}{k:Nat}{b b':Sec}(h:Inv cur N c)(hg:EB b c k=(c',some b')){s:Nat}(hs:s≠k)(hn:findF s c.fr=none):findF s c'.fr=none:=by
 obtain⟨m,i,f,e1,e2,e3,e4⟩:=UG h.fl h.hd hg;cases q:findF s c'.fr with
 |none=>rfl
 |some j=>
  obtain⟨g1,g2,g3⟩:=DT q
  simp only[CD.at,e1] at g1 g2 g3
  rw[at_set e3] at g2 g3
  by_cases hj:j=i
  ·rw[if_pos hj] at g3;exact absurd (g3.symm.trans e4) hs
  ·rw[if_neg hj] at g2 g3
   rw[(e2.2 j).1] at g2;rw[(e2.2 j).2.1] at g3
   exact absurd g3 (Gg hn (by rw[←e2.1];simpa using g1) g2)
def CZ.get{s}{c:CD}(h:CZ s c){k:Nat}(hk:k<s.syn.length)(h1:s.frm≤k)(h2:k<s.frm+s.kinds.length)(h3:2≤s.kd (k - s.frm)):
  ∃c',EB (s.syn.getD k []) c k=(c',some (s.syn.getD k []))∧Kj c 4611686018427387904∧Kj c' 4611686018427387904∧(CJ c' k).2=0∧CZ s (CJ c' k).1:=by
 have hpb:∀{c:CD}{n:Nat},Inv (fun k=>s.syn.getD k []) s.syn.length c→(∀s,Cr c s≤n)→n≤1000→Kj c 4611686018427387904:=fun hi hz hn f hf=>by
  have:=Zo hi hz f hf;omega
 cases hr:EB (s.syn.getD k []) c k with
 |mk c' o=>
 cases o with
 |none=>
  obtain⟨-,g2,g3,g4⟩:=get_none (cur:=fun k=>s.syn.getD k []) h.inv hr
  exfalso
  have h0:=h.inv.n1
  have hheld:(c.at 0).held=true:=by
   cases q:(c.at 0).held with
   |true=>rfl
   |false=>have:=(h.inv.fh 0 h0).1 q;rw[g3] at this;cases this
  have e:=Q5 h.inv h0 hheld
  rw[h.zer] at e
  have:=Acv.1 g4 _ (Acz h0)
  rw[show c.at 0=c.fr[0] from Cp h0] at e
  simp[←e] at this
 |some b'=>
  obtain⟨g1,rfl,g3,g4,g5,g6,g7⟩:=get_some (cur:=fun k=>s.syn.getD k []) h.inv hk hr
  obtain⟨q1,q2,q3,q4,q5,q6,q7,q8⟩:=VJ g1 (k:=k) (by rw[g3,if_pos Z];omega)
  refine⟨c',Z,hpb h.inv (n:=0) (fun s=>by rw[h.zer];omega) (by omega),hpb g1 (n:=1) (fun s=>by rw[g3,h.zer];split<;>omega) (by omega),q2,q1,fun s=>?_,fun t ht=>?_⟩
  ·rw[q3,g3,h.zer];split<;>omega
  ·rw[q8] at ht
   by_cases e:t=k
   ·subst e;exact⟨h1,h2,h3⟩
   ·exact h.hold t (fun z=>ht (Z4 h.inv hr e z))
end Go.Gk.Pgr
namespace Go.Gk.Pgr
open Go Go.Gk Go.Gk.Dev Go.Gk.Cch
def get_put{ν}{k k':Int}{v:ν}{c:Nat}:∀{ms:List (Int×ν×Nat)},CV k' (FL k v c ms)=if k'=k then some v else CV k' ms
 |[]=>by simp[FL,CV]
 |p::ms=>by
  rw[FL];by_cases e:k=p.1
  ·rw[if_pos e,CV,CV];by_cases q:k'=k
   ·rw[if_pos (q.trans e),if_pos q]
   ·rw[if_neg (fun z=>q (z.trans e.symm)),if_neg q,if_neg (fun z=>q (z.trans e.symm))]
  ·rw[if_neg e,CV,get_put,CV];by_cases q:k'=p.1
   ·rw[if_pos q,if_pos q,if_neg (fun z=>e (z.symm.trans q))]
   ·rw[if_neg q,if_neg q]
def TF{ν}{k k':Int}(h:k'≠k):∀{ms:List (Int×ν×Nat)},CV k' (IB k ms)=CV k' ms
 |[]=>rfl
 |p::ms=>by
  rw[IB];by_cases e:k=p.1
  ·rw[if_pos e,CV,if_neg (fun z=>h (z.trans e.symm))]
  ·rw[if_neg e,CV,TF h,CV]
def PD.AR(s:PD):PD×Int×Int:=match CH 0 s.kinds with|some i=>(s.Hf i,((s.frm+i:Nat):Int),0)|none=>(s,0,190)
def CZ.to{s s'}{c:CD}(h:CZ s c)(h1:s'.frm=s.frm)(h2:s'.syn=s.syn)(ho:Og s'.kinds s.kinds):CZ s' c:=
 ⟨by rw[h2];exact h.inv,h.zer,fun k hk=>by
  obtain⟨q1,q2,q3⟩:=h.hold k hk;rw[h1,ho.1];exact⟨q1,q2,(ho.2 _).2 q3⟩⟩
def Good.to{s s'}(h:Good s)(h1:s'.frm=s.frm)(h2:s'.syn.length=s.syn.length){i:Nat}{x:Int}(e:s'.kinds=s.kinds.set i x)(h0:0≤x)(h3:x≤3):Good s':=by
 have g:=h.kds (ks:=s'.kinds) e h0 h3;exact⟨g.one,g.len,by rw[h1,h2];exact g.inn,by rw[h2];exact g.syn,g.kd⟩
def Good.to'{s s'}(h:Good s)(h1:s'.frm=s.frm)(h2:s'.syn.length=s.syn.length)(e:s'.kinds=s.kinds):Good s':=
 ⟨by rw[e];exact h.one,by rw[e];exact h.len,by rw[h1,h2,e];exact h.inn,by rw[h2];exact h.syn,fun i=>by rw[PD.kd,e];exact h.kd i⟩
end Go.Gk.Pgr
namespace Go.Gk.Pgr
open Go Go.Gk Go.Gk.Dev Go.Gk.Cch
def Kw{k:Nat}:∀{l:List (Nat×Sec)}{s:List Sec},(∀w∈l,w.1≠k)→(synced l s).getD k []=s.getD k []
 |[],_,_=>rfl
 |w::l,s,h=>by
  have e:synced (w::l) s=synced l (s.set w.1 w.2):=by simp[synced]
  rw[e,Kw (fun w' hw=>h w' (Aco _ hw)),Acg,List.getElem?_set,if_neg (h w (Acm ..)),←Acg]
def JC{s:PD}:∀{n:Nat}{w:Nat×Sec},w∈s.writes n→∃i,i<n∧s.kd i=1∧w=(s.frm+i,s.fb i)
 |n+1,w,h=>by
  rw[PD.writes,List.mem_append] at h;rcases h with h|h
  ·obtain⟨i,h1,h2⟩:=JC h;exact⟨i,by omega,h2⟩
  ·split at h
   ·rename_i e;rw[Adh] at h;exact⟨n,by omega,e,h⟩
   ·cases h
def Inv.Aan{cur cur':Nat→Sec}{N:Nat}{c:CD}(h:Inv cur N c)(he:∀k,findF k c.fr≠none→cur' k=cur k):Inv cur' N c:=
 {h with vl:=fun i hi hh=>⟨(h.vl i hi hh).1,by rw[(h.vl i hi hh).2,he _ (by rw[h.find hi hh Z];simp)]⟩}
def CZ.flush{s:PD}{c:CD}(h:CZ s c):CZ s.flush c:=by
 refine⟨?_,h.zer,h.hold⟩
 have hl:s.flush.syn.length=s.syn.length:=FI _ _;rw[hl];refine Inv.Aan h.inv (fun k hk=>?_);obtain⟨h1,h2,h3⟩:=h.hold k hk;refine Kw (fun w hw e=>?_);obtain⟨i,h4,h5,rfl⟩:=JC hw;simp only at e;rw[←e,show s.frm+i - s.frm=i by omega] at h3;omega
def Good.flush{s}(h:Good s):Good s.flush:=h.to' Z (FI _ _) Z
def Mid(i:Nat)(l m:List Int):Prop:=m.length=l.length∧∀j,m.getD j 0=if j<i then Fk (l.getD j 0) else l.getD j 0
def Mid.zero(l:List Int):Mid 0 l l:=⟨Z,fun j=>by rw[if_neg (by omega)]⟩
def Mid.next{i:Nat}{l m:List Int}(h:Mid i l m)(hi:i<l.length):Mid (i+1) l (m.set i (Fk (l.getD i 0))):=by
 refine⟨by simpa using h.1,fun j=>?_⟩
 rw[Dg (by rw[h.1];exact hi),h.2];by_cases e:j=i
 ·subst e;rw[if_pos Z,if_pos (by omega)]
 ·rw[if_neg e];by_cases q:j<i
  ·rw[if_pos q,if_pos (by omega)]
  ·rw[if_neg q,if_neg (by omega)]
def Mid.same{i:Nat}{l m:List Int}(h:Mid i l m)(hi:i<l.length)(hs:Fk (l.getD i 0)=l.getD i 0):Mid (i+1) l m:=by
 refine⟨h.1,fun j=>?_⟩
 rw[h.2];by_cases e:j=i
 ·subst e;rw[if_neg (by omega),if_pos (by omega),hs]
 ·by_cases q:j<i
  ·rw[if_pos q,if_pos (by omega)]
  ·rw[if_neg q,if_neg (by omega)]
def YD{l m:List Int}(h:l.length=m.length)(he:∀j,l.getD j 0=m.getD j 0):l=m:=by
 refine Ahi h (fun j h1 h2=>?_);have:=he j;rwa [Acg,Acg,Acf h1,Acf h2] at this
def getD_map{l:List Int}{j:Nat}:(l.map Fk).getD j 0=Fk (l.getD j 0):=by
 simp only[Acg,Afc];cases l[j]?<;>rfl
def Mid.done{i:Nat}{l m:List Int}(h:Mid i l m)(hi:l.length≤i):m=l.map Fk:=by
 refine YD (by simpa using h.1) (fun j=>?_);rw[h.2,getD_map];by_cases e:j<i
 ·rw[if_pos e]
 ·rw[if_neg e,Acg,Adx (by omega)];rfl
end Go.Gk.Pgr
namespace Go.Gk.Pgr
end Go.Gk.Pgr
namespace Go.Gk.Pgr
open Go Go.Gk Go.Gk.Dev Go.Gk.Cch
end Go.Gk.Pgr
namespace Go.Gk.Pgr
open Go Go.Gk Go.Gk.Dev Go.Gk.Cch
def Dc(n:Nat)(l:List Nat):List Int:=l.foldl (fun ks k=>ks.set k 2) (Acq n 0)
def Ug{n k:Nat}{l:List Nat}:Dc n (l++[k])=(Dc n l).set k 2:=by simp[Dc]
def PY{l:List Nat}:∀{ks:List Int},(l.foldl (fun ks k=>ks.set k 2) ks).length=ks.length:=by
 induction l with
 |nil=>intro ks;rfl
 |cons x l ih=>intro ks;rw[Ahn,ih,Aev]
def Gc{n:Nat}{l:List Nat}:(Dc n l).length=n:=by rw[Dc,PY,Adn]
def Ru{l:List Nat}{j:Nat}:∀{ks:List Int},j<ks.length→(l.foldl (fun ks k=>ks.set k 2) ks).getD j 0=if j∈l then 2 else ks.getD j 0:=by
 induction l with
 |nil=>intro ks _;simp
 |cons x l ih=>
  intro ks hj
  rw[Ahn,ih (by rw[Aev];exact hj)]
  by_cases h:j∈l
  ·rw[if_pos h,if_pos (Aco _ h)]
  ·rw[if_neg h]
   by_cases e:j=x
   ·subst e;rw[Dg hj,if_pos Z,if_pos (Acm ..)]
   ·rw[if_neg (by simp[e,h])]
    by_cases hx:x<ks.length
    ·rw[Dg hx,if_neg e]
    ·rw[Afk (by omega)]
def Ja{n j:Nat}{l:List Nat}:(Dc n l).getD j 0=if j<n∧j∈l then 2 else 0:=by
 by_cases hj:j<n
 ·rw[Dc,Ru (by rw[Adn];exact hj)];by_cases h:j∈l
  ·rw[if_pos h,if_pos ⟨hj,h⟩]
  ·rw[if_neg h,if_neg (fun q=>h q.2),Acg,List.getElem?_replicate];split<;>rfl
 ·rw[if_neg (fun q=>hj q.1),Acg,Adx (by rw[Gc];omega)];rfl
def Ns{k m:Nat}:findF k (Acq m fz)=none:=by
 cases h:findF k (Acq m fz) with
 |none=>rfl
 |some i=>
  obtain⟨h1,h2, -⟩:=GD h
  rw[List.getElem_replicate] at h2
  cases h2
def CZ.new{s}{m:Nat}(h1:1≤m)(h2:m≤64):CZ s ⟨Acq m fz,Adg m,0,0,0⟩:=
 ⟨Zh _ _ m h1 h2,fun k=>by rw[Cr,Ns],fun k hk=>absurd Ns hk⟩
def Good.new{frm n:Nat}{l:List Nat}{fb:Nat→Sec}{syn:List Sec}(h1:1≤n)(h2:frm+n≤syn.length)(h3:syn.length≤8192):Good ⟨frm,Dc n l,fb,syn,0,0⟩:=
 ⟨by rw[Gc];exact h1,by rw[Gc];omega,by rw[Gc];exact h2,h3,fun i=>by
  show 0≤(Dc n l).getD i 0∧(Dc n l).getD i 0≤3;rw[Ja];split<;>decide⟩
end Go.Gk.Pgr
end
section
namespace Go.Gk.Dev
open Go Go.Gk
attribute [local irreducible] gwp gws xwp
def D8:G1:=(.mk 24 [] (.seq (.g (rG (ol 4 1<|o1 5 (.nilc 4)<|oj 6 1 5<|ol 7 6<|oL 8 7<|ob 9 .sub 8 z1<|om 3 9 .done))) (.block 0 (.loop (.seq (.g (sR (om 10 3<|ob 11 .geq 10 z0 .done) (.cond 11 .skip (.exit 0)))) (.seq (.block 1 (.seq (.yl (om 14 0<|ol 15 1<|o1 16 (.nilc 15)<|oj 17 1 16<|ol 18 17<|om 19 3<|oI 20 257 18 19<|o1 21 (.ld (some 257) 20) .done) (some 22) 14 [21] (o1 23 (.un .not 22) .done)) (.g (.cond 23 .ret .skip)))) (.g (rG (om 12 3<|ob 13 .sub 12 z1<|om 3 13 .done)))))))))
def UX{P f}(hd:Fm true false P f=some D8){D:E0}{v LD}{bb l:Nat}{rc:Loop}(J:Nat→Ab→List Ab→Prop)(Jf:Loop→Ab→List Ab→Prop){d E}
  (hD:Dv d D v LD) (hb:DC d bb 0 v) (h0:J D.opn.length d E)
  (hround:∀i (hi:i<D.opn.length) d1 E1,Le d d1→J (i+1) d1 E1→IM P l [.agg (Value.int .i64 D.opn[i].1::D.opn[i].2.map As).toArray] d1 (sg l (.loop rc)::E1)
   (fun u d' L'=>(u=.bool true∧∃E',L'=sg l (.loop rc)::E'∧J i d' E')∨(u=.bool false∧∃rc' E',L'=sg l (.loop rc')::E'∧Jf rc' d' E'))):
  AB P f [.func (.yield l) #[] #[],pZ bb] d (LD++(sg l (.loop rc)::E)) (Ret fun _ d' L'=>∃E' rc',L'=LD++(sg l (.loop rc')::E')∧((rc'=rc∧J 0 d' E')∨Jf rc' d' E')):=by
 obtain⟨b,T,vs,vo,r,hs,ho,rfl,rfl,h3,h4,h5,h6⟩:=hD
 have hlen:=h4.Bt
 obtain⟨ao,co,rfl⟩:=h4.val
 refine EU hd (Aca Z) ?_
 show xwp P _ _ _ _ _
 (apply BD;apply x_g;apply AI;apply Ai;rfl;exact BH (by assumption);apply AJ;rfl;apply Aj;rfl;apply Ai;rfl;exact Aq 0 Z Z;apply AO;rfl;apply CP;rfl;rfl;omega;omega;apply Ac;rfl;apply Aa;apply Gd)
 refine Ow (α:=Nat) (fun i=>[(0,.func (.yield l) #[] #[]),(1,pZ bb),(3,vZ ((i:Int) - 1))])
  (fun i d' L'=>Le d d'∧i≤D.opn.length∧∃E',L'=[bx b T [vs,.slice ao D.opn.length co,vZ r,vZ 0],hs,ho]++(sg l (.loop rc)::E')∧J i d' E') (fun i=>i) D.opn.length
  ⟨Z,Z,Z,trivial⟩ ⟨Le.refl d,Acj _,E,Z,h0⟩ ?_
 rintro i ρ d1 L1 ⟨hl1,hi,E1,rfl,hJ⟩
 replace hb:=hb.mono hl1
 cases i with
 |zero=>
  (apply BD;apply x_g;apply Ag;apply AI;apply Ac;rfl;apply Ds;rfl;rfl;apply Aa;refine Aw Z (by omega) ?_;apply Ba)
  exact Dr [] trivial (Acd _) ⟨E1,rc,Z,.inl ⟨Z,hJ⟩⟩
 |succ i=>
  obtain⟨bo,To,lo,co',cs,e1,e2,hcl,hcs,hle,hr, -⟩:=An.at (by omega) h4 (show i<D.opn.length from hi)
  cases e1;subst e2
  obtain⟨rfl,hbl⟩:=hr
  (apply BD;apply x_g;apply Ag;apply AI;apply Ac;rfl;apply Ds;rfl;rfl;apply Aa;refine AF Z (by omega) ?_;apply Al;apply BD;apply Gd;apply BD;apply X9;apply Gv;rfl;apply Ai;rfl;exact BH (by assumption);apply AJ;rfl;apply Aj;rfl;apply Ai;rfl;exact Aq 0 Z Z;apply Ac;rfl)
  refine CK i Z Z (by omega) hi ?_
  refine NL _ 2 Z Z hcl hcs ?_
  refine Gi ⟨d1,(sg l (.loop rc)::E1)++[bx b T [vs,.slice (some ⟨bo,0,none⟩) D.opn.length co,vZ r,vZ 0],hs,bx bo To lo],Vs.perm Acn,?_⟩
  refine OS _ _ Z Z Z (hround i hi d1 E1 hl1 hJ) (fun u d2 L2 hl2 hr2=>?_)
  rcases hr2 with ⟨rfl,E2,rfl,hJ2⟩|⟨rfl,rc2,E2,rfl,hJ2⟩
  ·refine BA d2 ([bx b T [vs,.slice (some ⟨bo,0,none⟩) D.opn.length co,vZ r,vZ 0],hs,bx bo To lo]++(sg l (.loop rc)::E2)) (Vs.perm Acn) ?_
   (refine Bd Z<|Aa ?_;apply x_g;refine AS Z<|Al ?_;apply x_g;refine AI<|Ac Z<|CP Z Z (by omega) (by omega)<|Ac Z<|Aa ?_)
   exact⟨i,by omega,⟨Z,Z,int_eq (by omega),trivial⟩,hl1.trans hl2,by omega,E2,Z,hJ2⟩
  ·refine BA d2 ([bx b T [vs,.slice (some ⟨bo,0,none⟩) D.opn.length co,vZ r,vZ 0],hs,bx bo To lo]++(sg l (.loop rc2)::E2)) (Vs.perm Acn) ?_
   (refine Bd Z<|Aa ?_;apply x_g;refine A8 Z<|Ao ?_)
   exact Dr [] trivial (Acd _) ⟨E2,rc2,Z,.inr hJ2⟩
def Ez(a0:Nat):A3:=⟨4,[(.tmp 2)],(sR (o1 1 (.box 0)<|o1 2 (.mv (.const .nilFunc)) .done) (sR (o1 3 (.mkf (.func a0) [] [1])<|om 2 3 .done) .ret))⟩
def Vv{P f f1}(hd:dec P f=some (Ez f1)){d}{b:Nat}:AB P f [pZ b] d [] (Ret fun r d' L'=>∃bb,r=.func (.func f1) #[] #[pZ bb]∧DC d' bb 0 (pZ b)∧L'=[]):=by
 refine AK hd (Aca Z) ?_;show gwp P _ _ _ _ _;refine Ad<|GJ Z (fun bb T=>?_);refine AQ<|Aa<|Ad<|Ub<|Gv Z<|Aa<|Ao<|Abj Z (fun d' _ hk=>⟨bb,Z,?_,Z⟩);exact(K0 (hk _ (Acm ..))).at (i:=0) Z
def QL(P:Program)(f:FuncId):Prop:=∃f1,dec P f=some (Ez f1)∧Fm true false P f1=some D8
def ZE{P f f1}(hd:dec P f=some (Ez f1))(h:Fm true false P f1=some D8):QL P f:=⟨f1,hd,h⟩
def OG(P:Program)(f:FuncId):Prop:=∀{d}{D:E0}{v L}{k:Nat},Dv d D v L→k<D.syn.length→
 AB P f [v,vZ k] d L (Ret fun r d' L'=>∃u,r=.tuple #[u,vZ 0]∧AH d' u (D.cur k)∧Dv d' D v L')
def U3{k:Nat}{l:List (Nat×Sec)}{i:Nat}(hi:i<l.length):FF k (l.drop i)=match FF k (l.drop (i+1)) with|some b=>some b|none=>if l[i].1=k then some l[i].2 else none:=by
 rw[Acu hi];rfl
def PX{k:Nat}{b:Sec}:∀{l:List (Nat×Sec)},FF k l=some b→∃w∈l,w.2=b
 |w::l,h=>by
  rw[FF] at h;cases hw:FF k l with
  |some q=>rw[hw] at h;cases h;obtain⟨x,hx,e⟩:=PX hw;exact⟨x,Aco _ hx,e⟩
  |none=>
   rw[hw] at h
   simp only at h
   split at h
   ·cases h;exact⟨w,Acm ..,Z⟩
   ·cases h
def JT{k:Nat}{b:Sec}:∀{l:List (Nat×Sec)}{i:Nat},FF k (l.drop i)=some b→FF k l=some b
 |_,0,h=>h
 |[],i+1,h=>h
 |w::l,i+1,h=>by
  rw[List.drop_succ_cons] at h;rw[FF,JT h]
def Jb(a0 a1:Nat):G1:=(.mk 41 [(.tmp 4),(.tmp 5)] (.seq (.g (rG (o1 3 (.box 1)<|o1 4 (.mv nS)<|o1 5 (.mv z0) .done))) (.seq (.g (sR (om 9 0<|ol 10 3<|oc 11 a0 [9,10,(kZ 256)]<|om 6 11 .done) (sR (om 12 6<|ob 13 .neq 12 z0 .done) (.cond 13 (sR (om 14 6<|o1 4 (.mv nS)<|om 5 14 .done) .ret) .skip)))) (.seq (.g (rG (om 15 0<|o1 16 (.nilc 15)<|oj 17 2 16<|ol 18 17<|ob 19 .add 18 z1<|o1 20 (.nilc 15)<|oj 21 2 20<|o0 (.st 1 21 19) .done))) (.seq (.g (.reg true (pm 22 0<|p1 23 (.nilc 22)<|p1 24 (.fld 0 23)<|pl 25 24<|pl 26 3<|p1 27 (.idx 256 25 26)<|p1 28 (.ld (some 256) 27)<|o1 7 (.alo (.agg DS.toArray)) (.bar (o0 (.st 256 7 28) .done))))) (.seq (.seq (.g (rG (om 29 0<|oc 30 a1 [29] .done))) (.block 0 (.rf 30 [31] (rG (o1 8 (.alo (.agg (Value.int .i64 0::DS).toArray))<|o0 (.st 257 8 31) .done)) (.block 1 (sR (oj 32 0 8<|ol 33 32<|ol 34 3<|ob 35 .eql 33 34 .done) (.cond 35 (sR (oj 36 1 8<|o1 37 (.ld (some 256) 36)<|o0 (.st 256 7 37) .done) (.exit 0)) .skip)))))) (.g (sR (o1 38 (.bsl 0 1 [(.int .u8 0)] [])<|o1 39 (.sla 256 1 7 none none none)<|o1 40 (.app 1 1 [(.int .u8 0)] 38 39)<|om 4 40<|o1 5 (.mv z0) .done) .ret))))))))
def Xn{P f f1 f2}(hd:Fm false false P f=some (Jb f1 f2))(h1:Nl P f1)(h2:QL P f2):OG P f:=by
 obtain⟨f3,h2,h3⟩:=h2;intro d D v L k h hk;have h0:=h;obtain⟨b,T,vs,vo,r,hs,ho,rfl,rfl,g3,g4,g5,g6⟩:=h;obtain⟨bs,Ts,ls,cs',us,rfl,rfl,hul,hus,hsle,hrs, -⟩:=An.at (by omega) g3 hk;obtain⟨rfl,hsl⟩:=hrs;refine EU hd (Aca Z) ?_;show xwp P _ _ _ _ _;(apply BD;apply x_g;apply AI);refine GJ Z (fun kb Tk=>?_);(refine Ak Z<|Ac Z<|Aa ?_;apply BD;apply x_g;refine Ad<|Ah Z<|Ai Z (Aq 0 Z Z) ?_);refine BA d ([bx b T [.slice (some ⟨bs,0,none⟩) D.syn.length cs',vo,vZ r,vZ 0],bx bs Ts ls,ho]++[bx kb Tk [vZ k]]) (Vs.pick [1,2,3,0] Z) ?_;refine Di (A:=[_,_,_]) (B:=[_]) Z Z (h1 (n:=256) h0 hk Z) ?_;(refine Ac Z<|Aa<|Ad<|Ac Z<|AW Z Z<|Aa<|Aw Z (by omega)<|Al ?_;apply BD;apply x_g;refine AI<|Ah Z<|AJ Z<|Aj Z<|Ai Z (Aq 0 Z Z) ?_);refine AaJ Z Z (fun r2 _=>?_);refine AJ Z<|Aj Z<|Bg 0 [.slice (some ⟨bs,0,none⟩) D.syn.length cs',vo,vZ r2,vZ 0] Z Z Z Z (Aca Z) Z Z ?_;have hD:Dv d D (pZ b) [bx b T [.slice (some ⟨bs,0,none⟩) D.syn.length cs',vo,vZ r2,vZ 0],bx bs Ts ls,ho]:=⟨b,T,_,vo,r2,_,ho,Z,Z,g3,g4,g5,g6⟩
 (apply Aa;apply BD;apply x_g;refine C1<|Ah Z<|AJ Z<|Aj Z<|Ai Z (Aq 0 Z Z)<|Ai Z (Aq 3 Z Z)<|CK _ Z Z Z (by omega) ?_);refine NL _ 1 Z Z hul hus ?_;(refine Da (fun _ _=>Du ?_));rename_i ob Tob;refine DQ 4 Z Z Z hul EA (CS _) ?_;(apply Aa);refine Abt (fun ρ d2 L2=>Le d d2∧Bk ρ [(7,pZ ob)]∧L2=[bx b T [.slice (some ⟨bs,0,none⟩) D.syn.length cs',vo,vZ r2,vZ 0],bx bs Ts ls,ho,bx kb Tk [vZ k],bx ob Tob ((D.cur k).map As)]) ?_ ?_
 ·(apply BD;apply x_g;apply AI;apply Ah;rfl);refine EP (A:=[]) Z Z (Vv h2) (fun u d2 L2 hl2 ⟨bb,e1,e2,e3⟩=>?_);subst e1;subst e3;(apply Aa;apply Gd);refine Aa7 Z (fun l rc hrec hst hpd=>?_);refine AB.reorder (L1:=[bx b T [.slice (some ⟨bs,0,none⟩) D.syn.length cs',vo,vZ r2,vZ 0],bx bs Ts ls,ho]++(sg l (.loop rc)::[bx kb Tk [vZ k],bx ob Tob (D.syn[k].map As)])) ?_ (AB.EF
   (UX h3 (rc:=rc) (l:=l) (fun i d3 E=>E=[bx kb Tk [vZ k],bx ob Tob (D.syn[k].map As)]∧FF k (D.opn.drop i)=none)
    (fun rc' d3 E=>rc'={rc with state:=.done,pending:=some (.exit 0)}∧E=[bx kb Tk [vZ k],bx ob Tob ((D.cur k).map As)]) (hD.mono hl2) e2 ⟨Z,by rw[Afb];rfl⟩ ?_) ?_)
  ·exact(Acn (l₁:=[_,_,_]) (l₂:=[_])).append_right [_,_]|>.symm
  ·rintro i hi d3 E3 hl3 ⟨rfl,hno⟩;refine K5 hrec hst Z ?_;have hbl:D.opn[i].2.length=256:=by
    obtain⟨bo,To,lo,co',cs,e1,e2,hcl,hcs,hle,hr, -⟩:=An.at (by omega) g4 hi;exact hr.2
   have hno':=U3 (k:=k) hi;rw[hno] at hno';by_cases e:D.opn[i].1=k
   ·(refine AI<|Da (fun _ _=>?_));refine DQ 0 Z Z Z (by rw[Acx,Adq,hbl]) (by rw[Acx,EA]) (by rw[List.all_cons,CS];rfl) ?_;refine Aa<|Az<|Ad<|Aj Z<|Ai Z (Aq 0 Z Z)<|Ai Z (Aq 1 Z Z)<|AT Z Z<|Aa<|AF Z (by omega)<|Ad<|Aj Z<|NL (D.opn[i].2.map As) 0 Z Z (by rw[Adq];exact hbl) (fun j u hu=>by rw[Nat.add_comm];simpa using hu) ?_;skip;refine DQ 2 Z Z Z (by rw[Adq];exact hbl) (by rw[Adq];exact hsl) (CS _) ?_;refine Gi ⟨_,[_,_],Vs.drop (Ade _ _),?_⟩;(apply Ba);refine Or.inr ⟨Z,_,_,Z,Z,?_⟩;rw[if_pos e] at hno';rw[E0.cur,JT hno',Aem]
   ·(refine AI<|Da (fun _ _=>?_));refine DQ 0 Z Z Z (by rw[Acx,Adq,hbl]) (by rw[Acx,EA]) (by rw[List.all_cons,CS];rfl) ?_;refine Aa<|Az<|Ad<|Aj Z<|Ai Z (Aq 0 Z Z)<|Ai Z (Aq 1 Z Z)<|BA d3 [_,_] (Vs.drop (Ade _ _)) ?_;(refine AT Z Z<|Aa<|Aw Z (by omega)<|Al ?_);rw[if_neg e] at hno';exact Or.inl ⟨Z,_,by rw[S4 hst hpd],Z,hno'⟩
  ·rintro u d3 L3 hl3 ⟨E',rc',rfl,h⟩;refine⟨d3,sg l (.loop rc')::([bx b T [.slice (some ⟨bs,0,none⟩) D.syn.length cs',vo,vZ r2,vZ 0],bx bs Ts ls,ho]++E'),Vs.perm ((Acn (l₁:=[_,_,_]) (l₂:=[_])).append_right E'|>fun p=>by simpa using p),rc',_,Z,?_⟩
   rcases h with ⟨rfl,rfl,h⟩|⟨rfl,rfl⟩
   ·refine⟨(by rw[hst];intro q;cases q),?_⟩
    rw[hpd];refine⟨hl2.trans hl3,⟨Z,trivial⟩,?_⟩
    rw[E0.cur,show FF k D.opn=none from h,Option.getD_none,Acg,Acf hk];rfl
   ·refine⟨(fun q=>by cases q),?_⟩
    exact⟨hl2.trans hl3,⟨Z,trivial⟩,Z⟩
 ·rintro ρ d2 L2 ⟨hl2,hs2,rfl⟩;refine OR _ hs2 ?_;have hcl:(D.cur k).length=256:=by
   unfold E0.cur;cases hw:FF k D.opn with
   |none=>rw[Option.getD_none,Acg,Acf hk];exact hsl
   |some q=>
    obtain⟨w,hm,e⟩:=PX hw
    obtain⟨i,hi,rfl⟩:=Aej hm
    obtain⟨bo,To,lo,co',cs,e1,e2,hcl,hcs,hle,hr, -⟩:=An.at (by omega) g4 hi
    rw[Aem,←e];exact hr.2
  (apply x_g;apply Ag;apply AI);refine De (cs:=[]) (by simp) (by simp[Instr.fill,Bm]) (fun b3 T3=>?_);refine w_q (v:=.slice (some ⟨ob,0,none⟩) 256 256) Z ⟨ob,0,0,256,256,Z,Z,Z⟩ ?_;refine I1 (R:=AE) 0 Z Z (An.MK (R:=AE) (sz:=1)) Z (Src.lit (ys:=D.cur k) 5 Z hcl.symm (by simp) (CS _) (fun i hi=>?_)) (by omega) (by simp;omega) (by simp;omega) (fun v' h' ho'=>?_)
  ·simp only[AE,chunk,Afd,←List.map_drop,←Ahd];rw[Acu hi];rfl
  rw[Adr] at ho';refine AQ<|Ac Z<|Aa<|Ao<|A9 [v',vZ 0] ⟨Z,Z,trivial⟩ (d':=join d2 h') (L':=[bx b T [.slice (some ⟨bs,0,none⟩) D.syn.length cs',vo,vZ r2,vZ 0],bx bs Ts ls,ho]) ?_ ⟨v',Z,?_,?_⟩
  ·exact Vs.freeze.trans (Vs.drop (Afu [_,_,_] [_,_]))
  ·exact An.rsl (R:=AE) ho' AP (by omega) (Le.Au _ _) (Le.AZ _ _)
  ·exact(hD.mono hl2).mono (Le.Au _ _)
end Go.Gk.Dev
end
section
namespace Go.Gk.Cch
open Go Go.Gk Go.Gk.Dev
attribute [local irreducible] gwp gws xwp
variable{f f1:FuncId}
section
def RFr(d:Ab)(cs:List Value)(f:Fr):Prop:=∃a n c,cs=[.bool f.held,vZ f.sec,vZ f.pins,.bool f.late,.slice a n c]∧AH d (.slice a n c) f.b
def LO:Gs RFr:=fun hl ⟨a,n,c,h1,h2⟩=>⟨a,n,c,h1,h2.mono hl⟩
def wr(n:Nat):Int:=IntKind.i64.wrap (n:Int)
def ZV(n:Nat):IntKind.i64.wrap (wr n+1)=wr (n+1):=by
 simp[wr,IntKind.wrap,IntKind.signed,IntKind.bits];omega
section
variable {P:Program}{pan:List PanicEntry→AL}{Qn:Env→AL}{Ls L:List Ab}{ρ:Env}{d:Ab}{s:GS}{t:Nat}{tk:Bool}
def Kt{x y}{n:Nat}(ex:ev ρ x=vZ (wr n))(ey:ev ρ y=vZ 1)(h:gws P pan Qn s Ls (upd ρ t (vZ (wr (n+1)))) d L):
  gws P pan Qn (.op tk ⟨some t,none,.bin .add x y⟩ s) Ls ρ d L:=C3 (by rw[ex,ey];simp[CL,ZV]) h
end
def Ca(d:Ab)(c:CD)(dv cv:Value)(L:List Ab):Prop:=
 ∃b T bf cp cb hf s r bd,cv=pZ b∧dv=pZ bd∧
  L=[bx b T [dv,.slice (some ⟨bf,0,none⟩) c.fr.length cp,.chan (some cb),vZ c.hand,vZ (wr c.hits),vZ (wr c.miss)],hf,sg cb (.chan c.fr.length (c.free.map fun i:Nat=>Value.int .i64 i).toArray false s r false)]∧
  An 5 RFr d (.slice (some ⟨bf,0,none⟩) c.fr.length cp) c.fr hf∧1≤c.fr.length∧c.fr.length≤64∧c.hand<c.fr.length∧∀i∈c.free,i<c.fr.length
def Ca.mono{d d'}{c:CD}{dv cv L}(h:Ca d c dv cv L)(hl:Le d d'):Ca d' c dv cv L:=
 let ⟨b,T,bf,cp,cb,hf,s,r,bd,h1,h2,h3,h4,h5⟩:=h
 ⟨b,T,bf,cp,cb,hf,s,r,bd,h1,h2,h3,An.mono (R:=RFr) LO h4 hl,h5⟩
def Ca.mk{d}{c:CD}{b bf cp cb s r bd n:Nat}{T hf}(hn:c.fr.length=n)(hg:An 5 RFr d (.slice (some ⟨bf,0,none⟩) n cp) c.fr hf)(h1:1≤n)(h2:n≤64)(h3:c.hand<n)(h4:∀i∈c.free,i<n):
  Ca d c (pZ bd) (pZ b) [bx b T [pZ bd,.slice (some ⟨bf,0,none⟩) n cp,.chan (some cb),vZ c.hand,vZ (wr c.hits),vZ (wr c.miss)],hf,
   sg cb (.chan n (c.free.map fun i:Nat=>Value.int .i64 i).toArray false s r false)]:=by
 subst hn
 exact⟨b,T,bf,cp,cb,hf,s,r,bd,Z,Z,Z,hg,h1,h2,h3,h4⟩
def II(P:Program)(f:FuncId):Prop:=∀{d}{b bd:Nat}{T l},C2 P f [pZ b] d [bx b T (.pointer (some ⟨bd,0,none⟩)::l)] (.bool false)
def K6:A3:=⟨12,[(.tmp 2)],(sR (o1 2 (.mv (.const (.bool false))) .done) (sR (om 3 0<|o1 4 (.eqp false 3 (.const (.pointer none)))<|om 5 4<|gF 6 5 0<|oF 7 5 (.nilc 6)<|oF 8 5 (.fld 0 7)<|oF 9 5 (.ld none 8)<|oF 10 5 (.eqp false 9 (.const (.pointer none)))<|o1 11 (.pick 5 (.const (.bool true)) 10)<|om 2 11 .done) .ret))⟩
def XU{P}(hd:dec P f=some K6):II P f:=by
 intro d b bd T l;refine AK hd (Aca Z) ?_;show gwp P _ _ _ _ _;(refine Ad<|Af Z<|Aa<|Ad<|Ah Z<|BZ Z Z<|Af Z<|Ae Z<|Ah Z<|Ae Z<|AJ Z<|Ae Z<|Aj Z<|Ae Z<|Ai Z (Aq 0 Z Z)<|Ae Z<|BZ Z Z<|Av Z Z<|Af Z<|Aa<|Ao ?_);exact Jt Z (Acd _)
def Lw(P:Program)(f:FuncId):Prop:=∀{d}{b bf cp:Nat}{T x0 x1 x2 x3 x4 hf}{fs:List Fr}{k:Nat},An 5 RFr d (.slice (some ⟨bf,0,none⟩) fs.length cp) fs hf→
 C2 P f [pZ b,vZ k] d [bx b T [x0,.slice (some ⟨bf,0,none⟩) fs.length cp,x1,x2,x3,x4],hf]
  (match findF k fs with|some i=>.tuple #[.pointer (some ⟨bf,i*5,none⟩),vZ i]|none=>.tuple #[.pointer none,vZ 0])
def KP:A3:=⟨43,[(.tmp 4),(.tmp 5)],(sR (o1 4 (.mv (.const (.pointer none)))<|o1 5 (.mv z0) .done) (.seq (sR (om 7 0<|o1 8 (.nilc 7)<|oj 9 1 8<|ol 10 9<|oL 11 10<|o1 12 (.mv z0) .done) (.block 0 (.loop (sR (ob 13 .lss 12 11 .done) (.seq (.cond 13 .skip (.exit 0)) (.seq (.block 1 (sR (om 14 12<|om 6 14 .done) (sR (om 15 0<|o1 16 (.nilc 15)<|oj 17 1 16<|ol 18 17<|om 19 6<|oI 20 5 18 19<|oj 21 0 20<|ol 22 21<|om 23 22<|gT 24 23 0<|oT 25 23 (.nilc 24)<|oT 26 23 (.fld 1 25)<|oT 27 23 (.ld none 26)<|gT 28 23 6<|oT 29 23 (.idx 5 27 28)<|oT 30 23 (.fld 1 29)<|oT 31 23 (.ld none 30)<|gT 32 23 1<|oT 33 23 (.bin .eql 31 32)<|gP 34 23 33 .done) (.cond 34 (sR (om 35 0<|o1 36 (.nilc 35)<|oj 37 1 36<|ol 38 37<|om 39 6<|oI 40 5 38 39<|om 41 6<|om 4 40<|om 5 41 .done) .ret) .skip)))) (rG (ob 42 .add 12 z1<|om 12 42 .done)))))))) (sR (o1 4 (.mv (.const (.pointer none)))<|o1 5 (.mv z0) .done) .ret)))⟩
def Yf{P}(hd:dec P f=some KP):Lw P f:=by
 intro d b bf cp T x0 x1 x2 x3 x4 hf fs k h;have hlen:=h.Bt;refine AK hd (Aca Z) ?_;show gwp P _ _ _ _ _;refine Ad<|Ah Z<|Ac Z<|Aa<|Ag<|Ad<|Ah Z<|AJ Z<|Aj Z<|Ai Z (Aq 0 Z Z)<|AO Z<|Ac Z<|Aa<|Az<|DO (α:=Nat) (fun i=>[(0,pZ b),(1,vZ k),(11,vZ fs.length),(12,vZ i)]) (fun _=>[bx b T [x0,.slice (some ⟨bf,0,none⟩) fs.length cp,x1,x2,x3,x4],hf])
  (fun i=>i≤fs.length∧findF k fs=(findF k (fs.drop i)).map (·+i)) (fun i=>fs.length - i) 0 ⟨Z,Z,Z,Z,trivial⟩ Z ⟨by omega,by simp⟩ ?_
 rintro i ρ ⟨hi,hF⟩;by_cases e:i<fs.length
 ·obtain⟨b1,T1,l1,c1,cs,q1,rfl,hcl,hcs,hle,⟨a,n,c,rfl,hb⟩, -⟩:=An.at (by omega) h e;cases q1;have c0:=hcs 0 _ Z;have c1:=hcs 1 _ Z;rw[TU e] at hF;have hnext:¬(fs[i].held=true∧fs[i].sec=k)→findF k fs=(findF k (fs.drop (i+1))).map (·+(i+1)):=fun q=>by
   rw[hF,if_neg q,Option.map_map];congr 1;funext x;simp only[Function.comp];omega
  cases hh:fs[i].held with
  |false=>
   rw[hh] at c0
   (refine Ad<|AA Z Z<|Aa<|Ag<|AF Z (by omega)<|Al<|Ag<|Az<|Ad<|Ac Z<|Ac Z<|Aa<|Ad<|Ah Z<|AJ Z<|Aj Z<|Ai Z (Aq 0 Z Z)<|Ac Z<|CK _ Z Z Z (by omega)<|Aj Z<|Ai Z (Aq 1 Z (by assumption))<|Af Z<|Am Z<|Am Z<|Am Z<|Am Z<|Am Z<|Am Z<|Am Z<|Am Z<|Am Z<|Am Z<|Av Z Z<|Aa<|AS Z<|Al<|AI<|AY Z Z (by omega) (by omega)<|Ac Z<|Aa ?_)
   exact⟨i+1,by omega,⟨Z,Z,Z,Z,trivial⟩,Z,Z,e,hnext (by rw[hh];rintro⟨q,_⟩;cases q)⟩
  |true=>
   rw[hh] at c0
   by_cases hs:fs[i].sec=k
   ·(refine Ad<|AA Z Z<|Aa<|Ag<|AF Z (by omega)<|Al<|Ag<|Az<|Ad<|Ac Z<|Ac Z<|Aa<|Ad<|Ah Z<|AJ Z<|Aj Z<|Ai Z (Aq 0 Z Z)<|Ac Z<|CK _ Z Z Z (by omega)<|Aj Z<|Ai Z (Aq 1 Z (by assumption))<|Af Z<|Ae Z<|Ah Z<|Ae Z<|AJ Z<|Ae Z<|Aj Z<|Ae Z<|Ai Z (Aq 0 Z Z)<|Ae Z<|Ac Z<|Ae Z<|CK _ Z Z Z (by omega)<|Ae Z<|Aj Z<|Ae Z<|Ai Z (Aq 1 Z (by assumption))<|Ae Z<|Ac Z<|Ae Z<|AT Z Z<|Ay Z Z<|Aa<|AF Z (by omega)<|Ad<|Ah Z<|AJ Z<|Aj Z<|Ai Z (Aq 0 Z Z)<|Ac Z<|CK _ Z Z Z (by omega)<|Ac Z<|Ah Z<|Ac Z<|Aa<|Ao ?_)
    rw[show findF k fs=some i by rw[hF,if_pos ⟨hh,hs⟩,Aff,Aee]]
    exact YR Z Z (Acd _)
   ·(refine Ad<|AA Z Z<|Aa<|Ag<|AF Z (by omega)<|Al<|Ag<|Az<|Ad<|Ac Z<|Ac Z<|Aa<|Ad<|Ah Z<|AJ Z<|Aj Z<|Ai Z (Aq 0 Z Z)<|Ac Z<|CK _ Z Z Z (by omega)<|Aj Z<|Ai Z (Aq 1 Z (by assumption))<|Af Z<|Ae Z<|Ah Z<|Ae Z<|AJ Z<|Ae Z<|Aj Z<|Ae Z<|Ai Z (Aq 0 Z Z)<|Ae Z<|Ac Z<|Ae Z<|CK _ Z Z Z (by omega)<|Ae Z<|Aj Z<|Ae Z<|Ai Z (Aq 1 Z (by assumption))<|Ae Z<|Ac Z<|Ae Z<|AT Z Z<|Ay Z Z<|Aa<|Aw Z (by omega)<|Al<|AI<|AY Z Z (by omega) (by omega)<|Ac Z<|Aa ?_)
    exact⟨i+1,by omega,⟨Z,Z,Z,Z,trivial⟩,Z,Z,e,hnext (by rintro⟨_,q⟩;exact hs q)⟩
 ·(refine Ad<|AA Z Z<|Aa<|Ag<|Aw Z (by omega)<|Ba<|Ad<|Ah Z<|Ac Z<|Aa<|Ao ?_);have:findF k fs=none:=by
   rw[hF,Afe (by omega)];rfl
  rw[this];exact YR Z Z (Acd _)
def Kg(P:Program)(f:FuncId):Prop:=∀{d}{b bf cp:Nat}{T x0 x1 x2 x3 x4 hf}{fs:List Fr},An 5 RFr d (.slice (some ⟨bf,0,none⟩) fs.length cp) fs hf→
 C2 P f [pZ b] d [bx b T [x0,.slice (some ⟨bf,0,none⟩) fs.length cp,x1,x2,x3,x4],hf] (.bool (BR fs))
def Q7{fs:List Fr}{i:Nat}(hi:i<fs.length)(h:fs[i].pins=0):BR fs=false:=by
 unfold BR;rw[List.all_eq_false];exact⟨_,Acz hi,by simp[h]⟩
def Jw:A3:=⟨18,[(.tmp 2)],(sR (o1 2 (.mv (.const (.bool false))) .done) (.seq (sR (om 5 0<|o1 6 (.nilc 5)<|oj 7 1 6<|ol 8 7<|oL 9 8<|o1 10 (.mv z0) .done) (.block 0 (.loop (sR (ob 11 .lss 10 9 .done) (.seq (.cond 11 .skip (.exit 0)) (.seq (.block 1 (sR (oI 12 5 8 10<|o1 13 (.ld (some 5) 12)<|o1 4 (.alo (.agg #[(.bool false),(vZ 0),(vZ 0),(.bool false),nV]))<|o0 (.st 5 4 13) .done) (sR (oj 14 2 4<|ol 15 14<|ob 16 .eql 15 z0 .done) (.cond 16 (sR (o1 2 (.mv (.const (.bool false))) .done) .ret) .skip)))) (rG (ob 17 .add 10 z1<|om 10 17 .done)))))))) (sR (o1 2 (.mv (.const (.bool true))) .done) .ret)))⟩
def UM{P}(hd:dec P f=some Jw):Kg P f:=by
 intro d b bf cp T x0 x1 x2 x3 x4 hf fs h;have hlen:=h.Bt;refine AK hd (Aca Z) ?_;show gwp P _ _ _ _ _;refine Ad<|Af Z<|Aa<|Ag<|Ad<|Ah Z<|AJ Z<|Aj Z<|Ai Z (Aq 0 Z Z)<|AO Z<|Ac Z<|Aa<|Az<|DO (α:=Nat) (fun i=>[(8,.slice (some ⟨bf,0,none⟩) fs.length cp),(9,vZ fs.length),(10,vZ i)]) (fun _=>[bx b T [x0,.slice (some ⟨bf,0,none⟩) fs.length cp,x1,x2,x3,x4],hf])
  (fun i=>i≤fs.length∧BR (fs.take i)=true) (fun i=>fs.length - i) 0 ⟨Z,Z,Z,trivial⟩ Z ⟨by omega,by simp[BR]⟩ ?_
 rintro i ρ ⟨hi,hF⟩;by_cases e:i<fs.length
 ·obtain⟨b1,T1,l1,c1,cs,q1,rfl,hcl,hcs,hle,⟨a,n,c,rfl,hb⟩, -⟩:=An.at (by omega) h e;cases q1;refine Ad<|AA Z Z<|Aa<|Ag<|AF Z (by omega)<|Al<|Ag<|Az<|Ad<|CK _ Z Z Z (by omega)<|NL _ 1 Z Z hcl hcs ?_;(apply Da;intro _ _);refine DQ 0 Z Z Z Z Z Z ?_;by_cases hp:fs[i].pins=0
  ·refine Aa<|Ad<|Aj Z<|Ai Z (Aq 0 Z Z)<|AT Z Z<|Aa<|AF Z (by omega)<|Ad<|Af Z<|Aa<|Ao<|Ci Z (L':=[_,_]) (Ade _ _) ⟨?_,Z,Z⟩;rw[Q7 e hp];rfl
  ·refine Aa<|Ad<|Aj Z<|Ai Z (Aq 0 Z Z)<|BA d [_,_] (Vs.drop (Ade _ _)) ?_;(refine AT Z Z<|Aa<|Aw Z (by omega)<|Al<|AI<|AY Z Z (by omega) (by omega)<|Ac Z<|Aa ?_);refine⟨i+1,by omega,⟨Z,Z,Z,trivial⟩,Z,Z,e,?_⟩
   rw[Acp e];unfold BR at hF⊢;rw[List.all_append,hF];simp[hp]
 ·(refine Ad<|AA Z Z<|Aa<|Ag<|Aw Z (by omega)<|Ba<|Ad<|Af Z<|Aa<|Ao ?_);rw[Ady (by omega)] at hF;rw[hF];exact Jt Z (Acd _)
def Nt(P:Program)(f:FuncId):Prop:=∀{d}{c:CD}{dv cv L},Ca d c dv cv L→(∀f∈c.fr,f.pins≤4611686018427387904)→
 AB P f [cv] d L (Ret fun r d' L'=>d'=d∧(BR c.fr=true→r=.tuple #[vZ 0,.bool false]∧L'=L)∧
  (BR c.fr=false→r=.tuple #[vZ (BY (CU c.fr c.hand+1) c.fr c.hand).2.2,.bool true]∧Ca d {c with fr:=(BY (CU c.fr c.hand+1) c.fr c.hand).1,hand:=(BY (CU c.fr c.hand+1) c.fr c.hand).2.1} dv cv L'))
def J7{l:List Fr}{h:Nat}(hh:h<l.length):l.getD h fz=l[h]:=by rw[Acg,Acf hh];rfl
def JW(a0:Nat):A3:=⟨47,[(.tmp 2),(.tmp 3)],(sR (o1 2 (.mv z0)<|o1 3 (.mv (.const (.bool false))) .done) (.seq (sR (om 6 0<|oc 7 a0 [6] .done) (.cond 7 (sR (o1 2 (.mv z0)<|o1 3 (.mv (.const (.bool false))) .done) .ret) .skip)) (.block 0 (.loop (.block 1 (sR (om 8 0<|o1 9 (.nilc 8)<|oj 10 3 9<|ol 11 10<|om 4 11 .done) (.seq (.reg true (pm 12 0<|pm 13 0<|p1 14 (.nilc 13)<|p1 15 (.fld 3 14)<|pm 18 0<|p1 19 (.nilc 18)<|p1 20 (.fld 1 19) (.alt ⟨(some 16),none,(.ld none 15)⟩ (p1 17 (.bin .add 16 z1) (ol 21 20 (p1 22 (.len 21) (p1 23 (.bin .rem 17 22) (p1 24 (.nilc 12) (p1 25 (.fld 3 24) (o0 (.st 1 25 23) .done))))))) (ol 21 20 (p1 22 (.len 21) (ol 16 15 (p1 17 (.bin .add 16 z1) (p1 23 (.bin .rem 17 22) (p1 24 (.nilc 12) (p1 25 (.fld 3 24) (o0 (.st 1 25 23) .done))))))))))) (sR (om 26 0<|o1 27 (.nilc 26)<|oj 28 1 27<|ol 29 28<|om 30 4<|oI 31 5 29 30<|om 5 31 .done) (.block 2 (sR (om 34 5<|o1 35 (.nilc 34)<|oj 36 2 35<|ol 37 36<|ob 38 .gtr 37 z0<|om 33 38 .done) (.cond 33 .skip (sR (om 40 5<|o1 41 (.nilc 40)<|oj 42 3 41<|ol 43 42<|om 39 43 .done) (.cond 39 (rG (om 44 5<|o1 45 (.nilc 44)<|oj 46 3 45<|o0 (.st 1 46 (.const (.bool false))) .done)) (sR (om 32 4<|om 2 32<|o1 3 (.mv (.const (.bool true))) .done) .ret))))))))))))))⟩
def VO{P}(hd:dec P f=some (JW f1))(h1:Kg P f1):Nt P f:=by
 intro d c dv cv L h hpb;obtain⟨b,T,bf,cp,cb,hf,s,r,bd,rfl,rfl,rfl,hg,hl1,hl2,hh,hfr⟩:=h;refine AK hd (Aca Z) ?_;show gwp P _ _ _ _ _;refine Ad<|Ac Z<|Af Z<|Aa<|Ag<|Ad<|Ah Z<|Di (A:=[_,_]) (B:=[_]) Z Z (h1 hg) ?_;cases hp:BR c.fr with
 |true=>
  (refine Aa<|A8 Z<|Ad<|Ac Z<|Af Z<|Aa<|Ao ?_)
  exact Cw Z Z (Acd _) ⟨Z,fun _=>⟨Z,Z⟩,fun q=>by cases q⟩
 |false=>
  (refine Aa<|AS Z<|Al<|Az ?_)
  refine BM (α:=List Fr×Nat×Ab) (fun x=>[(0,pZ b)])
   (fun x d' L'=>d'=d∧x.1.length=c.fr.length∧x.2.1<c.fr.length∧BR x.1=false∧(∀f∈x.1,f.pins≤4611686018427387904)∧BY (CU x.1 x.2.1+1) x.1 x.2.1=BY (CU c.fr c.hand+1) c.fr c.hand∧
    L'=[bx b T [pZ bd,.slice (some ⟨bf,0,none⟩) c.fr.length cp,.chan (some cb),vZ x.2.1,vZ (wr c.hits),vZ (wr c.miss)],x.2.2,sg cb (.chan c.fr.length (c.free.map fun i:Nat=>Value.int .i64 i).toArray false s r false)]∧
    An 5 RFr d (.slice (some ⟨bf,0,none⟩) c.fr.length cp) x.1 x.2.2) (fun x=>CU x.1 x.2.1) (c.fr,c.hand,hf) ⟨Z,trivial⟩ ⟨Z,Z,hh,hp,hpb,Z,Z,hg⟩ ?_
  rintro⟨fs,hand,hf'⟩ ρ d' L' ⟨rfl,hlen,hhand,hpin,hpb',hsw,rfl,hg'⟩
  simp only at hlen hhand hpin hpb' hsw hg'⊢
  rw[←hlen] at hg'
  obtain⟨b1,T1,l1,c1,cs,q1,rfl,hcl,hcs,hle,⟨a,n,c',rfl,hb⟩,hset⟩:=An.at (by omega) hg' (show hand<fs.length by omega)
  cases q1
  have c2:=hcs 2 _ Z
  have c3:=hcs 3 _ Z
  have hgd:fs.getD hand fz=fs[hand]:=J7 (by omega)
  (refine Az<|Ad ?_)
  (refine Ah Z<|AJ Z<|Aj Z<|Ai Z (Aq 0 Z Z)<|Ac Z<|Aa ?_)
  refine NX (fun ρ d2 L'=>Bk ρ [(0,pZ b),(4,vZ hand)]∧d2=d'∧L'=[bx b T [pZ bd,.slice (some ⟨bf,0,none⟩) c.fr.length cp,.chan (some cb),vZ (B5 fs hand:Nat),vZ (wr c.hits),vZ (wr c.miss)],bx bf T1 l1,sg cb (.chan c.fr.length (c.free.map fun i:Nat=>Value.int .i64 i).toArray false s r false)]) ?_ ?_
  ·refine BX [] _ Z ?_
   have en:((hand:Int)+1) % (c.fr.length:Int)=(B5 fs hand:Nat):=by unfold B5;rw[hlen];simp
   (refine Ah Z<|Ah Z<|AJ Z<|Aj Z<|Ah Z<|AJ Z<|Aj Z ?_)
   refine Ue ?_ ?_
   ·(refine Ai Z (Aq 0 Z Z)<|AY Z Z (by omega) (by omega)<|Ai Z (Aq 0 Z Z)<|AO Z<|Va Z Z (by omega) (by omega)<|AJ Z<|Aj Z ?_)
    refine Bg 0 [pZ bd,.slice (some ⟨bf,0,none⟩) c.fr.length cp,.chan (some cb),vZ (B5 fs hand:Nat),vZ (wr c.hits),vZ (wr c.miss)] Z Z Z Z (Aca Z) Z (by rw[←en];rfl) ?_
    exact Aa ⟨⟨Z,Z,trivial⟩,Z,Z⟩
   ·(refine Ai Z (Aq 0 Z Z)<|AO Z<|Ai Z (Aq 0 Z Z)<|AY Z Z (by omega) (by omega)<|Va Z Z (by omega) (by omega)<|AJ Z<|Aj Z ?_)
    refine Bg 0 [pZ bd,.slice (some ⟨bf,0,none⟩) c.fr.length cp,.chan (some cb),vZ (B5 fs hand:Nat),vZ (wr c.hits),vZ (wr c.miss)] Z Z Z Z (Aca Z) Z (by rw[←en];rfl) ?_
    exact Aa ⟨⟨Z,Z,trivial⟩,Z,Z⟩
  ·rintro ρ d2 L2 ⟨hs2,rfl,rfl⟩
   refine CY _ hs2 ?_
   by_cases hp0:fs[hand].pins=0
   ·cases hla:fs[hand].late with
    |false=>
     rw[hla] at c3
     have ht:Bi fs hand=true:=by unfold Bi;rw[hgd,hp0,hla];rfl
     (refine Ad<|Ah Z<|AJ Z<|Aj Z<|Ai Z (Aq 0 Z Z)<|Ac Z<|CK _ Z Z Z (by omega)<|Ah Z<|Aa<|Az<|Ad<|Ah Z<|AJ Z<|Aj Z<|Ai Z (Aq 1 Z (by assumption))<|Bb Z Z<|Af Z<|Aa<|Aw Z (by omega)<|Ad<|Ah Z<|AJ Z<|Aj Z<|Ai Z (Aq 1 Z (by assumption))<|Af Z<|Aa<|AS Z<|Ad<|Ac Z<|Ac Z<|Af Z<|Aa<|Ao ?_)
     have hres:BY (CU c.fr c.hand+1) c.fr c.hand=(fs,B5 fs hand,hand):=by rw[←hsw,BY,ht];rfl
     rw[hres]
     refine Cw Z Z (Acd _) ⟨Z,(fun q=>nomatch q),fun _=>⟨Z,?_⟩⟩
     refine⟨b,T,bf,cp,cb,_,s,r,bd,Z,Z,?_,hg',by simp only;omega,by simp only;omega,Afo _ (by omega),by rw[hlen];exact hfr⟩
     simp only[hlen]
    |true=>
     rw[hla] at c3
     have ht:Bi fs hand=false:=by unfold Bi;rw[hgd,hp0,hla];rfl
     have hpass:C7 fs hand=fs.set hand {fs[hand] with late:=false}:=by rw[C7,hgd,if_pos hp0]
     have hg2:=hset [.bool fs[hand].held,vZ fs[hand].sec,vZ fs[hand].pins,.bool false,.slice a n c'] {fs[hand] with late:=false} Z ⟨a,n,c',Z,hb⟩
     rw[←hpass] at hg2
     (refine Ad<|Ah Z<|AJ Z<|Aj Z<|Ai Z (Aq 0 Z Z)<|Ac Z<|CK _ Z Z Z (by omega)<|Ah Z<|Aa<|Az<|Ad<|Ah Z<|AJ Z<|Aj Z<|Ai Z (Aq 1 Z (by assumption))<|Bb Z Z<|Af Z<|Aa<|Aw Z (by omega)<|Ad<|Ah Z<|AJ Z<|Aj Z<|Ai Z (Aq 1 Z (by assumption))<|Af Z<|Aa<|A8 Z<|AI<|Ah Z<|AJ Z<|Aj Z ?_)
     refine Bg 1 _ Z Z Z Z (by omega) Z (Hr (cs:=[.bool fs[hand].held,vZ fs[hand].sec,vZ fs[hand].pins,.bool true,.slice a n c']) (fun j u hu=>hcs j u (by rw[hla];exact hu)) (by simp) (by simp;omega)) ?_
     (apply Aa)
     refine⟨(C7 fs hand,B5 fs hand,_),Hc (by omega) hpin ht,⟨Z,trivial⟩,Z,by rw[ES];exact hlen,by simp only;rw[←hlen];exact Afo _ (by omega),by rw[G3];exact hpin,?_,(NO (by omega) hpin ht).trans hsw,Z,by simp only;rw[←hlen];exact hg2⟩
     intro f hf
     rw[hpass] at hf
     rcases List.mem_or_eq_of_mem_set hf with hf|rfl
     ·exact hpb' f hf
     ·simp only;omega
   ·have ht:Bi fs hand=false:=by unfold Bi;rw[hgd];simp[hp0]
    have hpass:C7 fs hand=fs:=by rw[C7,hgd,if_neg hp0]
    (refine Ad<|Ah Z<|AJ Z<|Aj Z<|Ai Z (Aq 0 Z Z)<|Ac Z<|CK _ Z Z Z (by omega)<|Ah Z<|Aa<|Az<|Ad<|Ah Z<|AJ Z<|Aj Z<|Ai Z (Aq 1 Z (by assumption))<|Bb Z Z<|Af Z<|Aa<|AF Z (by omega)<|Al ?_)
    have h1:=Hc (by omega) hpin ht
    have h2:=(NO (by omega) hpin ht).trans hsw
    rw[hpass] at h1 h2
    exact⟨(fs,B5 fs hand,_),h1,⟨Z,trivial⟩,Z,hlen,by simp only;rw[←hlen];exact Afo _ (by omega),hpin,hpb',h2,Z,by simp only;rw[←hlen];exact hg'⟩
end
def AbQ(o:Option Nat):Value:=match o with|some i=>.tuple #[vZ i,.bool true]|none=>.tuple #[vZ 0,.bool false]
def O8(P:Program)(f:FuncId):Prop:=∀{d}{c:CD}{dv cv L},Ca d c dv cv L→Kj c 4611686018427387904→
 AB P f [cv] d L (Ret fun r d' L'=>d'=d∧r=AbQ (EH c).2∧Ca d (EH c).1 dv cv L')
def Km(a0:Nat):G1:=(.mk 18 [(.tmp 2),(.tmp 3)] (.seq (.g (rG (o1 2 (.mv z0)<|o1 3 (.mv (.const (.bool false))) .done))) (.seq (.g (rG (om 5 0<|o1 6 (.nilc 5)<|oj 7 2 6<|ol 8 7 .done))) (.seq (.sel .done (some 9) 8 (vZ 0) (oe 10 9 0<|ob 11 .eql 10 z0 .done)) (.g (.block 0 (.cond 11 (sR (oe 16 9 2<|om 4 16 .done) (sR (om 17 4<|om 2 17<|o1 3 (.mv (.const (.bool true))) .done) .ret)) (sR (om 12 0<|oc 13 a0 [12]<|oe 14 13 0<|oe 15 13 1<|om 2 14<|om 3 15 .done) .ret))))))))
def Xp{P}(hd:Fm false false P f=some (Km f1))(h1:Nt P f1):O8 P f:=by
 intro d c dv cv L h hpb;have h0:=h;obtain⟨b,T,bf,cp,cb,hf,s,r,bd,rfl,rfl,rfl,hg,hl1,hl2,hh,hfr⟩:=h;refine EU hd (Aca Z) ?_;show xwp P _ _ _ _ _;(apply BD;apply x_g;apply AI;apply Ac;rfl;apply Af;rfl;apply Aa;apply BD;apply x_g;apply AI;apply Ah;rfl;apply AJ;rfl;apply Aj;rfl;apply Ai;rfl;exact Aq 0 Z Z;apply Aa;apply BD;apply AbE;apply Aa);have hcase:c.free=[]∨∃i rest,c.free=i::rest:=by cases c.free with|nil=>exact .inl Z|cons i r=>exact .inr ⟨i,r,Z⟩
 rcases hcase with hfe|⟨i,rest,hfe⟩
 ·refine Vr 2 Z (by rw[hfe];rfl) ?_;(refine Ap Z Z<|AT Z Z<|Aa ?_;apply x_g;refine Az<|Aw Z (by omega)<|Ad<|Ah Z ?_);refine EP (B:=[]) Z Z (h1 h0 hpb) (fun u d' L' _ ⟨e1,e2,e3⟩=>?_);subst e1;cases hp:BR c.fr with
  |true=>
   obtain⟨rfl,rfl⟩:=e2 hp
   (refine Ap Z Z<|Ap Z Z<|Ac Z<|Af Z<|Aa<|Ao ?_)
   have hr:EH c=(c,none):=by unfold EH;rw[hfe];simp only[hp,if_true]
   rw[hr]
   exact Cw Z Z (Acd _) ⟨Z,Z,h0⟩
  |false=>
   obtain⟨rfl,hc⟩:=e3 hp
   (refine Ap Z Z<|Ap Z Z<|Ac Z<|Af Z<|Aa<|Ao ?_)
   have hr:EH c=({c with fr:=(BY (CU c.fr c.hand+1) c.fr c.hand).1,hand:=(BY (CU c.fr c.hand+1) c.fr c.hand).2.1},some (BY (CU c.fr c.hand+1) c.fr c.hand).2.2):=by
    unfold EH;rw[hfe];simp only[hp,Ack,if_false]
   rw[hr]
   exact Cw Z Z (Acd _) ⟨Z,Z,by rw[Adm];exact hc⟩
 ·refine V9 (v:=vZ i) (buf:=rest.map fun i:Nat=>Value.int .i64 i) 2 Z (by rw[hfe];rfl) ?_;(refine Ap Z Z<|AT Z Z<|Aa ?_;apply x_g;refine Az<|AF Z (by omega)<|Ad<|Ap Z Z<|Ac Z<|Aa<|Ad<|Ac Z<|Ac Z<|Af Z<|Aa<|Ao ?_);have hr:EH c=({c with free:=rest},some i):=by unfold EH;rw[hfe]
  rw[hr];exact Cw Z Z (Acd _) ⟨Z,Z,b,T,bf,cp,cb,hf,s,r+1,bd,Z,Z,Z,hg,hl1,hl2,hh,fun j hj=>hfr j (by rw[hfe];exact Aco _ hj)⟩
def Aaw(d:Ab)(r:Value)(o:Option Sec):Prop:=match o with|some b=>∃u,r=.tuple #[u,vZ 0]∧AH d u b|none=>r=.tuple #[nV,vZ 180]
def KJ(P:Program)(f:FuncId):Prop:=∀{d}{c:CD}{D:E0}{dv cv LC LD}{k:Nat},Ca d c dv cv LC→Dv d D dv LD→Kj c 4611686018427387904→k<D.syn.length→
 AB P f [cv,vZ k] d (LC++LD) (Ret fun r d' L'=>∃LC' LD',L'=LC'++LD'∧Ca d' (EB (D.cur k) c k).1 dv cv LC'∧Dv d' D dv LD'∧Aaw d' r (EB (D.cur k) c k).2)
def LZ(a0 a1 a2 a3 a4:Nat):G1:=(.mk 108 [(.tmp 4),(.tmp 5)] (.seq (.g (rG (o1 4 (.mv nS)<|o1 5 (.mv z0) .done))) (.seq (.g (.block 0 (sR (om 13 0<|oc 14 a0 [13]<|om 12 14 .done) (.cond 12 (sR (o1 4 (.mv nS)<|o1 5 (.mv z1) .done) .ret) (sR (om 16 1<|ob 17 .lss 16 z0<|om 18 17<|gF 19 18 1<|gF 20 18 0<|oF 21 18 (.nilc 20)<|oF 22 18 (.fld 0 21)<|oF 23 18 (.ld none 22)<|oF 24 18 (.call a1 [23])<|oF 25 18 (.bin .geq 19 24)<|o1 26 (.pick 18 (.const (.bool true)) 25)<|om 15 26 .done) (.cond 15 (sR (o1 4 (.mv nS)<|o1 5 (.mv (kZ 4)) .done) .ret) .skip)))))) (.seq (.g (sR (om 28 0<|om 29 1<|oc 30 a2 [28,29]<|om 27 30<|oe 31 27 0<|oe 32 27 1<|om 6 31<|om 7 32 .done) (sR (om 33 6<|o1 34 (.eqp true 33 (.const (.pointer none))) .done) (.cond 34 (sR (om 35 6<|o1 36 (.nilc 35)<|oj 37 2 36<|ol 38 37<|ob 39 .add 38 z1<|o1 40 (.nilc 35)<|oj 41 2 40<|o0 (.st 1 41 39) .done) (sR (om 42 6<|o1 43 (.nilc 42)<|oj 44 3 43<|o0 (.st 1 44 (.const (.bool true))) .done) (sR (om 45 0<|o1 46 (.nilc 45)<|oj 47 4 46<|ol 48 47<|ob 49 .add 48 z1<|o1 50 (.nilc 45)<|oj 51 4 50<|o0 (.st 1 51 49) .done) (sR (o1 52 (.bsl 0 1 [(.int .u8 0)] [])<|om 53 6<|o1 54 (.nilc 53)<|oj 55 4 54<|ol 56 55<|o1 57 (.app 1 1 [(.int .u8 0)] 52 56)<|om 4 57<|o1 5 (.mv z0) .done) .ret)))) .skip)))) (.seq (.g (rG (om 59 0<|oc 60 a3 [59]<|om 58 60<|oe 61 58 0<|oe 62 58 1<|om 8 61<|om 9 62 .done))) (.seq (.g (sR (om 63 9<|o1 64 (.un .not 63) .done) (.cond 64 (sR (o1 4 (.mv nS)<|o1 5 (.mv (kZ 180)) .done) .ret) .skip))) (.seq (.g (rG (om 66 0<|o1 67 (.nilc 66)<|oj 68 0 67<|ol 69 68<|om 70 1<|oc 71 a4 [69,70]<|om 65 71<|oe 72 65 0<|oe 73 65 1<|om 10 72<|om 11 73 .done))) (.seq (.seq (.g (rG (om 74 11<|ob 75 .neq 74 z0 .done))) (.cond 75 (.seq (.g (rG (om 76 0<|o1 77 (.nilc 76)<|oj 78 1 77<|ol 79 78<|om 80 8<|o1 81 (.bld [(0,1),(1,1),(2,1),(3,1),(4,1)] [(.bool false),(vZ 0),(vZ 0),(.bool false),nV] [])<|oI 82 5 79 80<|o0 (.st 5 82 81) .done))) (.seq (.snd (om 83 0<|o1 84 (.nilc 83)<|oj 85 2 84<|ol 86 85<|om 87 8 .done) none 86 87 .done) (.g (sR (om 88 11<|o1 4 (.mv nS)<|om 5 88 .done) .ret)))) (.g .skip))) (.g (sR (om 89 0<|o1 90 (.nilc 89)<|oj 91 1 90<|ol 92 91<|om 93 8<|om 94 1<|om 95 10<|o1 96 (.bld [(0,1),(1,1),(2,1),(3,1),(4,1)] [(.bool false),(vZ 0),(vZ 0),(.bool false),nV] [(0,(.const (.bool true))),(1,94),(2,z1),(3,(.const (.bool true))),(4,95)])<|oI 97 5 92 93<|o0 (.st 5 97 96) .done) (sR (om 98 0<|o1 99 (.nilc 98)<|oj 100 5 99<|ol 101 100<|ob 102 .add 101 z1<|o1 103 (.nilc 98)<|oj 104 5 103<|o0 (.st 1 104 102) .done) (sR (o1 105 (.bsl 0 1 [(.int .u8 0)] [])<|om 106 10<|o1 107 (.app 1 1 [(.int .u8 0)] 105 106)<|om 4 107<|o1 5 (.mv z0) .done) .ret))))))))))))
set_option maxHeartbeats 1000000 in
def Zx{P f2 f3 f4 f5}(hd:Fm false false P f=some (LZ f1 f2 f3 f4 f5))(h1:II P f1)(h2:HK P f2)(h3:Lw P f3)(h4:O8 P f4)(h5:OG P f5):KJ P f:=by
 intro d c D dv cv LC LD k h hD hpb hk;have h0:=h;obtain⟨b,T,bf,cp,cb,hf,s,r,bd,rfl,rfl,rfl,hg,hl1,hl2,hh,hfr⟩:=h;refine EU hd (Aca Z) ?_;show xwp P _ _ _ _ _;(apply BD;apply x_g;apply AI;apply Ak;rfl;apply Ac;rfl;apply Aa;apply BD;apply x_g;apply Az;apply Ag;apply AI;apply Ah;rfl);refine Di (A:=[_]) (B:=_::_::LD) Z Z h1 ?_;refine Af Z<|Aa<|AS Z<|Ad<|Ac Z<|AA Z Z<|Af Z<|A1 Z (by omega)<|Ae Z<|Ac Z<|Ae Z<|Ah Z<|Ae Z<|AJ Z<|Ae Z<|Aj Z<|Ae Z<|Ai Z (Aq 0 Z Z)<|Ae Z<|Lz (A:=LD) Acn Z (h2 hD) ?_;(refine Ae Z<|Ds Z Z<|Av Z Z<|Af Z<|Aa<|Aw Z (by omega)<|Al ?_;apply BD;apply x_g;refine Ad<|Ah Z<|Ac Z ?_);refine Di (A:=[_,_]) (B:=_::LD) Z Z (h3 hg) ?_;cases hF:findF k c.fr with
 |some i=>
  obtain⟨hi,hheld,hsec⟩:=GD hF
  obtain⟨b1,T1,l1,c1,cs,q1,rfl,hcl,hcs,hle,⟨a,n,c',rfl,hb⟩,hset⟩:=An.at (by omega) hg hi
  cases q1
  have hpi:=hpb _ (Acz hi)
  have c2:=hcs 2 _ Z
  have hgd:c.fr.getD i fz=c.fr[i]:=J7 hi
  have hres:EB (D.cur k) c k=({c with fr:=c.fr.set i {c.fr[i] with pins:=c.fr[i].pins+1,late:=true},hits:=c.hits+1},some c.fr[i].b):=by
   unfold EB;rw[hF];simp only[hgd]
  rw[hres]
  (refine AU Z<|Ap Z Z<|Ap Z Z<|Ah Z<|Ac Z<|Aa<|Ad<|Ah Z<|BZ Z Z<|Aa<|A8 Z<|Ad<|Ah Z<|AJ Z<|Aj Z<|Ai Z (Aq 1 Z (by assumption))<|AY Z Z (by omega) (by omega)<|AJ Z<|Aj Z ?_)
  refine Bg 1 (patch l1 (i*5) [.bool c.fr[i].held,vZ c.fr[i].sec,vZ ((c.fr[i].pins:Int)+1),.bool c.fr[i].late,.slice a n c']) Z Z Z Z (by omega) Z (Hr hcs (by simp) (by simp;omega)) ?_
  (refine Aa<|Ad<|Ah Z<|AJ Z<|Aj Z ?_)
  refine Bg 1 (patch l1 (i*5) [.bool c.fr[i].held,vZ c.fr[i].sec,vZ ((c.fr[i].pins:Int)+1),.bool true,.slice a n c']) Z Z Z Z (by rw[Ey (by simp;omega)];omega) Z (Us (cs:=[.bool c.fr[i].held,vZ c.fr[i].sec,vZ ((c.fr[i].pins:Int)+1),.bool c.fr[i].late,.slice a n c']) (by simp) (by simp;omega)) ?_
  (refine Aa<|Ad<|Ah Z<|AJ Z<|Aj Z<|Ai Z (Aq 0 Z Z) ?_)
  refine Kt Z Z ?_
  (refine AJ Z<|Aj Z ?_)
  refine Bg 0 [pZ bd,.slice (some ⟨bf,0,none⟩) c.fr.length cp,.chan (some cb),vZ c.hand,vZ (wr (c.hits+1)),vZ (wr c.miss)] Z Z Z Z (Aca Z) Z Z ?_
  have c4:(patch l1 (i*5) [.bool c.fr[i].held,vZ c.fr[i].sec,vZ ((c.fr[i].pins:Int)+1),.bool true,.slice a n c'])[i*5+4]?=some (.slice a n c'):=RL (by simp;omega) Z
  (refine Aa<|Ad ?_)
  refine De (cs:=[]) (by simp) (by simp[Instr.fill,Bm]) (fun b3 T3=>?_)
  (refine AQ<|AJ Z<|Aj Z ?_)
  refine Ai Z (Aq 2 Z c4) ?_
  have hbl:=hb.Bt
  refine I1 (R:=AE) 0 Z Z (An.MK (R:=AE) (sz:=1)) Z (RSl.src hb EX (by omega) _) (by omega) (by simp;omega) (by simp;omega) (fun v' h' ho'=>?_)
  rw[Adr] at ho'
  (refine AQ<|Ac Z<|Aa<|Ao ?_)
  have hg2:=hset [.bool c.fr[i].held,vZ c.fr[i].sec,vZ ((c.fr[i].pins:Int)+1),.bool true,.slice a n c'] {c.fr[i] with pins:=c.fr[i].pins+1,late:=true} Z ⟨a,n,c',Z,hb⟩
  refine A9 [v',vZ 0] ⟨Z,Z,trivial⟩ (d':=join d h') (L':=[bx b T [pZ bd,.slice (some ⟨bf,0,none⟩) c.fr.length cp,.chan (some cb),vZ c.hand,vZ (wr (c.hits+1)),vZ (wr c.miss)],
   bx bf T1 (patch l1 (i*5) [.bool c.fr[i].held,vZ c.fr[i].sec,vZ ((c.fr[i].pins:Int)+1),.bool true,.slice a n c']),sg cb (.chan c.fr.length (c.free.map fun i:Nat=>Value.int .i64 i).toArray false s r false)]++LD) Vs.freeze
   ⟨_,_,Z,?_,hD.mono (Le.Au _ _),v',Z,An.rsl (R:=AE) ho' AP (by omega) (Le.Au _ _) (Le.AZ _ _)⟩
  exact Ca.mk (by simp) (An.mono (R:=RFr) LO hg2 (Le.Au _ _)) hl1 hl2 hh hfr
 |none=>
  (refine AU Z<|Ap Z Z<|Ap Z Z<|Ah Z<|Ac Z<|Aa<|Ad<|Ah Z<|KT Z Z<|Aa<|AS Z<|Al ?_;apply BD;apply x_g;refine AI<|Ah Z ?_)
  refine EP (A:=[_,_,_]) (B:=LD) Z Z (h4 h0 hpb) (fun u d' L' _ ⟨e1,e2,e3⟩=>?_)
  subst e1
  subst e2
  cases hr:EH c with
  |mk c1 o=>
  rw[hr] at e3
  simp only at e3
  have e3':=e3
  obtain⟨b',T',bf',cp',cb',hf',s',r',bd',q1,q2,rfl,hg',hl1',hl2',hh',hfr'⟩:=e3
  cases q1;cases q2
  cases o with
  |none=>
   have hres:EB (D.cur k) c k=(c1,none):=by unfold EB;rw[hF,hr]
   rw[hres]
   (refine AU Z<|Ap Z Z<|Ap Z Z<|Ac Z<|Af Z<|Aa ?_;apply BD;apply x_g;refine Ad<|Af Z<|Bd Z<|Aa<|A8 Z<|Ad<|Ak Z<|Ac Z<|Aa<|Ao ?_)
   exact Cw Z Z (Acd _) ⟨_,_,Z,e3',hD,Z⟩
  |some i=>
   have hres:EB (D.cur k) c k=({c1 with fr:=c1.fr.set i ⟨true,k,1,true,D.cur k⟩,miss:=c1.miss+1},some (D.cur k)):=by unfold EB;rw[hF,hr]
   rw[hres]
   have hi:=Ti hh hfr hr
   (refine AU Z<|Ap Z Z<|Ap Z Z<|Ac Z<|Af Z<|Aa ?_;apply BD;apply x_g;refine Ad<|Af Z<|Bd Z<|Aa<|AS Z<|Al ?_;apply BD;apply x_g;refine AI<|Ah Z<|AJ Z<|Aj Z<|Ai Z (Aq 0 Z Z)<|Ac Z ?_)
   refine Pa (A:=LD) Acn Z (h5 hD hk) (fun w d2 LD' hld ⟨u,e1,hu,hD'⟩=>⟨d2,[_,_,_]++LD',Vs.perm Acn,?_⟩)
   subst e1
   obtain⟨au,cu,rfl⟩:=RSl.val hu
   obtain⟨b1,T1,l1,x1,cs,q1,rfl,hcl,hcs,hle, -,hset⟩:=An.at (by omega) (An.mono (R:=RFr) LO hg' hld) hi
   cases q1
   (refine AU Z<|Ap Z Z<|Ap Z Z<|Ak Z<|Ac Z<|Aa ?_;apply BD;apply BD;apply x_g;refine AI<|Ac Z<|AW Z Z<|Aa ?_;apply Y3;rfl;apply x_g;apply Al;apply x_g;refine Ad<|Ah Z<|AJ Z<|Aj Z<|Ai Z (Aq 0 Z Z)<|Ac Z<|Ac Z<|Ak Z<|Ch Z<|CK _ Z Z Z (by omega) ?_)
   refine Et (cs:=[.bool true,vZ k,vZ 1,.bool true,.slice au (D.cur k).length cu]) 1 Z Z Z Z hle Z ?_
   (refine Aa<|Ad<|Ah Z<|AJ Z<|Aj Z<|Ai Z (Aq 0 Z Z) ?_)
   refine Kt Z Z ?_
   (refine AJ Z<|Aj Z ?_)
   refine Bg 0 [pZ bd,.slice (some ⟨bf',0,none⟩) c1.fr.length cp',.chan (some cb'),vZ c1.hand,vZ (wr c1.hits),vZ (wr (c1.miss+1))] Z Z Z Z (Aca Z) Z Z ?_
   (refine Aa<|Ad ?_)
   refine De (cs:=[]) (by simp) (by simp[Instr.fill,Bm]) (fun b3 T3=>?_)
   (apply AQ)
   have hbl:=hu.Bt
   refine I1 (R:=AE) 0 Z Z (An.MK (R:=AE) (sz:=1)) Z (RSl.src hu EX (by omega) _) (by omega) (by simp;omega) (by simp;omega) (fun v' h' ho'=>?_)
   rw[Adr] at ho'
   (refine AQ<|Ac Z<|Aa<|Ao ?_)
   refine A9 [v',vZ 0] ⟨Z,Z,trivial⟩ (d':=join d2 h') (L':=[bx b T' [pZ bd,.slice (some ⟨bf',0,none⟩) c1.fr.length cp',.chan (some cb'),vZ c1.hand,vZ (wr c1.hits),vZ (wr (c1.miss+1))],
    bx bf' T1 (patch l1 (i*5) [.bool true,vZ k,vZ 1,.bool true,.slice au (D.cur k).length cu]),sg cb' (.chan c1.fr.length (c1.free.map fun i:Nat=>Value.int .i64 i).toArray false s' r' false)]++LD') Vs.freeze
    ⟨_,_,Z,?_,hD'.mono (Le.Au _ _),v',Z,An.rsl (R:=AE) ho' AP (by omega) (Le.Au _ _) (Le.AZ _ _)⟩
   exact Ca.mk (by simp) (An.mono (R:=RFr) LO (hset _ ⟨true,k,1,true,D.cur k⟩ Z ⟨au,_,cu,Z,hu⟩) (Le.Au _ _)) hl1' hl2' hh' hfr'
def HW(P:Program)(f:FuncId):Prop:=∀{d}{c:CD}{dv cv L}{k:Nat},Ca d c dv cv L→Kj c 4611686018427387904→
 AB P f [cv,vZ k] d L (Ret fun r d' L'=>d'=d∧r=vZ (CJ c k).2∧Ca d (CJ c k).1 dv cv L')
def JX(a0 a1:Nat):A3:=⟨31,[(.tmp 4)],(sR (o1 4 (.mv z0) .done) (.seq (sR (om 7 0<|oc 8 a0 [7] .done) (.cond 8 (sR (o1 4 (.mv z1) .done) .ret) .skip)) (sR (om 10 0<|om 11 1<|oc 12 a1 [10,11]<|om 9 12<|oe 13 9 0<|oe 14 9 1<|om 5 13<|om 6 14 .done) (.seq (.block 0 (sR (om 16 5<|o1 17 (.eqp false 16 (.const (.pointer none)))<|om 15 17 .done) (.cond 15 (sR (o1 4 (.mv (kZ 240)) .done) .ret) (sR (om 19 5<|o1 20 (.nilc 19)<|oj 21 2 20<|ol 22 21<|ob 23 .eql 22 z0<|om 18 23 .done) (.cond 18 (sR (o1 4 (.mv (kZ 180)) .done) .ret) .skip))))) (sR (om 24 5<|o1 25 (.nilc 24)<|oj 26 2 25<|ol 27 26<|ob 28 .sub 27 z1<|o1 29 (.nilc 24)<|oj 30 2 29<|o0 (.st 1 30 28) .done) (sR (o1 4 (.mv z0) .done) .ret))))))⟩
def Vo{P f2}(hd:dec P f=some (JX f1 f2))(h1:II P f1)(h2:Lw P f2):HW P f:=by
 intro d c dv cv L k h hpb;have h0:=h;obtain⟨b,T,bf,cp,cb,hf,s,r,bd,rfl,rfl,rfl,hg,hl1,hl2,hh,hfr⟩:=h;refine AK hd (Aca Z) ?_;show gwp P _ _ _ _ _;refine Ad<|Ac Z<|Aa<|Ag<|Ad<|Ah Z<|Di (A:=[_]) (B:=[_,_]) Z Z h1 ?_;refine Aa<|AS Z<|Al<|Ad<|Ah Z<|Ac Z<|Di (A:=[_,_]) (B:=[_]) Z Z (h2 hg) ?_;cases hF:findF k c.fr with
 |none=>
  (refine AU Z<|Ap Z Z<|Ap Z Z<|Ah Z<|Ac Z<|Aa<|Ag<|Az<|Ad<|Ah Z<|KT Z Z<|Af Z<|Aa<|A8 Z<|Ad<|Ac Z<|Aa<|Ao ?_)
  have hr:CJ c k=(c,240):=by unfold CJ;rw[hF]
  rw[hr]
  exact Ci Z (Acd _) ⟨Z,Z,h0⟩
 |some i=>
  obtain⟨hi,hheld,hsec⟩:=GD hF
  obtain⟨b1,T1,l1,c1,cs,q1,rfl,hcl,hcs,hle,⟨a,n,c',rfl,hb⟩,hset⟩:=An.at (by omega) hg hi
  cases q1
  have hpi:=hpb _ (Acz hi)
  have c2:=hcs 2 _ Z
  have hgd:c.fr.getD i fz=c.fr[i]:=J7 hi
  by_cases hp:c.fr[i].pins=0
  ·(refine AU Z<|Ap Z Z<|Ap Z Z<|Ah Z<|Ac Z<|Aa<|Ag<|Az<|Ad<|Ah Z<|BZ Z Z<|Af Z<|Aa<|AS Z<|Ad<|Ah Z<|AJ Z<|Aj Z<|Ai Z (Aq 1 Z (by assumption))<|AT Z Z<|Af Z<|Aa<|AF Z (by omega)<|Ad<|Ac Z<|Aa<|Ao ?_)
   have hr:CJ c k=(c,180):=by unfold CJ;rw[hF];simp only[hgd];rw[if_pos hp]
   rw[hr]
   exact Ci Z (Acd _) ⟨Z,Z,h0⟩
  ·(refine AU Z<|Ap Z Z<|Ap Z Z<|Ah Z<|Ac Z<|Aa<|Ag<|Az<|Ad<|Ah Z<|BZ Z Z<|Af Z<|Aa<|AS Z<|Ad<|Ah Z<|AJ Z<|Aj Z<|Ai Z (Aq 1 Z (by assumption))<|AT Z Z<|Af Z<|Aa<|Aw Z (by omega)<|Al<|Ad<|Ah Z<|AJ Z<|Aj Z<|Ai Z (Aq 1 Z (by assumption))<|CP Z Z (by omega) (by omega)<|AJ Z<|Aj Z ?_)
   refine Bg 1 (patch l1 (i*5) [.bool c.fr[i].held,vZ c.fr[i].sec,vZ ((c.fr[i].pins:Int) - 1),.bool c.fr[i].late,.slice a n c']) Z Z Z Z (by omega) Z (Hr hcs (by simp) (by simp;omega)) ?_
   (refine Aa<|Ad<|Ac Z<|Aa<|Ao ?_)
   have hr:CJ c k=({c with fr:=c.fr.set i {c.fr[i] with pins:=c.fr[i].pins - 1}},0):=by unfold CJ;rw[hF];simp only[hgd];rw[if_neg hp]
   rw[hr]
   refine Ci Z (Acd _) ⟨Z,Z,?_⟩
   exact Ca.mk (by simp) (hset _ {c.fr[i] with pins:=c.fr[i].pins - 1} Z ⟨a,n,c',by simp only;rw[Int.ofNat_sub (by omega)];rfl,hb⟩) hl1 hl2 hh hfr
def PO(P:Program)(f:FuncId):Prop:=∀{d}{c:CD}{dv cv L}{k:Nat},Ca d c dv cv L→(∀i,findF k c.fr=some i→c.free.length<c.fr.length)→
 AB P f [cv,vZ k] d L (Ret fun r d' L'=>d'=d∧r=vZ (LL c k).2∧Ca d (LL c k).1 dv cv L')
def IU(P:Program)(f:FuncId):Prop:=∀{d}{c:CD}{dv cv L},Ca d c dv cv L→(∀f∈c.fr,f.sec≤8192)→
 AB P f [cv] d L (Ret fun r d' L'=>L'=L∧Dt d' r (DK c))
def Kb(a0:Nat):A3:=⟨29,[(.tmp 2)],(sR (o1 2 (.mv nS) .done) (.seq (sR (om 6 0<|oc 7 a0 [6] .done) (.cond 7 (sR (o1 2 (.mv nS) .done) .ret) .skip)) (sR (o1 3 (.mv nS) .done) (.seq (sR (om 8 0<|o1 9 (.nilc 8)<|oj 10 1 9<|ol 11 10<|oL 12 11<|o1 13 (.mv z0) .done) (.block 0 (.loop (sR (ob 14 .lss 13 12 .done) (.seq (.cond 14 .skip (.exit 0)) (.seq (.block 1 (sR (oI 15 5 11 13<|o1 16 (.ld (some 5) 15)<|o1 5 (.alo (.agg #[(.bool false),(vZ 0),(vZ 0),(.bool false),nV]))<|o0 (.st 5 5 16) .done) (sR (oj 17 0 5<|ol 18 17 .done) (.cond 18 (rG (om 19 3<|oj 20 1 5<|ol 21 20<|o1 22 (.bsl 1 1 [(vZ 0)] [(0,21)])<|o1 23 (.app 1 8 [(vZ 0)] 19 22)<|om 3 23 .done)) (rG (om 24 3<|o1 25 (.bsl 1 1 [(vZ 0)] [(0,(kZ (-1)))])<|o1 26 (.app 1 8 [(vZ 0)] 24 25)<|om 3 26 .done)))))) (rG (ob 27 .add 13 z1<|om 13 27 .done)))))))) (sR (om 28 3<|om 2 28 .done) .ret)))))⟩
def Xr{P}(hd:dec P f=some (Kb f1))(h1:II P f1):IU P f:=by
 intro d c dv cv L h hsec;obtain⟨b,T,bf,cp,cb,hf,s,r,bd,rfl,rfl,rfl,hg,hl1,hl2,hh,hfr⟩:=h;refine AK hd (Aca Z) ?_;show gwp P _ _ _ _ _;refine Ad<|Ak Z<|Aa<|Ag<|Ad<|Ah Z<|Di (A:=[_]) (B:=[_,_]) Z Z h1 ?_;refine Gi ⟨d,emp::[bx b T [pZ bd,.slice (some ⟨bf,0,none⟩) c.fr.length cp,.chan (some cb),vZ c.hand,vZ (wr c.hits),vZ (wr c.miss)],hf,sg cb (.chan c.fr.length (c.free.map fun i:Nat=>Value.int .i64 i).toArray false s r false)],Vs.emp,?_⟩;(refine AS Z<|Al<|Ad<|Ak Z<|Aa<|Ag<|Ad<|Ah Z<|AJ Z<|Aj Z<|Ai Z (Aq 1 Z Z)<|AO Z<|Ac Z<|Aa<|Az ?_);have hlen:(DK c).length=c.fr.length:=by simp[DK]
 refine BM (α:=Nat×Value×Ab) (fun x=>[(3,x.2.1),(11,.slice (some ⟨bf,0,none⟩) c.fr.length cp),(12,vZ c.fr.length),(13,vZ x.1)])
  (fun x d' L'=>d'=d∧x.1≤c.fr.length∧An 1 A7 d x.2.1 ((DK c).take x.1) x.2.2∧L'=x.2.2::[bx b T [pZ bd,.slice (some ⟨bf,0,none⟩) c.fr.length cp,.chan (some cb),vZ c.hand,vZ (wr c.hits),vZ (wr c.miss)],hf,sg cb (.chan c.fr.length (c.free.map fun i:Nat=>Value.int .i64 i).toArray false s r false)])
  (fun x=>c.fr.length - x.1) (0,nV,emp) ⟨Z,Z,Z,Z,trivial⟩ ⟨Z,by omega,An.nil,Z⟩ ?_
 rintro⟨i,v,hv⟩ ρ d' L' ⟨rfl,hi,hrow,rfl⟩;simp only at hi hrow⊢;by_cases e:i<c.fr.length
 ·obtain⟨b1,T1,l1,c1,cs,q1,rfl,hcl,hcs,hle,⟨a,n,c',rfl,hb⟩,hset⟩:=An.at (by omega) hg e;cases q1;have hsi:=hsec _ (Acz e);have htl:((DK c).take i).length=i:=by rw[Acs];omega
  have hnext:(DK c).take (i+1)=(DK c).take i++[if c.fr[i].held then(c.fr[i].sec:Int) else -1]:=by
   rw[Acp (by omega)];simp[DK]
  refine Ad<|AA Z Z<|Aa<|Ag<|AF Z (by omega)<|Al<|Ag<|Az<|Ad<|CK _ Z Z Z (by omega)<|NL _ 2 Z Z hcl hcs ?_;(apply Da;intro _ _);refine DQ 0 Z Z Z Z Z Z ?_;cases hh:c.fr[i].held with
  |true=>
   (refine Aa<|Ad<|Aj Z<|Ai Z (Aq 0 Z Z)<|Aa<|A8 Z<|AI<|AQ<|Aj Z<|Ai Z (Aq 0 Z Z) ?_)
   refine Db Z Z (fun b3 T3=>?_)
   refine Ep (R:=A7) 1 Z Z hrow Z (An.D7 (x:=(c.fr[i].sec:Int)) Z ⟨Z,by omega,by omega⟩) D2 (by omega) (by rw[htl];simp;omega) (by rw[htl];simp;omega) (fun v' h' ho'=>?_)
   refine BA d' (h'::[_,_,_]) (Vs.drop (Ade _ _)) ?_
   (refine AQ<|Aa<|AI<|AY Z Z (by omega) (by omega)<|Ac Z<|Aa ?_)
   rw[hh] at hnext
   exact⟨(i+1,v',h'),by simp only;omega,⟨Z,Z,Z,Z,trivial⟩,Z,e,by simp only[hnext];exact ho',Z⟩
  |false=>
   (refine Aa<|Ad<|Aj Z<|Ai Z (Aq 0 Z Z)<|Aa<|AS Z<|AI<|AQ ?_)
   refine Db Z Z (fun b3 T3=>?_)
   refine Ep (R:=A7) 1 Z Z hrow Z (An.D7 (x:=(-1:Int)) Z ⟨Z,by omega,by omega⟩) D2 (by omega) (by rw[htl];simp;omega) (by rw[htl];simp;omega) (fun v' h' ho'=>?_)
   refine BA d' (h'::[_,_,_]) (Vs.drop (Ade _ _)) ?_
   (refine AQ<|Aa<|AI<|AY Z Z (by omega) (by omega)<|Ac Z<|Aa ?_)
   rw[hh] at hnext
   exact⟨(i+1,v',h'),by simp only;omega,⟨Z,Z,Z,Z,trivial⟩,Z,e,by simp only[hnext];exact ho',Z⟩
 ·(refine Ad<|AA Z Z<|Aa<|Ag<|Aw Z (by omega)<|Ba<|Ad<|AQ<|AQ<|Aa<|Ao ?_);rw[Ady (by omega)] at hrow;exact A9 [v] ⟨Z,trivial⟩ Vs.freeze ⟨Z,An.rsl (R:=A7) hrow BE (by omega) (Le.Au _ _) (Le.AZ _ _)⟩
def Wq(P:Program)(f:FuncId):Prop:=∀{d}{c:CD}{dv cv L},Ca d c dv cv L→C2 P f [cv] d L (vZ (wr c.hits))
def QJ(P:Program)(f:FuncId):Prop:=∀{d}{c:CD}{dv cv L},Ca d c dv cv L→C2 P f [cv] d L (vZ (wr c.miss))
def JD(P:Program)(f:FuncId):Prop:=∀{d}{D:E0}{dv LD}{n:Nat},Dv d D dv LD→1≤D.syn.length→1≤n→n≤64→
 AB P f [dv,vZ n] d LD (Ret fun r d' L'=>d'=d∧∃cv LC,r=.tuple #[cv,vZ 0]∧L'=LC++LD∧Ca d ⟨Acq n fz,Adg n,0,0,0⟩ dv cv LC)
def SL(a0:Nat):G1:=(.mk 37 [(.tmp 4),(.tmp 5)] (.seq (.g (rG (o1 4 (.mv (.const (.pointer none)))<|o1 5 (.mv z0) .done))) (.seq (.g (.block 0 (sR (om 9 0<|oc 10 a0 [9]<|ob 11 .eql 10 z0<|om 8 11 .done) (.cond 8 (sR (o1 4 (.mv (.const (.pointer none)))<|o1 5 (.mv z1) .done) .ret) (sR (om 13 1<|ob 14 .lss 13 z1<|om 15 14<|gF 16 15 1<|oF 17 15 (.bin .gtr 16 (kZ 64))<|o1 18 (.pick 15 (.const (.bool true)) 17)<|om 12 18 .done) (.cond 12 (sR (o1 4 (.mv (.const (.pointer none)))<|o1 5 (.mv z2) .done) .ret) .skip)))))) (.seq (.g (.reg true (pm 19 0<|pm 20 1<|pm 22 1 (.alt ⟨(some 21),none,(.mks 5 56 [(.bool false),(vZ 0),(vZ 0),(.bool false),nV] 20 20)⟩ (o1 23 (.mop (.mkc 8 22)) (p1 24 (.bld [(0,1),(1,1),(2,1),(3,1),(4,1),(5,1)] [(.pointer none),nV,(.chan none),(vZ 0),(vZ 0),(vZ 0)] [(0,19),(1,21),(2,23)]) (o1 25 (.box 24) (.bar (pm 6 25 .done))))) (o1 23 (.mop (.mkc 8 22)) (o1 21 (.mks 5 56 [(.bool false),(vZ 0),(vZ 0),(.bool false),nV] 20 20) (p1 24 (.bld [(0,1),(1,1),(2,1),(3,1),(4,1),(5,1)] [(.pointer none),nV,(.chan none),(vZ 0),(vZ 0),(vZ 0)] [(0,19),(1,21),(2,23)]) (o1 25 (.box 24) (.bar (pm 6 25 .done)))))))))) (.seq (.seq (.g (rG (om 26 1<|o1 27 (.mv z0) .done))) (.block 1 (.loop (.seq (.g (rG (ob 28 .lss 27 26 .done))) (.seq (.g (.cond 28 .skip (.exit 1))) (.seq (.block 2 (.seq (.g (rG (om 29 27<|om 7 29 .done))) (.snd (om 30 6<|o1 31 (.nilc 30)<|oj 32 2 31<|ol 33 32<|om 34 7 .done) none 33 34 .done))) (.g (rG (ob 35 .add 27 z1<|om 27 35 .done))))))))) (.g (sR (om 36 6<|om 4 36<|o1 5 (.mv z0) .done) .ret)))))))
def ZY{P}(hd:Fm false false P f=some (SL f1))(h1:HK P f1):JD P f:=by
 intro d D dv LD n hD hs hn1 hn2;have hD0:=hD;obtain⟨bd, -, -, -, -, -, -,rfl, -⟩:=hD;refine EU hd (Aca Z) ?_;show xwp P _ _ _ _ _;(apply BD;apply x_g;apply AI;apply Ah;rfl;apply Ac;rfl;apply Aa;apply BD;apply x_g;apply Az;apply Ag;apply AI;apply Ah;rfl);refine Lz (A:=LD) (B:=[]) (by rw[Adm]) Z (h1 hD0) ?_;(refine AT Z Z<|Af Z<|Aa<|Aw Z (by omega)<|Ad<|Ac Z<|AA Z Z<|Af Z<|A1 Z (by omega)<|Ae Z<|Ac Z<|Ae Z<|Bb Z Z<|Av Z Z<|Af Z<|Aa<|Aw Z (by omega)<|Al ?_;apply BD;apply x_g);refine Abe (fun ρ d' L'=>d'=d∧∃b T bf Tf cb,Bk ρ [(1,vZ n),(6,pZ b)]∧
  L'=[bx b T [pZ bd,.slice (some ⟨bf,0,none⟩) n n,.chan (some cb),vZ 0,vZ 0,vZ 0],bx bf Tf (Bm [.bool false,vZ 0,vZ 0,.bool false,nV] (n*5)),sg cb (.chan n #[] false 0 0 false)]++LD) ?_ ?_
 ·refine BX [] _ Z ?_;refine Ah Z<|Ac Z<|Ac Z<|Ue ?_ ?_
  ·refine JO Z Z (Acj n) (by omega) (by omega) (fun bf Tf=>?_);refine YQ Z (by omega) (by omega) (fun cb=>?_);refine Ch (cs:=[pZ bd,.slice (some ⟨bf,0,none⟩) n n,.chan (some cb),vZ 0,vZ 0,vZ 0]) Z ?_;refine CC Z (fun b T=>?_);(refine Du<|Ah Z ?_);exact Gi ⟨d,_::_::_::LD,Vs.perm ((Adb _ _ LD).cons _),Z,b,T,bf,Tf,cb,⟨Z,Z,trivial⟩,Z⟩
  ·refine YQ Z (by omega) (by omega) (fun cb=>?_);refine JO Z Z (Acj n) (by omega) (by omega) (fun bf Tf=>?_);refine Ch (cs:=[pZ bd,.slice (some ⟨bf,0,none⟩) n n,.chan (some cb),vZ 0,vZ 0,vZ 0]) Z ?_;refine CC Z (fun b T=>?_);(refine Du<|Ah Z ?_);exact Gi ⟨d,[_,_,_]++LD,Vs.refl _ _,Z,b,T,bf,Tf,cb,⟨Z,Z,trivial⟩,Z⟩
 ·rintro ρ d' L' ⟨rfl,b,T,bf,Tf,cb,hsl,rfl⟩;refine OR _ hsl ?_;(apply BD;apply BD;apply x_g;apply AI;apply Ac;rfl;apply Ac;rfl;apply Aa;apply Gd);refine Ow (α:=Nat) (fun i=>[(6,pZ b),(26,vZ n),(27,vZ i)])
   (fun i d2 L'=>d2=d'∧i≤n∧L'=[bx b T [pZ bd,.slice (some ⟨bf,0,none⟩) n n,.chan (some cb),vZ 0,vZ 0,vZ 0],bx bf Tf (Bm [.bool false,vZ 0,vZ 0,.bool false,nV] (n*5)),sg cb (.chan n ((Adg i).map fun i:Nat=>Value.int .i64 i).toArray false i 0 false)]++LD)
   (fun i=>n - i) 0 ⟨Z,Z,Z,trivial⟩ ⟨Z,by omega,Z⟩ ?_
  rintro i ρ d2 L2 ⟨rfl,hi,rfl⟩;by_cases e:i<n
  ·(apply BD;apply x_g;apply AI;apply AA;rfl;rfl;apply Aa;apply BD;apply x_g;refine AF Z (by omega) ?_;apply Al;apply BD;apply Gd;apply BD;apply x_g;apply AI;apply Ac;rfl;apply Ac;rfl;apply Aa;apply AbM;apply Ah;rfl;apply AJ;rfl;apply Aj;rfl;apply Ai;rfl;exact Aq 0 Z Z;apply Ac;rfl;apply Aa);refine AaE (cap:=n) (buf:=(Adg i).map fun i:Nat=>Value.int .i64 i) (v:=vZ i) 2 Z Z (by simpa using e) Z ?_;(apply Aa;apply x_g;refine AI<|AY Z Z (by omega) (by omega)<|Ac Z<|Aa ?_);refine⟨i+1,by omega,⟨Z,Z,Z,trivial⟩,Z,e,?_⟩
   rw[List.range_succ,Adl];rfl
  ·(apply BD;apply x_g;apply AI;apply AA;rfl;rfl;apply Aa;apply BD;apply x_g;refine Aw Z (by omega) ?_;apply Ba;apply x_g;apply Ag;apply AI;apply Ah;rfl;apply Ah;rfl;apply Ac;rfl;apply Aa;apply Ao);have ei:i=n:=by omega
   subst ei;refine Cw Z Z (Acd _) ⟨Z,_,_,Z,Z,?_⟩;have hw0:wr 0=0:=Z;have:=Ca.mk (c:=⟨Acq i fz,Adg i,0,0,0⟩) (d:=d2) (b:=b) (T:=T) (cb:=cb) (s:=i) (r:=0) (bd:=bd) (n:=i) (by simp) (An.zero (b:=bf) (T:=Tf) (R:=RFr) (x:=fz) Z (by omega) ⟨none,0,0,Z,RSl.nil⟩ (by omega)) hn1 hn2 hn1 (fun j hj=>by simpa using hj);exact this
end Go.Gk.Cch
end
section
namespace Go.Gk.Node
open Go Go.Gk
attribute [local irreducible] gwp gws
def Fh{α}(R:Ab→List Value→α→Prop)(by_:Nat)(P:Program)(f:FuncId):Prop:=∀{d v}{xs:List α},RSl 1 R d v xs→xs.length*by_≤140737488355328→
 AB P f [v] d [] (Ret fun r d' L'=>d'=d∧∃h,L'=[h]∧An 1 R d r xs h)
def HU:A3:=⟨8,[(.tmp 2)],(sR (o1 2 (.mv nS) .done) (.seq (sR (om 3 0<|o1 4 (.eqs false 3 nS) .done) (.cond 4 (sR (o1 2 (.mv nS) .done) .ret) .skip)) (sR (o1 5 (.bsl 0 1 [(.int .u8 0)] [])<|om 6 0<|o1 7 (.app 1 1 [(.int .u8 0)] 5 6)<|om 2 7 .done) .ret)))⟩
def Oa{P f}(hd:dec P f=some HU):Fh AE 1 P f:=by
 intro d v xs hv hb;have hv':=hv;have hxl:=RSl.Bt hv;obtain⟨a,c,b,o,rfl,h2,h3,h4,h5,_⟩:=hv;refine AK hd (Aca Z) ?_;show gwp P _ _ _ _ _;cases a with
 |none=>
  have:xs=[]:=Acl (by have:=h4 Z;omega)
  subst this
  apply Ag;apply AI
  refine BA d [emp] Vs.emp ?_
  (refine Ak Z<|Aa<|Ag<|Ad<|Ak Z<|NT Z Z<|Aa<|A8 Z<|Ad<|Ak Z<|Aa<|Ao ?_)
  exact Ci (L':=[emp]) Z (Acd _) ⟨Z,emp,Z,An.nil⟩
 |some a=>
  (refine Ad<|Ak Z<|Aa<|Ag<|Ad<|Ak Z<|Kk Z Z<|Aa<|AS Z<|Al<|Ad ?_)
  refine De (cs:=[]) (by omega) Z (fun b8 T8=>?_)
  (apply Ak;rfl)
  refine I1 0 Z Z (An.MK (R:=AE) (sz:=1)) Z (RSl.src (R:=AE) (xs:=xs) hv' EX (by omega) _) (by omega) (by simp;omega) (by simp;omega) (fun v5 h5 hrow5=>?_)
  (refine AQ<|Aa<|Ao ?_)
  exact Ci (L':=[h5]) Z (Acd _) ⟨Z,h5,Z,hrow5⟩
def Iz:A3:=⟨8,[(.tmp 2)],(sR (o1 2 (.mv nS) .done) (.seq (sR (om 3 0<|o1 4 (.eqs false 3 nS) .done) (.cond 4 (sR (o1 2 (.mv nS) .done) .ret) .skip)) (sR (o1 5 (.bsl 0 1 [(vZ 0)] [])<|om 6 0<|o1 7 (.app 1 8 [(vZ 0)] 5 6)<|om 2 7 .done) .ret)))⟩
def P8{P f}(hd:dec P f=some Iz):Fh A7 8 P f:=by
 intro d v xs hv hb;have hv':=hv;have hxl:=RSl.Bt hv;obtain⟨a,c,b,o,rfl,h2,h3,h4,h5,_⟩:=hv;refine AK hd (Aca Z) ?_;show gwp P _ _ _ _ _;cases a with
 |none=>
  have:xs=[]:=Acl (by have:=h4 Z;omega)
  subst this
  apply Ag;apply AI
  refine BA d [emp] Vs.emp ?_
  (refine Ak Z<|Aa<|Ag<|Ad<|Ak Z<|NT Z Z<|Aa<|A8 Z<|Ad<|Ak Z<|Aa<|Ao ?_)
  exact Ci (L':=[emp]) Z (Acd _) ⟨Z,emp,Z,An.nil⟩
 |some a=>
  (refine Ad<|Ak Z<|Aa<|Ag<|Ad<|Ak Z<|Kk Z Z<|Aa<|AS Z<|Al<|Ad ?_)
  refine De (cs:=[]) (by omega) Z (fun b8 T8=>?_)
  (apply Ak;rfl)
  refine I1 0 Z Z (An.MK (R:=A7) (sz:=1)) Z (RSl.src (R:=A7) (xs:=xs) hv' D2 (by omega) _) (by omega) (by simp;omega) (by simp;omega) (fun v5 h5 hrow5=>?_)
  (refine AQ<|Aa<|Ao ?_)
  exact Ci (L':=[h5]) Z (Acd _) ⟨Z,h5,Z,hrow5⟩
end Go.Gk.Node
end
section
namespace Go.Gk.Pgr
open Go Go.Gk Go.Gk.Dev Go.Gk.Cch Go.Gk.Node
attribute [local irreducible] gwp gws xwp
variable{d:Ab}{s:PD}{P:Program}{f f1 f2:FuncId}
abbrev kI(k:Int):Value:=.int .i64 k
abbrev mpI(mb:Nat)(ms:List (Int×Value×Nat))(clk:Nat):Ab:=mp kI id mb ms clk
def LQ(d:Ab)(frm:Nat)(kinds:List Int)(fb:Nat→Sec)(ms:List (Int×Value×Nat)):Prop:=∀i,i<kinds.length→kinds.getD i 0=1→∃v,CV ((frm+i:Nat):Int) ms=some v∧AH d v (fb i)∧(fb i).length=256
def LQ.mono{d'}{frm:Nat}{kinds:List Int}{fb:Nat→Sec}{ms:List (Int×Value×Nat)}(h:LQ d frm kinds fb ms)(hl:Le d d'):LQ d' frm kinds fb ms:=fun i hi hk=>
 let ⟨v,h1,h2,h3⟩:=h i hi hk
 ⟨v,h1,h2.mono hl,h3⟩
def Pg(d:Ab)(s:PD)(dv pv:Value)(L:List Ab):Prop:=
 ∃b T cv bk cp hk mb ms clk c LC LD bd,pv=pZ b∧dv=pZ bd∧
  L=bx b T [dv,cv,vZ s.frm,.slice (some ⟨bk,0,none⟩) s.kinds.length cp,.map (some mb),vZ (wr s.round),vZ (wr s.tc)]::hk::mpI mb ms clk::(LC++LD)∧
  An 1 A7 d (.slice (some ⟨bk,0,none⟩) s.kinds.length cp) s.kinds hk∧LQ d s.frm s.kinds s.fb ms∧Ca d c dv cv LC∧Dv d ⟨s.syn,[]⟩ dv LD∧CZ s c∧Good s
def Pg.mono{d' dv pv L}(h:Pg d s dv pv L)(hl:Le d d'):Pg d' s dv pv L:=
 let ⟨b,T,cv,bk,cp,hk,mb,ms,clk,c,LC,LD,bd,h1,h2,h3,h4,h5,h6,h7,h8,h9⟩:=h
 ⟨b,T,cv,bk,cp,hk,mb,ms,clk,c,LC,LD,bd,h1,h2,h3,An.mono (R:=A7) BE h4 hl,h5.mono hl,h6.mono hl,h7.mono hl,h8,h9⟩
def Pg.ptr{dv pv L}(h:Pg d s dv pv L):∃b,pv=pZ b:=let ⟨b,_,_,_,_,_,_,_,_,_,_,_,_,h1,_⟩:=h;⟨b,h1⟩
def Pg.GL{dv pv L}(h:Pg d s dv pv L):Good s:=let ⟨_,_,_,_,_,_,_,_,_,_,_,_,_,_,_,_,_,_,_,_,_,h9⟩:=h;h9
def Pg.mk{b:Nat}{T cv}{bk cp n:Nat}{hk}{mb:Nat}{ms:List (Int×Value×Nat)}{clk:Nat}{c:CD}{LC LD}{bd:Nat}(hn:s.kinds.length=n)
  (h4:An 1 A7 d (.slice (some ⟨bk,0,none⟩) n cp) s.kinds hk) (h5:LQ d s.frm s.kinds s.fb ms) (h6:Ca d c (pZ bd) cv LC) (h7:Dv d ⟨s.syn,[]⟩ (pZ bd) LD) (h8:CZ s c) (h9:Good s):
  Pg d s (pZ bd) (pZ b) (bx b T [pZ bd,cv,vZ s.frm,.slice (some ⟨bk,0,none⟩) n cp,.map (some mb),vZ (wr s.round),vZ (wr s.tc)]::hk::mpI mb ms clk::(LC++LD)):=by
 subst hn
 exact⟨b,T,cv,bk,cp,hk,mb,ms,clk,c,LC,LD,bd,Z,Z,Z,h4,h5,h6,h7,h8,h9⟩
def FB(P:Program)(f:FuncId):Prop:=∀{d}{b bd:Nat}{T l},C2 P f [pZ b] d [bx b T (.pointer (some ⟨bd,0,none⟩)::l)] (.bool false)
def K9:A3:=⟨12,[(.tmp 2)],(sR (o1 2 (.mv (.const (.bool false))) .done) (sR (om 3 0<|o1 4 (.eqp false 3 (.const (.pointer none)))<|om 5 4<|gF 6 5 0<|oF 7 5 (.nilc 6)<|oF 8 5 (.fld 0 7)<|oF 9 5 (.ld none 8)<|oF 10 5 (.eqp false 9 (.const (.pointer none)))<|o1 11 (.pick 5 (.const (.bool true)) 10)<|om 2 11 .done) .ret))⟩
def XT(hd:dec P f=some K9):FB P f:=by
 intro d b bd T l;refine AK hd (Aca Z) ?_;show gwp P _ _ _ _ _;(refine Ad<|Af Z<|Aa<|Ad<|Ah Z<|BZ Z Z<|Af Z<|Ae Z<|Ah Z<|Ae Z<|AJ Z<|Ae Z<|Aj Z<|Ae Z<|Ai Z (Aq 0 Z Z)<|Ae Z<|BZ Z Z<|Av Z Z<|Af Z<|Aa<|Ao ?_);exact Jt Z (Acd _)
def G5(frm:Nat)(ks:List Int)(k:Int):Int:=if (frm:Int)≤k∧k<(frm:Int)+ks.length then ks.getD (k - frm).toNat 0 else -1
def IL(P:Program)(f:FuncId):Prop:=∀{d}{b bk cp frm:Nat}{T x0 x1 x4 x5 x6 hk}{ks:List Int}{k:Int},An 1 A7 d (.slice (some ⟨bk,0,none⟩) ks.length cp) ks hk→frm≤8192→
 C2 P f [pZ b,vZ k] d [bx b T [x0,x1,vZ frm,.slice (some ⟨bk,0,none⟩) ks.length cp,x4,x5,x6],hk] (vZ (G5 frm ks k))
def J9:A3:=⟨37,[(.tmp 4)],(sR (o1 4 (.mv z0) .done) (.seq (.seq (.reg true (pm 5 1<|pm 6 0<|p1 7 (.nilc 6)<|p1 8 (.fld 2 7)<|pl 9 8<|p1 10 (.bin .lss 5 9)<|pm 11 10 (.op true ⟨(some 12),(some (11,false)),(.mv 1)⟩ (.op true ⟨(some 13),(some (11,false)),(.mv 0)⟩ (.op true ⟨(some 14),(some (11,false)),(.nilc 13)⟩ (.op true ⟨(some 15),(some (11,false)),(.fld 2 14)⟩ (.op true ⟨(some 16),(some (11,false)),(.ld none 15)⟩ (.op true ⟨(some 17),(some (11,false)),(.mv 0)⟩ (.op true ⟨(some 18),(some (11,false)),(.nilc 17)⟩ (.op true ⟨(some 19),(some (11,false)),(.fld 3 18)⟩ (.op true ⟨(some 20),(some (11,false)),(.ld none 19)⟩ (.op true ⟨(some 21),(some (11,false)),(.len 20)⟩ (.op true ⟨(some 22),(some (11,false)),(.bin .add 16 21)⟩ (.op true ⟨(some 23),(some (11,false)),(.bin .geq 12 22)⟩ (p1 24 (.pick 11 (.const (.bool true)) 23) .done))))))))))))))) (.cond 24 (sR (o1 4 (.mv (kZ (-1))) .done) .ret) .skip)) (.seq (.reg true (pm 25 0<|p1 26 (.nilc 25)<|p1 27 (.fld 3 26)<|pl 28 27<|pm 29 1<|pm 30 0<|p1 31 (.nilc 30)<|p1 32 (.fld 2 31)<|pl 33 32<|p1 34 (.bin .sub 29 33)<|p1 35 (.idx 1 28 34)<|pl 36 35 (.bar (pm 4 36 .done)))) .ret)))⟩
def Aaf(hd:dec P f=some J9):IL P f:=by
 intro d b bk cp frm T x0 x1 x4 x5 x6 hk ks k hg hf;have hlen:=hg.Bt;refine AK hd (Aca Z) ?_;show gwp P _ _ _ _ _;by_cases h1:k<frm
 ·(refine Ad<|Ac Z<|Aa<|Ag<|Ag<|C1<|Ac Z<|Ah Z<|AJ Z<|Aj Z<|Ai Z (Aq 0 Z Z)<|AA Z Z<|Af Z<|A4 Z (by omega)<|Am Z<|Am Z<|Am Z<|Am Z<|Am Z<|Am Z<|Am Z<|Am Z<|Am Z<|Am Z<|Am Z<|Am Z<|Ay Z Z<|By<|A8 Z<|Ad<|Ac Z<|Aa<|Ao ?_);rw[show G5 frm ks k= -1 by unfold G5;rw[if_neg (by omega)]];exact Jt Z (Acd _)
 ·by_cases h2:k<(frm:Int)+ks.length
  ·obtain⟨m,hm⟩:∃m:Nat,k=(frm:Int)+m:=⟨(k - frm).toNat,by omega⟩
   subst hm;have hml:m<ks.length:=by omega
   obtain⟨b1,T1,l1,c1,cs,q1,rfl,hcl,hcs,hle,⟨rfl, -, -⟩, -⟩:=An.at (by omega) hg hml;cases q1;have c0:=hcs 0 _ Z;rw[show G5 frm ks ((frm:Int)+m)=ks[m] by
    unfold G5;rw[if_pos (by omega),show((frm:Int)+m - frm).toNat=m by omega,Acg,Acf hml];rfl]
   refine Ad<|Ac Z<|Aa<|Ag<|Ag<|C1<|Ac Z<|Ah Z<|AJ Z<|Aj Z<|Ai Z (Aq 0 Z Z)<|AA Z Z<|Af Z<|A1 Z (by omega)<|Ae Z<|Ac Z<|Ae Z<|Ah Z<|Ae Z<|AJ Z<|Ae Z<|Aj Z<|Ae Z<|Ai Z (Aq 0 Z Z)<|Ae Z<|Ah Z<|Ae Z<|AJ Z<|Ae Z<|Aj Z<|Ae Z<|Ai Z (Aq 0 Z Z)<|Ae Z<|AO Z<|Ae Z<|AY Z Z (by omega) (by omega)<|Ae Z<|Ds Z Z<|Av Z Z<|By<|Aw Z (by omega)<|Al<|Ag<|C1<|Ah Z<|AJ Z<|Aj Z<|Ai Z (Aq 0 Z Z)<|Ac Z<|Ah Z<|AJ Z<|Aj Z<|Ai Z (Aq 0 Z Z)<|CP Z Z (by omega) (by omega)<|CK m Z Z (by omega) hml ?_;(refine Ai Z (Aq 1 Z (by assumption))<|Du<|Ac Z<|Aa<|Ao ?_);exact Jt Z (Acd _)
  ·(refine Ad<|Ac Z<|Aa<|Ag<|Ag<|C1<|Ac Z<|Ah Z<|AJ Z<|Aj Z<|Ai Z (Aq 0 Z Z)<|AA Z Z<|Af Z<|A1 Z (by omega)<|Ae Z<|Ac Z<|Ae Z<|Ah Z<|Ae Z<|AJ Z<|Ae Z<|Aj Z<|Ae Z<|Ai Z (Aq 0 Z Z)<|Ae Z<|Ah Z<|Ae Z<|AJ Z<|Ae Z<|Aj Z<|Ae Z<|Ai Z (Aq 0 Z Z)<|Ae Z<|AO Z<|Ae Z<|AY Z Z (by omega) (by omega)<|Ae Z<|Ds Z Z<|Av Z Z<|By<|AF Z (by omega)<|Ad<|Ac Z<|Aa<|Ao ?_);rw[show G5 frm ks k= -1 by unfold G5;rw[if_neg (by omega)]];exact Jt Z (Acd _)
def O6(P:Program)(f:FuncId):Prop:=∀{d v}{xs:List Int}{x:Int},RSl 1 A7 d v xs→Cy P f [v,vZ x] d (vZ (match CH x xs with|some i=>(i:Int)|none=> -1))
def IC:A3:=⟨19,[(.tmp 4)],(sR (o1 4 (.mv z0) .done) (.seq (sR (om 6 0<|oL 7 6<|o1 8 (.mv z0) .done) (.block 0 (.loop (sR (ob 9 .lss 8 7 .done) (.seq (.cond 9 .skip (.exit 0)) (.seq (.block 1 (sR (om 10 8<|om 5 10 .done) (sR (om 11 1<|om 12 0<|om 13 5<|oI 14 1 12 13<|ol 15 14<|ob 16 .eql 11 15 .done) (.cond 16 (sR (om 17 5<|om 4 17 .done) .ret) .skip)))) (rG (ob 18 .add 8 z1<|om 8 18 .done)))))))) (sR (o1 4 (.mv (kZ (-1))) .done) .ret)))⟩
def Ym(hd:dec P f=some IC):O6 P f:=by
 intro d v xs x hv;have hlen:=hv.Bt;refine AK hd (Aca Z) ?_;show gwp P _ _ _ _ _;refine Ad<|Ac Z<|Aa<|Ag<|Ad<|AQ<|Bv Z (by assumption)<|Ac Z<|Aa<|Az<|DO (α:=Nat) (fun i=>[(0,v),(1,vZ x),(7,vZ xs.length),(8,vZ i)]) (fun _=>[]) (fun i=>i≤xs.length∧CH x xs=(CH x (xs.drop i)).map (·+i)) (fun i=>xs.length - i) 0 ⟨Z,Z,Z,Z,trivial⟩ Z ⟨by omega,by simp⟩ ?_;rintro i ρ ⟨hi,hF⟩;by_cases e:i<xs.length
 ·rw[Sp e] at hF;by_cases hx:x=xs[i]
  ·(refine Ad<|AA Z Z<|Aa<|Ag<|AF Z (by omega)<|Al<|Ag<|Az<|Ad<|Ac Z<|Ac Z<|Aa<|Ad<|Ac Z<|AQ<|Ac Z<|A0 (sz:=1) (R:=A7) (by rfl) (by assumption) (by rfl) Z (by omega) ?_;rintro _ _ _ _ _ ⟨rfl,_,_⟩;refine Ai Z (Bp (by assumption) Z)<|AT Z Z<|Aa<|AF Z (by omega)<|Ad<|Ac Z<|Ac Z<|Aa<|Ao ?_);rw[if_pos hx,Aff,Aee] at hF;refine Hx Z ?_;rw[hF]
  ·(refine Ad<|AA Z Z<|Aa<|Ag<|AF Z (by omega)<|Al<|Ag<|Az<|Ad<|Ac Z<|Ac Z<|Aa<|Ad<|Ac Z<|AQ<|Ac Z<|A0 (sz:=1) (R:=A7) (by rfl) (by assumption) (by rfl) Z (by omega) ?_;rintro _ _ _ _ _ ⟨rfl,_,_⟩;refine Ai Z (Bp (by assumption) Z)<|AT Z Z<|Aa<|Aw Z (by omega)<|Al<|AI<|AY Z Z (by omega) (by omega)<|Ac Z<|Aa ?_);rw[if_neg hx,Option.map_map] at hF;exact⟨i+1,by omega,⟨Z,Z,Z,Z,trivial⟩,Z,Z,e,by rw[hF];congr 1;funext z;simp only[Function.comp];omega⟩
 ·(refine Ad<|AA Z Z<|Aa<|Ag<|Aw Z (by omega)<|Ba<|Ad<|Ac Z<|Aa<|Ao ?_);have:CH x xs=none:=by rw[hF,Afe (by omega)];rfl
  refine Hx Z ?_;rw[this]
def Ho(P:Program)(f:FuncId):Prop:=∀{d}{mb clk:Nat}{ms:List (Int×Value×Nat)},Le (mpI mb ms clk) d→AB P f [.map (some mb)] d [] (Ret fun r d' L'=>d'=d∧∃q,r=.map (some q)∧L'=[mpI q ms clk])
def FM(a0:Nat):A3:=⟨9,[(.tmp 2)],(sR (o1 2 (.mv (.const (.map none))) .done) (.seq (sR (om 3 0<|o1 4 (.eqm false 3 (.const (.map none))) .done) (.cond 4 (sR (o1 2 (.mv (.const (.map none))) .done) .ret) .skip)) (sR (om 5 0<|o1 6 (.mki a0 5)<|o1 7 (.mop (.cln 6))<|o1 8 (.tas a0 7)<|om 2 8 .done) .ret)))⟩
def Sl{t1:Nat}(hd:dec P f=some (FM t1)):Ho P f:=by
 intro d mb clk ms hm;refine AK hd (Aca Z) ?_;show gwp P _ _ _ _ _;refine Ad<|AQ<|Aa<|Ag<|Ad<|AQ<|AaL Z Z ?_;refine Aa<|AS Z<|Al<|Ad<|AQ<|Abi<|Abr Z ⟨d,.inl Z,hm _ _ (B2 _ _)⟩ (fun q=>?_);refine AbA Z ?_;(refine AQ<|Aa<|Ao ?_);exact Ci Z (Acd _) ⟨Z,q,Z,Z⟩
def OV(s:PD)(k:Int):G5 s.frm s.kinds k=s.kind k:=Z
def Ix:No 0 kI:=Aao
def FO(P:Program)(f:FuncId):Prop:=∀{d s dv pv L},Pg d s dv pv L→AB P f [pv] d L (Ret fun r d' L'=>r=.tuple #[vZ s.AR.2.1,vZ s.AR.2.2]∧Pg d' s.AR.1 dv pv L')
def Kq(a0 a1:Nat):A3:=⟨37,[(.tmp 2),(.tmp 3)],(sR (o1 2 (.mv z0)<|o1 3 (.mv z0) .done) (.seq (sR (om 5 0<|oc 6 a0 [5] .done) (.cond 6 (sR (o1 2 (.mv z0)<|o1 3 (.mv z1) .done) .ret) .skip)) (sR (om 7 0<|o1 8 (.nilc 7)<|oj 9 3 8<|ol 10 9<|oc 11 a1 [10,z0]<|om 4 11 .done) (.seq (sR (om 12 4<|ob 13 .lss 12 z0 .done) (.cond 13 (sR (o1 2 (.mv z0)<|o1 3 (.mv (kZ 190)) .done) .ret) .skip)) (sR (om 14 0<|o1 15 (.nilc 14)<|oj 16 3 15<|ol 17 16<|om 18 4<|oI 19 1 17 18<|o0 (.st 1 19 z1) .done) (.seq (.reg true (pm 20 0<|p1 21 (.nilc 20)<|p1 22 (.fld 4 21)<|pl 23 22<|pm 24 0<|p1 25 (.nilc 24)<|p1 26 (.fld 2 25)<|pl 27 26<|pm 28 4<|p1 29 (.bin .add 27 28)<|o1 30 (.mks 1 1 [(.int .u8 0)] (kZ 256) (kZ 256))<|o0 (.mop (.up 0 23 29 30)) .done)) (sR (om 31 0<|o1 32 (.nilc 31)<|oj 33 2 32<|ol 34 33<|om 35 4<|ob 36 .add 34 35<|om 2 36<|o1 3 (.mv z0) .done) .ret)))))))⟩
set_option maxRecDepth 4000 in
def OC(hd:dec P f=some (Kq f1 f2))(h1:FB P f1)(h2:O6 P f2):FO P f:=by
 intro d s dv pv L hp;have hp0:=hp;obtain⟨b,T,cv,bk,cp,hk,mb,ms,clk,c,LC,LD,bd,rfl,rfl,rfl,hg,hm,hC,hD,hc,hG⟩:=hp;have hone:=hG.one;have hlen:=hG.len;have hinn:=hG.inn;have hsyn:=hG.syn;refine AK hd (Aca Z) ?_;show gwp P _ _ _ _ _;refine Ad<|Ac Z<|Ac Z<|Aa<|Ag<|Ad<|Ah Z<|Di (A:=[_]) (B:=_::_::(LC++LD)) Z Z h1 ?_;refine Aa<|AS Z<|Al<|Ad<|Ah Z<|AJ Z<|Aj Z<|Ai Z (Aq 0 Z Z)<|Lz (A:=[hk]) (B:=_::_::(LC++LD)) (Adb _ _ _) Z (Cy.borrow (fun d1 hl1 hk1=>h2 (x:=0) (An.rsl (R:=A7) hg BE (by omega) hl1 (hk1 _ (Adh.2 Z))))) ?_;cases hq:CH 0 s.kinds with
 |none=>
  refine Gf (g:=11) (v:=vZ (-1)) Z ?_
  (refine Ac Z<|Aa<|Ag<|Ad<|Ac Z<|AA Z Z<|Aa<|AF Z (by omega)<|Ad<|Ac Z<|Ac Z<|Aa<|Ao ?_)
  have hr:s.AR=(s,0,190):=by unfold PD.AR;rw[hq]
  rw[hr]
  exact Cw Z Z (Acd _) ⟨Z,hp0⟩
 |some i=>
  obtain⟨hi,h0⟩:=FQ hq
  have hr:s.AR=(s.Hf i,((s.frm+i:Nat):Int),0):=by unfold PD.AR;rw[hq]
  rw[hr]
  obtain⟨b1,T1,l1,c1,cs,q1,rfl,hcl,hcs,hle, -,hset⟩:=An.at (by omega) hg hi
  cases q1
  refine Gf (g:=11) (v:=vZ i) Z ?_
  (refine Ac Z<|Aa<|Ag<|Ad<|Ac Z<|AA Z Z<|Aa<|Aw Z (by omega)<|Al<|Ad<|Ah Z<|AJ Z<|Aj Z<|Ai Z (Aq 0 Z Z)<|Ac Z<|CK _ Z Z Z (by omega) ?_)
  refine Bg 1 (patch l1 (i*1) [vZ 1]) Z Z Z Z (by omega) Z Z ?_
  (refine Aa<|Ag ?_)
  refine BX [_] _ Z ?_
  (refine Ah Z<|AJ Z<|Aj Z<|Ai Z (Aq 0 Z Z)<|Ah Z<|AJ Z<|Aj Z<|Ai Z (Aq 0 Z Z)<|Ac Z<|AY Z Z (by omega) (by omega) ?_)
  refine JO (n:=256) (c:=256) Z Z (Acj _) (by omega) (by omega) (fun bz Tz=>?_)
  refine Qs (kE:=kI) (vE:=id) (k:=((s.frm+i:Nat):Int)) Ix 2 Z Z ?_ Z ?_
  ·exact int_eq (by omega)
  refine LA ⟨join d (bx bz Tz (Bm [.int .u8 0] (256*1))),_::_::_::(LC++LD),(Vs.perm (Adb _ _ _)).trans Vs.freeze,?_⟩
  have hl:Le d (join d (bx bz Tz (Bm [.int .u8 0] (256*1)))):=Le.Au _ _
  have hz:AH (join d (bx bz Tz (Bm [.int .u8 0] (256*1)))) (.slice (some ⟨bz,0,none⟩) 256 256) IA:=
   An.rsl (R:=AE) (sz:=1) (An.zero (sz:=1) (z:=[.int .u8 0]) (d:=d) (b:=bz) (T:=Tz) (n:=256) (R:=AE) (x:=(0:UInt8)) Z (by omega) Z (by omega)) AP (by omega) hl (Le.AZ _ _)
  have hlk:(s.Hf i).kinds.length=s.kinds.length:=by simp[PD.Hf]
  have hP:=Pg.mk (d:=join d (bx bz Tz (Bm [.int .u8 0] (256*1)))) (s:=s.Hf i) (b:=b) (T:=T) (cv:=cv) (bk:=bk) (cp:=cp) (mb:=mb) (clk:=OK ((s.frm+i:Nat):Int) clk ms) (c:=c) (LC:=LC) (LD:=LD) (bd:=bd) hlk
   (An.mono (R:=A7) BE (hset [vZ 1] 1 Z ⟨Z,by decide,by decide⟩) hl) (ms:=FL ((s.frm+i:Nat):Int) (.slice (some ⟨bz,0,none⟩) 256 256) clk ms) (fun j hj hj1=>?_) (hC.mono hl) (hD.mono hl)
   (hc.to Z Z (Og.set (by rw[show s.kinds.getD i 0=0 by rw[Acg,Acf hi,h0];rfl];omega))) (hG.to Z Z (i:=i) (x:=1) Z (by omega) (by omega))
  ·(refine Ad<|Ah Z<|AJ Z<|Aj Z<|Ai Z (Aq 0 Z Z)<|Ac Z<|AY Z Z (by omega) (by omega)<|Ac Z<|Ac Z<|Aa<|Ao ?_)
   exact Cw (int_eq (show(s.frm:Int)+i=((s.frm+i:Nat):Int) by omega)) Z (Acd _) ⟨Z,hP⟩
  ·show∃v,CV ((s.frm+j:Nat):Int) (FL ((s.frm+i:Nat):Int) (.slice (some ⟨bz,0,none⟩) 256 256) clk ms)=some v∧AH _ v (D9 s.fb i IA j)∧(D9 s.fb i IA j).length=256
   rw[get_put]
   by_cases e:j=i
   ·subst e
    exact⟨_,if_pos Z,by simp only[D9,if_true];exact hz,by simp only[D9,if_true];exact Adn⟩
   ·rw[if_neg (by omega)]
    have hk1:s.kinds.getD j 0=1:=by
     have:(s.kinds.set i 1).getD j 0=1:=hj1;rw[Dg hi,if_neg e] at this;exact this
    obtain⟨v,g1,g2,g3⟩:=hm j (by rw[←hlk];exact hj) hk1
    exact⟨v,g1,by simp only[D9,if_neg e];exact g2.mono hl,by simp only[D9,if_neg e];exact g3⟩
def N9(P:Program)(f:FuncId):Prop:=∀{d s dv pv w L}{k:Int}{b:Sec},Pg d s dv pv L→AH d w b→AB P f [pv,vZ k,w] d L (Ret fun r d' L'=>r=vZ (s.put k b).2∧Pg d' (s.put k b).1 dv pv L')
def LV(a0 a1 a2:Nat):A3:=⟨26,[(.tmp 6)],(sR (o1 6 (.mv z0) .done) (.seq (.block 0 (sR (om 8 0<|oc 9 a0 [8]<|om 7 9 .done) (.cond 7 (sR (o1 6 (.mv z1) .done) .ret) (sR (om 11 0<|om 12 1<|oc 13 a1 [11,12]<|ob 14 .neq 13 z1<|om 10 14 .done) (.cond 10 (sR (o1 6 (.mv (kZ 240)) .done) .ret) (sR (om 16 2<|oL 17 16<|ob 18 .neq 17 (kZ 256)<|om 15 18 .done) (.cond 15 (sR (o1 6 (.mv z2) .done) .ret) .skip))))))) (.seq (.reg true (pm 19 0<|p1 20 (.nilc 19)<|p1 21 (.fld 4 20)<|pl 22 21<|pm 23 1<|pm 24 2<|oc 25 a2 [24]<|o0 (.mop (.up 0 22 23 25)) .done)) (sR (o1 6 (.mv z0) .done) .ret))))⟩
set_option maxRecDepth 4000 in
def Aas{f3}(hd:dec P f=some (LV f1 f2 f3))(h1:FB P f1)(h2:IL P f2)(h3:Fh AE 1 P f3):N9 P f:=by
 intro d s dv pv w L k by_ hp hw;have hp0:=hp;have hwl:=hw.Bt;have hw':RSl 1 AE d w by_:=hw;obtain⟨b,T,cv,bk,cp,hk,mb,ms,clk,c,LC,LD,bd,rfl,rfl,rfl,hg,hm,hC,hD,hc,hG⟩:=hp;have hlen:=hG.len;have hinn:=hG.inn;have hsyn:=hG.syn;refine AK hd (Aca Z) ?_;show gwp P _ _ _ _ _;refine Ad<|Ac Z<|Aa<|Ag<|Az<|Ad<|Ah Z<|Di (A:=[_]) (B:=_::_::(LC++LD)) Z Z h1 ?_;refine Af Z<|Aa<|AS Z<|Ad<|Ah Z<|Ac Z<|Di (A:=[_,hk]) (B:=_::(LC++LD)) Z Z (h2 (k:=k) hg (by omega)) ?_;rw[OV];by_cases hk1:s.kind k=1
 ·by_cases hb:by_.length=256
  ·obtain⟨i,hi,rfl,hki,hti⟩:=Cu hk1 (by omega);have hr:s.put ((s.frm+i:Nat):Int) by_=({s with fb:=D9 s.fb i by_},0):=by unfold PD.put;rw[if_pos hk1,if_pos hb,hti]
   rw[hr];refine AW Z Z<|Af Z<|Aa<|Aw Z (by omega)<|Ad<|AQ<|Bv Z (by assumption)<|AW Z Z<|Af Z<|Aa<|Aw Z (by omega)<|Al<|Ag<|BX [_] (hk::mpI mb ms clk::(LC++LD)) Z ?_;refine Ah Z<|AJ Z<|Aj Z<|Ai Z (Aq 0 Z Z)<|Ac Z<|AQ<|CF Z (h3 hw' (by omega)) (fun u d2 L2 _ ⟨e1,h,e2,hrow⟩=>?_);subst e1;subst e2;refine Qs (kE:=kI) (vE:=id) (k:=((s.frm+i:Nat):Int)) Ix 2 Z Z Z Z ?_;refine LA ⟨join d2 h,_::_::_::(LC++LD),(Vs.perm (Adb _ _ _)).trans Vs.freeze,?_⟩;have hl:Le d2 (join d2 h):=Le.Au _ _;have hz:AH (join d2 h) u by_:=An.rsl (R:=AE) (sz:=1) hrow AP (by omega) hl (Le.AZ _ _);have hP:=Pg.mk (d:=join d2 h) (s:={s with fb:=D9 s.fb i by_}) (b:=b) (T:=T) (cv:=cv) (bk:=bk) (cp:=cp) (mb:=mb) (clk:=OK ((s.frm+i:Nat):Int) clk ms) (c:=c) (LC:=LC) (LD:=LD) (bd:=bd) Z
    (An.mono (R:=A7) BE hg hl) (ms:=FL ((s.frm+i:Nat):Int) u clk ms) (fun j hj hj1=>?_) (hC.mono hl) (hD.mono hl) (hc.to Z Z (Og.refl _)) (hG.to' Z Z Z)
   ·(refine Ad<|Ac Z<|Aa<|Ao ?_);exact Ci Z (Acd _) ⟨Z,hP⟩
   ·show∃v,CV ((s.frm+j:Nat):Int) (FL ((s.frm+i:Nat):Int) u clk ms)=some v∧AH _ v (D9 s.fb i by_ j)∧(D9 s.fb i by_ j).length=256;rw[get_put];by_cases e:j=i
    ·subst e;exact⟨_,if_pos Z,by simp only[D9,if_true];exact hz,by simp only[D9,if_true];exact hb⟩
    ·rw[if_neg (by omega)];obtain⟨v,g1,g2,g3⟩:=hm j hj hj1;exact⟨v,g1,by simp only[D9,if_neg e];exact g2.mono hl,by simp only[D9,if_neg e];exact g3⟩
  ·have hr:s.put k by_=(s,2):=by unfold PD.put;rw[if_pos hk1,if_neg hb]
   rw[hr];(refine AW Z Z<|Af Z<|Aa<|Aw Z (by omega)<|Ad<|AQ<|Bv Z (by assumption)<|AW Z Z<|Af Z<|Aa<|AF Z (by omega)<|Ad<|Ac Z<|Aa<|Ao ?_);exact Ci Z (Acd _) ⟨Z,hp0⟩
 ·have hr:s.put k by_=(s,240):=by unfold PD.put;rw[if_neg hk1]
  rw[hr];(refine AW Z Z<|Af Z<|Aa<|AF Z (by omega)<|Ad<|Ac Z<|Aa<|Ao ?_);exact Ci Z (Acd _) ⟨Z,hp0⟩
def NK(P:Program)(f:FuncId):Prop:=∀{d s dv pv L}{k:Int},Pg d s dv pv L→AB P f [pv,vZ k] d L (Ret fun r d' L'=>r=vZ (s.drop k).2∧Pg d' (s.drop k).1 dv pv L')
def Ki(a0 a1:Nat):A3:=⟨41,[(.tmp 4)],(sR (o1 4 (.mv z0) .done) (.seq (sR (om 5 0<|oc 6 a0 [5] .done) (.cond 6 (sR (o1 4 (.mv z1) .done) .ret) .skip)) (.seq (sR (om 7 0<|om 8 1<|oc 9 a1 [7,8] .done) (.block 0 (sR (ob 11 .eql 9 z1<|om 10 11 .done) (.cond 10 (.seq (.reg true (pm 12 0<|p1 13 (.nilc 12)<|p1 14 (.fld 3 13)<|pl 15 14<|pm 16 1<|pm 17 0<|p1 18 (.nilc 17)<|p1 19 (.fld 2 18)<|pl 20 19<|p1 21 (.bin .sub 16 20)<|p1 22 (.idx 1 15 21) (.bar (o0 (.st 1 22 z0) .done)))) (rG (om 23 0<|o1 24 (.nilc 23)<|oj 25 4 24<|ol 26 25<|om 27 1<|o0 (.mop (.del 0 26 27)) .done))) (sR (ob 29 .eql 9 z2<|om 28 29 .done) (.cond 28 (.reg true (pm 30 0<|p1 31 (.nilc 30)<|p1 32 (.fld 3 31)<|pl 33 32<|pm 34 1<|pm 35 0<|p1 36 (.nilc 35)<|p1 37 (.fld 2 36)<|pl 38 37<|p1 39 (.bin .sub 34 38)<|p1 40 (.idx 1 33 39) (.bar (o0 (.st 1 40 (kZ 3)) .done)))) (sR (o1 4 (.mv (kZ 240)) .done) .ret))))))) (sR (o1 4 (.mv z0) .done) .ret))))⟩
set_option maxRecDepth 4000 in
def ZH(hd:dec P f=some (Ki f1 f2))(h1:FB P f1)(h2:IL P f2):NK P f:=by
 intro d s dv pv L k hp;have hp0:=hp;obtain⟨b,T,cv,bk,cp,hk,mb,ms,clk,c,LC,LD,bd,rfl,rfl,rfl,hg,hm,hC,hD,hc,hG⟩:=hp;have hlen:=hG.len;have hinn:=hG.inn;have hsyn:=hG.syn;refine AK hd (Aca Z) ?_;show gwp P _ _ _ _ _;refine Ad<|Ac Z<|Aa<|Ag<|Ad<|Ah Z<|Di (A:=[_]) (B:=_::_::(LC++LD)) Z Z h1 ?_;refine Aa<|AS Z<|Al<|Ag<|Ad<|Ah Z<|Ac Z<|Di (A:=[_,hk]) (B:=_::(LC++LD)) Z Z (h2 (k:=k) hg (by omega)) ?_;rw[OV];by_cases hk1:s.kind k=1
 ·obtain⟨i,hi,rfl,hki,hti⟩:=Cu hk1 (by omega);have hr:s.drop ((s.frm+i:Nat):Int)=({s with kinds:=s.kinds.set i 0},0):=by unfold PD.drop;rw[if_pos hk1,hti]
  rw[hr];obtain⟨b1,T1,l1,c1,cs,q1,rfl,hcl,hcs,hle, -,hset⟩:=An.at (by omega) hg hi;cases q1;refine Aa<|Az<|Ad<|AT Z Z<|Af Z<|Aa<|AF Z (by omega)<|Ag<|BX [_] (bx bk T1 l1::mpI mb ms clk::(LC++LD)) Z ?_;refine Ah Z<|AJ Z<|Aj Z<|Ai Z (Aq 0 Z Z)<|Ac Z<|Ah Z<|AJ Z<|Aj Z<|Ai Z (Aq 0 Z Z)<|CP Z Z (by omega) (by omega)<|CK i Z Z (by omega) hi ?_;(apply Du);refine Bg 1 (patch l1 (i*1) [vZ 0]) Z Z Z Z hle Z Z ?_;refine LA ⟨d,_::_::_::(LC++LD),Vs.refl _ _,?_⟩;refine AI<|Ah Z<|AJ Z<|Aj Z<|Ai Z (Aq 0 Z Z)<|Ac Z<|Abd (k:=((s.frm+i:Nat):Int)) Ix 2 Z Z Z ?_;have hP:=Pg.mk (d:=d) (s:={s with kinds:=s.kinds.set i 0}) (b:=b) (T:=T) (cv:=cv) (bk:=bk) (cp:=cp) (mb:=mb) (clk:=clk) (c:=c) (LC:=LC) (LD:=LD) (bd:=bd) (n:=s.kinds.length) (by simp)
    (hset [vZ 0] 0 Z ⟨Z,by omega,by omega⟩) (ms:=IB ((s.frm+i:Nat):Int) ms) (fun j hj hj1=>?_) hC hD (hc.to Z Z (Og.set (by rw[show s.kinds.getD i 0=1 from hki];omega))) (hG.to Z Z Z (by omega) (by omega))
  ·(refine Aa<|Ad<|Ac Z<|Aa<|Ao ?_);exact Ci Z (Acd _) ⟨Z,hP⟩
  ·have hj1':(s.kinds.set i 0).getD j 0=1:=hj1;rw[Dg hi] at hj1';by_cases e:j=i
   ·rw[if_pos e] at hj1';cases hj1'
   ·rw[if_neg e] at hj1';obtain⟨v,g1,g2,g3⟩:=hm j (by simpa using hj) hj1';have g0:CV ((s.frm+j:Nat):Int) (IB ((s.frm+i:Nat):Int) ms)=some v:=by rw[TF (by omega)];exact g1
    exact⟨v,g0,g2,g3⟩
 ·by_cases hk2:s.kind k=2
  ·obtain⟨i,hi,rfl,hki,hti⟩:=Cu hk2 (by omega);have hr:s.drop ((s.frm+i:Nat):Int)=({s with kinds:=s.kinds.set i 3},0):=by unfold PD.drop;rw[if_neg hk1,if_pos hk2,hti]
   rw[hr];obtain⟨b1,T1,l1,c1,cs,q1,rfl,hcl,hcs,hle, -,hset⟩:=An.at (by omega) hg hi;cases q1;refine Aa<|Az<|Ad<|AT Z Z<|Af Z<|Aa<|Aw Z (by omega)<|Ad<|AT Z Z<|Af Z<|Aa<|AF Z (by omega)<|BX [_] (bx bk T1 l1::mpI mb ms clk::(LC++LD)) Z ?_;refine Ah Z<|AJ Z<|Aj Z<|Ai Z (Aq 0 Z Z)<|Ac Z<|Ah Z<|AJ Z<|Aj Z<|Ai Z (Aq 0 Z Z)<|CP Z Z (by omega) (by omega)<|CK i Z Z (by omega) hi ?_;(apply Du);refine Bg 1 (patch l1 (i*1) [vZ 3]) Z Z Z Z hle Z Z ?_;refine LA ⟨d,_::_::_::(LC++LD),Vs.refl _ _,?_⟩;have hP:=Pg.mk (d:=d) (s:={s with kinds:=s.kinds.set i 3}) (b:=b) (T:=T) (cv:=cv) (bk:=bk) (cp:=cp) (mb:=mb) (clk:=clk) (c:=c) (LC:=LC) (LD:=LD) (bd:=bd) (n:=s.kinds.length) (by simp)
     (hset [vZ 3] 3 Z ⟨Z,by omega,by omega⟩) (ms:=ms) (fun j hj hj1=>?_) hC hD (hc.to Z Z (Og.set (by rw[show s.kinds.getD i 0=2 from hki];omega))) (hG.to Z Z Z (by omega) (by omega))
   ·(refine Ad<|Ac Z<|Aa<|Ao ?_);exact Ci Z (Acd _) ⟨Z,hP⟩
   ·have hj1':(s.kinds.set i 3).getD j 0=1:=hj1;rw[Dg hi] at hj1';by_cases e:j=i
    ·rw[if_pos e] at hj1';cases hj1'
    ·rw[if_neg e] at hj1';exact hm j (by simpa using hj) hj1'
  ·have hr:s.drop k=(s,240):=by unfold PD.drop;rw[if_neg hk1,if_neg hk2]
   rw[hr];(refine Aa<|Az<|Ad<|AT Z Z<|Af Z<|Aa<|Aw Z (by omega)<|Ad<|AT Z Z<|Af Z<|Aa<|Aw Z (by omega)<|Ad<|Ac Z<|Aa<|Ao ?_);exact Ci Z (Acd _) ⟨Z,hp0⟩
def AbT(d:Ab)(h:Option Sec)(r:Value):Prop:=match h with|some x=>AH d r x|none=>r=nV
def E7(P:Program)(f:FuncId):Prop:=∀{d s dv pv L}{k:Int},Pg d s dv pv L→
 AB P f [pv,vZ k] d L (Ret fun r d' L'=>(∃q,r=.tuple #[q,vZ (match (s.get k).2 with|some _=>0|none=>240)]∧AbT d' (s.get k).2 q)∧Pg d' (s.get k).1 dv pv L')
def Mb(a0 a1 a2 a3 a4:Nat):A3:=⟨57,[(.tmp 4),(.tmp 5)],(sR (o1 4 (.mv nS)<|o1 5 (.mv z0) .done) (.seq (sR (om 8 0<|oc 9 a0 [8] .done) (.cond 9 (sR (o1 4 (.mv nS)<|o1 5 (.mv z1) .done) .ret) .skip)) (.seq (sR (om 10 0<|om 11 1<|oc 12 a1 [10,11] .done) (.block 0 (sR (ob 14 .eql 12 z1<|om 13 14 .done) (.cond 13 (sR (om 15 0<|o1 16 (.nilc 15)<|oj 17 6 16<|ol 18 17<|ob 19 .add 18 z1<|o1 20 (.nilc 15)<|oj 21 6 20<|o0 (.st 1 21 19) .done) (sR (om 22 0<|o1 23 (.nilc 22)<|oj 24 4 23<|ol 25 24<|om 26 1<|o1 27 (.mop (.lk 0 nV false 25 26))<|oc 28 a2 [27]<|om 4 28<|o1 5 (.mv z0) .done) .ret)) (sR (ob 30 .eql 12 z2<|om 29 30 .done) (.cond 29 (sR (om 32 0<|o1 33 (.nilc 32)<|oj 34 1 33<|ol 35 34<|om 36 1<|oc 37 a3 [35,36]<|om 31 37<|oe 38 31 0<|oe 39 31 1<|om 6 38<|om 7 39 .done) (.seq (sR (om 40 7<|ob 41 .neq 40 z0 .done) (.cond 41 (sR (om 42 7<|o1 4 (.mv nS)<|om 5 42 .done) .ret) .skip)) (sR (om 43 0<|o1 44 (.nilc 43)<|oj 45 1 44<|ol 46 45<|om 47 1<|oc 48 a4 [46,47] .done) (sR (om 49 0<|o1 50 (.nilc 49)<|oj 51 6 50<|ol 52 51<|ob 53 .add 52 z1<|o1 54 (.nilc 49)<|oj 55 6 54<|o0 (.st 1 55 53) .done) (sR (om 56 6<|om 4 56<|o1 5 (.mv z0) .done) .ret))))) .skip)))))) (sR (o1 4 (.mv nS)<|o1 5 (.mv (kZ 240)) .done) .ret))))⟩
set_option maxRecDepth 4000 in
def Aak{f3 f4 f5}(hd:dec P f=some (Mb f1 f2 f3 f4 f5))(h1:FB P f1)(h2:IL P f2)(h3:Fh AE 1 P f3)(h4:KJ P f4)(h5:HW P f5):E7 P f:=by
 intro d s dv pv L k hp;have hp0:=hp;obtain⟨b,T,cv,bk,cp,hk,mb,ms,clk,c,LC,LD,bd,rfl,rfl,rfl,hg,hm,hC,hD,hc,hG⟩:=hp;have hlen:=hG.len;have hinn:=hG.inn;have hsyn:=hG.syn;refine AK hd (Aca Z) ?_;show gwp P _ _ _ _ _;refine Ad<|Ak Z<|Ac Z<|Aa<|Ag<|Ad<|Ah Z<|Di (A:=[_]) (B:=_::_::(LC++LD)) Z Z h1 ?_;refine Aa<|AS Z<|Al<|Ag<|Ad<|Ah Z<|Ac Z<|Di (A:=[_,hk]) (B:=_::(LC++LD)) Z Z (h2 (k:=k) hg (by omega)) ?_;rw[OV];by_cases hk1:s.kind k=1
 ·obtain⟨i,hi,rfl,hki,hti⟩:=Cu hk1 (by omega);have hr:s.get ((s.frm+i:Nat):Int)=({s with tc:=s.tc+1},some (s.fb i)):=by unfold PD.get;rw[if_pos hk1,hti]
  rw[hr];obtain⟨v,g1,g2,g3⟩:=hm i hi hki;refine Aa<|Az<|Ad<|AT Z Z<|Af Z<|Aa<|AF Z (by omega)<|Ad<|Ah Z<|AJ Z<|Aj Z<|Ai Z (Aq 0 Z Z)<|Kt Z Z ?_;refine AJ Z<|Aj Z<|Bg 0 [pZ bd,cv,vZ s.frm,.slice (some ⟨bk,0,none⟩) s.kinds.length cp,.map (some mb),vZ (wr s.round),vZ (wr (s.tc+1))] Z Z Z Z (Aca Z) Z Z ?_;refine Aa<|Ad<|Ah Z<|AJ Z<|Aj Z<|Ai Z (Aq 0 Z Z)<|Ac Z<|Qi (kE:=kI) (vE:=id) (k:=((s.frm+i:Nat):Int)) Ix 2 Z Z Z g1 ?_;refine CF (vs:=[v]) Z (h3 g2 (by rw[g3];decide)) (fun u d2 L2 _ ⟨q1,h,q2,hrow⟩=>?_);subst q1;subst q2;(refine AQ<|Ac Z<|Aa<|Ao ?_);have hP:=Pg.mk (d:=d2) (s:={s with tc:=s.tc+1}) (b:=b) (T:=T) (cv:=cv) (bk:=bk) (cp:=cp) (mb:=mb) (clk:=clk) (c:=c) (LC:=LC) (LD:=LD) (bd:=bd) Z hg hm hC hD (hc.to Z Z (Og.refl _)) (hG.to' Z Z Z);skip;exact A9 [u,vZ 0] ⟨Z,Z,trivial⟩ (d':=join d2 h) (L':=_::_::_::(LC++LD)) Vs.freeze ⟨⟨_,Z,An.rsl (R:=AE) (sz:=1) hrow AP (by omega) (Le.Au _ _) (Le.AZ _ _)⟩,hP.mono (Le.Au _ _)⟩
 ·by_cases hk2:s.kind k=2
  ·obtain⟨i,hi,rfl,hki,hti⟩:=Cu hk2 (by omega);have hr:s.get ((s.frm+i:Nat):Int)=({s with tc:=s.tc+1},some (s.syn.getD (s.frm+i) [])):=by unfold PD.get;rw[if_neg hk1,if_pos hk2];rfl
   rw[hr];obtain⟨c',e1,e2,e3,e4,e5⟩:=hc.get (k:=s.frm+i) (by omega) (by omega) (by omega) (by rw[show s.frm+i - s.frm=i by omega,hki];omega);(refine Aa<|Az<|Ad<|AT Z Z<|Af Z<|Aa<|Aw Z (by omega)<|Ad<|AT Z Z<|Af Z<|Aa<|AF Z (by omega)<|Ad<|Ah Z<|AJ Z<|Aj Z<|Ai Z (Aq 0 Z Z)<|Ac Z ?_);have hcur:E0.cur ⟨s.syn,[]⟩ (s.frm+i)=s.syn.getD (s.frm+i) []:=Z;refine HG (h4 (k:=s.frm+i) hC hD e2 (show s.frm+i<s.syn.length by omega)) (Acn (l₁:=[_,_,_])) Z (fun u d2 L2 hl2 ⟨LC2,LD2,q1,q2,q3,q4⟩=>?_);rw[hcur,e1] at q2 q4;obtain⟨v,rfl,hv⟩:=q4;subst q1;refine⟨d2,_::_::_::(LC2++LD2),Vs.perm (Acn (l₂:=[_,_,_])),?_⟩
   refine AU Z<|Ap Z Z<|Ap Z Z<|AQ<|Ac Z<|Aa<|Ag<|Ad<|Ac Z<|AW Z Z<|Aa<|Aw Z (by omega)<|Al<|Ad<|Ah Z<|AJ Z<|Aj Z<|Ai Z (Aq 0 Z Z)<|Ac Z<|HG (h5 (k:=s.frm+i) q2 e3) (Aeh [_,_,_] _ _) Z (fun u d3 L3 hl3 ⟨q5,q6,q7⟩=>?_);subst q5;subst q6;refine⟨d3,_::_::_::(L3++LD2),Vs.perm (Aeh _ [_,_,_] _),?_⟩
   refine Aa<|Ad<|Ah Z<|AJ Z<|Aj Z<|Ai Z (Aq 0 Z Z)<|Kt Z Z ?_;have hP:=Pg.mk (d:=d3) (s:={s with tc:=s.tc+1}) (b:=b) (T:=T) (cv:=cv) (bk:=bk) (cp:=cp) (mb:=mb) (clk:=clk) (c:=(CJ c' (s.frm+i)).1) (LC:=L3) (LD:=LD2) (bd:=bd) Z (An.mono (R:=A7) BE hg hl2) (hm.mono hl2) q7 q3 (e5.to Z Z (Og.refl _)) (hG.to' Z Z Z);refine AJ Z<|Aj Z<|Bg 0 [pZ bd,cv,vZ s.frm,.slice (some ⟨bk,0,none⟩) s.kinds.length cp,.map (some mb),vZ (wr s.round),vZ (wr (s.tc+1))] Z Z Z Z (Aca Z) Z Z ?_;(refine Aa<|Ad<|AQ<|AQ<|Ac Z<|Aa<|Ao ?_);exact Cw Z Z (Acd _) ⟨⟨_,Z,hv⟩,hP⟩
  ·have hr:s.get k=(s,none):=by unfold PD.get;rw[if_neg hk1,if_neg hk2]
   rw[hr];(refine Aa<|Az<|Ad<|AT Z Z<|Af Z<|Aa<|Aw Z (by omega)<|Ad<|AT Z Z<|Af Z<|Aa<|Aw Z (by omega)<|Al<|Ad<|Ak Z<|Ac Z<|Aa<|Ao ?_);exact Cw Z Z (Acd _) ⟨⟨_,Z,Z⟩,hp0⟩
end Go.Gk.Pgr
end
section
namespace Go.Gk.Pgr
open Go Go.Gk Go.Gk.Dev Go.Gk.Cch Go.Gk.Node
section
attribute [local irreducible] gwp gws xwp
end
end Go.Gk.Pgr
end
